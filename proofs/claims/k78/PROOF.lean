import PyProof.Rows.All
import Wide.All
import OpenK.AllK
import Wide.FinOn
import HandS.ForMost
import HandS.Wide
import HandS.Flow
import HandS.Style
import HandS.IsInst
import HandS.TupMul
import HandS.Conv
import HandS.Deep
import HandS.HeadEnd
import HandS.Defaults
import HandS.Head0
import HandS.Head1
import HandS.Head2
import HandS.HeadHook1
import HandS.HeadHook2
import PySem.Challenge.RW_wordscancel_k78_images_of_words
set_option Elab.async false
set_option linter.all false
set_option maxRecDepth 100000
set_option maxHeartbeats 0
/-! PD1: tree data, the small language, its evaluator. No heap, no model. -/
namespace PD
open PySem

/-- keys of dicts, items of sets: an int or a text, or a tuple of such -/
abbrev Ky := Sum L2.Key (List L2.Key)

/-- tree data -/
inductive D where
  | non | bl (b : Bool) | int (i : Int) | str (x : Str)
  | lst (xs : List D) | tup (xs : List D)
  | dic (ks : List Ky) (vs : List D)
  | scr (ns : List Int)
  deriving Inhabited

/-- depth of ownership: 8 is without end -/
abbrev om : Nat := 8
def dn (k : Nat) : Nat := if 8 ≤ k then k else k - 1
def up (k : Nat) : Nat := if 8 ≤ k then k else min (k + 1) 7

/-- no list, no dict within -/
def imm : D → Bool
  | .non | .bl _ | .int _ | .str _ => true
  | .tup xs => immL xs
  | .lst _ | .dic _ _ | .scr _ => false
where immL : List D → Bool
  | [] => true
  | x :: xs => imm x && immL xs
def fr (d : D) (k : Nat) : Nat := if imm d then 8 else k

/-- every list or dict of d stands above the depth k -/
def cov : Nat → D → Bool
  | _, .non | _, .bl _ | _, .int _ | _, .str _ => true
  | k, .tup xs => covL k xs
  | k, .lst xs => decide (k ≠ 0) && covL (dn k) xs
  | k, .dic _ vs => decide (k ≠ 0) && covL (dn k) vs
  | _, .scr _ => false
where covL : Nat → List D → Bool
  | _, [] => true
  | k, x :: xs => cov k x && covL k xs

/-- the same as the kit's data, for == -/
def D.py : D → PyData
  | .non => .none | .bl b => .bool b | .int i => .int i | .str x => .str x
  | .lst xs => .list (pyL xs) | .tup xs => .tuple (pyL xs)
  | .dic _ _ | .scr _ => .dict []
where pyL : List D → List PyData
  | [] => []
  | x :: xs => x.py :: pyL xs

/-! ### the language -/
inductive Tg where
  | one (i : Nat)
  | many (is : List Nat)
  deriving DecidableEq

inductive Blt where
  | len | abs | int1 | sum | max | min | list | tuple | isList | isTuple | isInt | isBool | isStr | sorted | rev
  | get1 | get2 | index | count
  deriving DecidableEq

inductive Itk where
  | rng1 | rng2 | val | rev
  deriving DecidableEq

mutual
inductive E where
  | cst (d : D)
  | var (i : Nat)
  | lst (es : Es)
  | tup (es : Es)
  | bin (op : Operator) (a b : E)
  | neg (a : E)
  | cmp (op : CmpOp) (a b : E)
  | chn (op op' : CmpOp) (a b c : E)
  | and (a b : E)
  | or (a b : E)
  | not (a : E)
  | idx (a b : E)
  | sli (a : E) (lo hi : Es)
  | bck (a : E)
  | blt (f : Blt) (es : Es)
  | call (f : Nat) (es : Es)
  | cmpr (t : Tg) (own : List Nat) (ik : Itk) (it : Es) (c : E) (elt : E) (k : Nat)
  | cmp2 (t : Tg) (own : List Nat) (ik : Itk) (it : Es) (c : E) (t2 : Tg) (own2 : List Nat) (ik2 : Itk) (it2 : Es) (c2 : E) (elt : E) (k : Nat)
  | dict0 (t : Bool)
inductive Es where
  | nil
  | cons (e : E) (es : Es)
end

/-- names by slot: the datum and how deep it is owned -/
abbrev Nv := List (Option (D × Nat))

mutual
def vars : E → List Nat
  | .cst _ => []
  | .var i => [i]
  | .lst es | .tup es => varsS es
  | .bin _ a b | .cmp _ a b | .and a b | .or a b | .idx a b => vars a ++ vars b
  | .chn _ _ a b c => vars a ++ (vars b ++ vars c)
  | .neg a | .not a | .bck a => vars a
  | .sli a lo hi => vars a ++ varsS lo ++ varsS hi
  | .blt _ es | .call _ es => varsS es
  | .cmpr _ _ _ it c e _ => varsS it ++ vars c ++ vars e
  | .cmp2 _ _ _ it c _ _ _ it2 c2 e _ => varsS it ++ vars c ++ varsS it2 ++ vars c2 ++ vars e
  | .dict0 _ => []
def varsS : Es → List Nat
  | .nil => []
  | .cons e es => vars e ++ varsS es
end

def truth : D → Option Bool
  | .non => some false
  | .bl b => some b
  | .int i => some (i != 0)
  | .lst xs => some (!xs.isEmpty)
  | .tup xs => some (!xs.isEmpty)
  | _ => none

/-- a product of ints that the machine takes -/
def mulOk (i j : Int) : Bool := decide (i.natAbs.log2 + j.natAbs.log2 < 1000000)
def divOk (j : Int) : Bool := decide (0 < j ∧ j.natAbs.log2 < 9000)
def small (n : Nat) : Bool := decide (n ≤ sizeLine)

def binD : Operator → D → D → Option (D × Nat)
  | .Add, .int i, .int j => some (.int (i + j), 8)
  | .Sub, .int i, .int j => some (.int (i - j), 8)
  | .Mult, .int i, .int j => if mulOk i j then some (.int (i * j), 8) else none
  | .FloorDiv, .int i, .int j => if divOk j then some (.int (i / j), 8) else none
  | .Mod, .int i, .int j => if 0 < j then some (.int (i % j), 8) else none
  | .Pow, .int i, .int j => if 0 ≤ j ∧ j ≤ 1000000 ∧ i.natAbs < 2 ^ 64 then some (.int (i ^ j.toNat), 8) else none
  | .Add, .lst xs, .lst ys => if small (xs.length + ys.length) then some (.lst (xs ++ ys), 1) else none
  | .Add, .tup xs, .tup ys => if !xs.isEmpty && small (xs.length + ys.length) then some (.tup (xs ++ ys), fr (.tup (xs ++ ys)) 0) else none
  | .Mult, .lst xs, .int n => if -(2 ^ 63) ≤ n ∧ n < 2 ^ 63 ∧ small (xs.length * n.toNat) then some (.lst (List.replicate n.toNat xs).flatten, 1) else none
  | .Mult, .tup xs, .int n => if xs ≠ [] ∧ 2 ≤ n ∧ n ≤ 1000 ∧ xs.length ≤ 1000 then some (.tup (List.replicate n.toNat xs).flatten, fr (.tup (List.replicate n.toNat xs).flatten) 0) else none
  | _, _, _ => none

def eqD (d e : D) : Option Bool := if SeqAt.shaped d.py && SeqAt.shaped e.py then some (PyData.eqv d.py e.py) else none

def isFlat : D → Bool
  | .non | .bl _ | .int _ | .str _ => true
  | _ => false

/-- x in xs: deep, by == -/
def inD (x : D) (xs : List D) : Option Bool := if SeqAt.shaped x.py && SeqAt.shaped (D.lst xs).py then some (xs.any fun y => PyData.eqv y.py x.py) else none

def keyOf1 : D → Option L2.Key
  | .int i => some (.inl i)
  | .str x => some (.inr x)
  | _ => none
def keysOf : List D → Option (List L2.Key)
  | [] => some []
  | d :: ds => match keyOf1 d, keysOf ds with | some k, some ks => some (k :: ks) | _, _ => none
def keyOf : D → Option Ky
  | .int i => some (.inl (.inl i))
  | .str x => some (.inl (.inr x))
  | .tup xs => (keysOf xs).map .inr
  | _ => none

def isNon : D → Bool
  | .non => true
  | _ => false
def cmpD : CmpOp → D → D → Option Bool
  | .Eq, d, e => eqD d e
  | .NotEq, d, e => (eqD d e).map (!·)
  | .Lt, .int i, .int j => some (decide (i < j))
  | .LtE, .int i, .int j => some (decide (i ≤ j))
  | .Gt, .int i, .int j => some (decide (j < i))
  | .GtE, .int i, .int j => some (decide (j ≤ i))
  | .Is, d, .non => some (isNon d)
  | .IsNot, d, .non => some (!isNon d)
  | .In, x, .lst xs => inD x xs
  | .NotIn, x, .lst xs => (inD x xs).map (!·)
  | _, _, _ => none

def ixD (d i : D) : Option D :=
  match d, i with
  | .lst xs, .int i => L2.atI xs i
  | .tup xs, .int i => L2.atI xs i
  | _, _ => none

def optInt : List (D × Nat) → Option (Option Int)
  | [] => some none
  | [(.int i, _)] => some (some i)
  | _ => none
def cut (xs : List D) (lo hi : Option Int) : List D := (xs.drop (HT.sIx xs.length 0 lo)).take (HT.sIx xs.length xs.length hi - HT.sIx xs.length 0 lo)
def cutI (xs : List Int) (lo hi : Option Int) : List Int := (xs.drop (HT.sIx xs.length 0 lo)).take (HT.sIx xs.length xs.length hi - HT.sIx xs.length 0 lo)
def sliD (d : D) (lo hi : Option Int) : Option (D × Nat) :=
  match d with
  | .lst xs => some (.lst (cut xs lo hi), 1)
  | .scr ns => some (.lst ((cutI ns lo hi).map .int), 8)
  | _ => none

def intsOf : List D → Option (List Int)
  | [] => some []
  | .int i :: ds => (intsOf ds).map (i :: ·)
  | _ => none

def lenD : List D → Option (D × Nat)
  | [.lst xs] => some (.int xs.length, 8)
  | [.tup xs] => some (.int xs.length, 8)
  | _ => none
def absD : List D → Option (D × Nat)
  | [.int i] => some (.int (if i < 0 then -i else i), 8)
  | _ => none
def intD : List D → Option (D × Nat)
  | [.int i] => some (.int i, 8)
  | [.bl b] => some (.int (if b then 1 else 0), 8)
  | _ => none
def sumD : List D → Option (D × Nat)
  | [.lst xs] => match intsOf xs with | some ns => some (.int ns.sum, 8) | none => none
  | _ => none
def maxD : List D → Option (D × Nat)
  | [.int i, .int j] => some (.int (if j > i then j else i), 8)
  | _ => none
def minD : List D → Option (D × Nat)
  | [.int i, .int j] => some (.int (if j < i then j else i), 8)
  | _ => none
def listD : List D → Option (D × Nat)
  | [.lst xs] => some (.lst xs, 1)
  | [.tup xs] => some (.lst xs, 1)
  | _ => none
def tupleD : List D → Option (D × Nat)
  | [.lst xs] => some (.tup xs, fr (.tup xs) 0)
  | [.tup xs] => some (.tup xs, fr (.tup xs) 0)
  | _ => none
/-- the name of a datum's class -/
def tyOf : D → Option String
  | .non => some "NoneType" | .bl _ => some "bool" | .int _ => some "int" | .str _ => some "str" | .lst _ => some "list" | .tup _ => some "tuple"
  | _ => none
def isD (f : String → Bool) : List D → Option (D × Nat)
  | [d] => match tyOf d with | some t => some (.bl (f t), 8) | none => none
  | _ => none
def bltD : Blt → List D → Option (D × Nat)
  | .len, ds => lenD ds
  | .abs, ds => absD ds
  | .int1, ds => intD ds
  | .sum, ds => sumD ds
  | .max, ds => maxD ds
  | .min, ds => minD ds
  | .list, ds => listD ds
  | .tuple, ds => tupleD ds
  | .isList, ds => isD (fun t => t == "list") ds
  | .isTuple, ds => isD (fun t => t == "tuple") ds
  | .isInt, ds => isD (fun t => t == "int" || t == "bool") ds
  | .isBool, ds => isD (fun t => t == "bool") ds
  | .isStr, ds => isD (fun t => t == "str") ds
  | _, _ => none

def rng1D : List D → Option (List D)
  | [.int n] => if -(2 ^ 62) ≤ n ∧ n < 2 ^ 62 then some ((List.range n.toNat).map fun i => .int (0 + ((i : Nat) : Int))) else none
  | _ => none
def rng2D : List D → Option (List D)
  | [.int a, .int b] => if -(2 ^ 62) ≤ a ∧ a < 2 ^ 62 ∧ -(2 ^ 62) ≤ b ∧ b < 2 ^ 62 then some ((List.range (b - a).toNat).map fun i => .int (a + ((i : Nat) : Int))) else none
  | _ => none
def valD : List D → Option (List D)
  | [.lst xs] => some xs
  | [.tup xs] => some xs
  | _ => none
def revD : List D → Option (List D)
  | [.lst xs] => some xs.reverse
  | _ => none
def itD : Itk → List D → Option (List D)
  | .rng1, ds => rng1D ds
  | .rng2, ds => rng2D ds
  | .val, ds => valD ds
  | .rev, ds => revD ds

def minK : List (D × Nat) → Nat
  | [] => 8
  | (_, k) :: r => min k (minK r)

/-- a value at a target, for reading alone -/
def bindT (t : Tg) (d : D) (σ : Nv) : Option Nv :=
  match t, d with
  | .one i, d => some (σ.set i (some (d, 0)))
  | .many is, .tup ds => if is.length = ds.length then some (go is ds σ) else none
  | _, _ => none
where go : List Nat → List D → Nv → Nv
  | i :: is, d :: ds, σ => go is ds (σ.set i (some (d, 0)))
  | _, _, σ => σ

def wipe (σ : Nv) : List Nat → Nv
  | [] => σ
  | v :: vs => (wipe σ vs).set v none

/-- the items that come, in order -/
def compL (f : D → Option (Option D)) : List D → Option (List D)
  | [] => some []
  | d :: ds => match f d with
    | none => none
    | some o => match compL f ds with
      | none => none
      | some r => some (match o with | none => r | some x => x :: r)
def compLL (f : D → Option (List D)) : List D → Option (List D)
  | [] => some []
  | d :: ds => match f d with
    | none => none
    | some o => match compLL f ds with
      | none => none
      | some r => some (o ++ r)

abbrev PhiT := Nat → List D → Option (D × Nat × D)

mutual
def evalE (Φ : PhiT) : E → Nv → Option (D × Nat)
  | .cst d, _ => some (d, 8)
  | .var i, σ => match σ[i]? with | some (some (d, _)) => some (d, fr d 0) | _ => none
  | .lst es, σ => match evalEs Φ es σ with
    | some r => if small r.length then some (.lst (r.map (·.1)), up (minK r)) else none
    | none => none
  | .tup es, σ => match evalEs Φ es σ with
    | some r => if small r.length then some (.tup (r.map (·.1)), minK r) else none
    | none => none
  | .bin op a b, σ => match evalE Φ a σ with
    | some (x, _) => match evalE Φ b σ with
      | some (y, _) => binD op x y
      | none => none
    | none => none
  | .neg a, σ => match evalE Φ a σ with
    | some (.int i, _) => some (.int (-i), 8)
    | _ => none
  | .cmp op a b, σ => match evalE Φ a σ with
    | some (x, _) => match evalE Φ b σ with
      | some (y, _) => match cmpD op x y with
        | some r => some (.bl r, 8)
        | none => none
      | none => none
    | none => none
  | .chn op op' a b c, σ => match evalE Φ a σ with
    | some (x, _) => match evalE Φ b σ with
      | some (y, _) => match cmpD op x y with
        | some true => match evalE Φ c σ with
          | some (z, _) => match cmpD op' y z with
            | some r => some (.bl r, 8)
            | none => none
          | none => none
        | some false => some (.bl false, 8)
        | none => none
      | none => none
    | none => none
  | .and a b, σ => match evalE Φ a σ with
    | some (x, k) => match truth x with
      | some true => evalE Φ b σ
      | some false => some (x, k)
      | none => none
    | none => none
  | .or a b, σ => match evalE Φ a σ with
    | some (x, k) => match truth x with
      | some true => some (x, k)
      | some false => evalE Φ b σ
      | none => none
    | none => none
  | .not a, σ => match evalE Φ a σ with
    | some (x, _) => match truth x with
      | some b => some (.bl (!b), 8)
      | none => none
    | none => none
  | .idx a b, σ => match evalE Φ a σ with
    | some (x, _) => match evalE Φ b σ with
      | some (y, _) => match ixD x y with
        | some d => some (d, fr d 0)
        | none => none
      | none => none
    | none => none
  | .sli a lo hi, σ => match evalE Φ a σ with
    | some (x, _) => match evalEs Φ lo σ with
      | some l => match evalEs Φ hi σ with
        | some h => match optInt l, optInt h with
          | some l, some h => sliD x l h
          | _, _ => none
        | none => none
      | none => none
    | none => none
  | .bck a, σ => match evalE Φ a σ with
    | some (.lst xs, _) => some (.lst xs.reverse, 1)
    | _ => none
  | .blt f es, σ => match evalEs Φ es σ with
    | some r => bltD f (r.map (·.1))
    | none => none
  | .call f es, σ => match evalEs Φ es σ with
    | some r => match Φ f (r.map (·.1)) with
      | some (d, k, _) => some (d, fr d k)
      | none => none
    | none => none
  | .cmpr t own ik it c elt k, σ => match evalEs Φ it σ with
    | some r => match itD ik (r.map (·.1)) with
      | some ds => match compL (fun d => match bindT t d (wipe σ own) with
          | some σ2 => match evalE Φ c σ2 with
            | some (b, _) => match truth b with
              | some true => match evalE Φ elt σ2 with
                | some (x, k') => if k ≤ k' then some (some x) else none
                | none => none
              | some false => some none
              | none => none
            | none => none
          | none => none) ds with
        | some xs => if small xs.length then some (.lst xs, up k) else none
        | none => none
      | none => none
    | none => none
  | .cmp2 t own ik it c t2 own2 ik2 it2 c2 elt k, σ => match evalEs Φ it σ with
    | some r => match itD ik (r.map (·.1)) with
      | some ds => match compLL (fun d => match bindT t d (wipe σ own) with
          | some σ2 => match evalE Φ c σ2 with
            | some (b, _) => match truth b with
              | some true => match evalEs Φ it2 σ2 with
                | some r2 => match itD ik2 (r2.map (·.1)) with
                  | some ds2 => compL (fun d2 => match bindT t2 d2 (wipe σ2 own2) with
                    | some σ3 => match evalE Φ c2 σ3 with
                      | some (b2, _) => match truth b2 with
                        | some true => match evalE Φ elt σ3 with
                          | some (x, k') => if k ≤ k' then some (some x) else none
                          | none => none
                        | some false => some none
                        | none => none
                      | none => none
                    | none => none) ds2
                  | none => none
                | none => none
              | some false => some []
              | none => none
            | none => none
          | none => none) ds with
        | some xs => if small xs.length then some (.lst xs, up k) else none
        | none => none
      | none => none
    | none => none
  | .dict0 _, _ => some (.dic [] [], 8)
def evalEs (Φ : PhiT) : Es → Nv → Option (List (D × Nat))
  | .nil, _ => some []
  | .cons e es, σ => match evalE Φ e σ with
    | some x => match evalEs Φ es σ with
      | some r => some (x :: r)
      | none => none
    | none => none
end

/-! ### statements -/
/-- a thing that is changed: a name, or an item of one -/
inductive Pth where
  | var (i : Nat)
  | idx (p : Pth) (e : E)
def Pth.toE : Pth → E
  | .var i => .var i
  | .idx p e => .idx p.toE e
def Pth.root : Pth → Nat
  | .var i => i
  | .idx p _ => p.root

/-- a part of a tuple that is given back -/
inductive RT where
  | c (d : D)
  | v (i : Nat)
def RT.slots : List RT → List Nat
  | [] => []
  | .c _ :: r => RT.slots r
  | .v i :: r => i :: RT.slots r
inductive S where
  | skip
  | seq (a b : S)
  | asg (t : Tg) (e : E)
  | par (i j : Nat) (a b : E)
  | put (p : Pth) (i v : E)
  | put2 (p : Pth) (i : E) (q : Pth) (j e : E)
  | app (p : Pth) (e : E)
  | pop (t : Option Tg) (p : Pth)
  | ite (c : E) (a b : S)
  | fr (t : Tg) (ik : Itk) (it : Es) (b : S)
  | whl (c : E) (b : S)
  | ret (e : E)
  | retv (i : Nat)
  | rett (rs : List RT)
  | retN
  | brk
  | cnt

inductive Out where
  | nx (σ : Nv)
  | rt (σ : Nv) (d : D) (k : Nat)
  | bk (σ : Nv)
  | ct (σ : Nv)

/-- what is owned of the names is shared from here on -/
def demote (σ : Nv) : List Nat → Nv
  | [] => σ
  | i :: is => demote (match σ[i]? with | some (some (d, _)) => σ.set i (some (d, 0)) | _ => σ) is
def ownd (σ : Nv) (i : Nat) : Bool := match σ[i]? with | some (some (_, k)) => decide (k ≠ 0) | _ => false
/-- a value of an expression over the names vs is kept from here on -/
def esc (σ : Nv) (vs : List Nat) (d : D) (k : Nat) : Nv := if vs.any (ownd σ) then (if cov k d then σ else demote σ vs) else σ

def esc0 (σ : Nv) (vs : List Nat) : Nv := if vs.any (ownd σ) then demote σ vs else σ
def isRng : Itk → Bool
  | .rng1 | .rng2 => true
  | _ => false

def setV (own : List Nat) (i : Nat) (d : D) (k : Nat) (σ : Nv) : Option Nv := if own.getD i 0 ≤ k then some (σ.set i (some (d, own.getD i 0))) else none
def setT (own : List Nat) (t : Tg) (d : D) (k : Nat) (σ : Nv) : Option Nv :=
  match t, d with
  | .one i, d => setV own i d k σ
  | .many is, .tup ds => if is.length = ds.length then go is ds σ else none
  | _, _ => none
where go : List Nat → List D → Nv → Option Nv
  | i :: is, d :: ds, σ => match setV own i d (fr d k) σ with | some σ => go is ds σ | none => none
  | _, _, σ => some σ

/-- the tree d, owned k deep, changed at the place path by f -/
def chg (f : D → Nat → Option D) : List D → D → Nat → Option D
  | [], d, k => if k = 0 then none else f d k
  | i :: r, .lst xs, k => if k = 0 then none else match i with
    | .int i => match L2.ixN xs.length i with
      | some j => match xs[j]? with
        | some x => match chg f r x (dn k) with
          | some y => some (.lst (xs.set j y))
          | none => none
        | none => none
      | none => none
    | _ => none
  | i :: r, .tup xs, k => match i with
    | .int i => match L2.ixN xs.length i with
      | some j => match xs[j]? with
        | some x => match chg f r x k with
          | some y => some (.tup (xs.set j y))
          | none => none
        | none => none
      | none => none
    | _ => none
  | _, _, _ => none

def pthD (Φ : PhiT) (σ : Nv) : Pth → Option (List D)
  | .var _ => some []
  | .idx p e => match pthD Φ σ p, evalE Φ e σ with
    | some r, some (d, _) => some (r ++ [d])
    | _, _ => none
def chgR (r : List D) (i : Nat) (f : D → Nat → Option D) (σ : Nv) : Option Nv :=
  match σ[i]? with
  | some (some (d, k)) => match chg f r d k with
    | some d' => some (σ.set i (some (d', k)))
    | none => none
  | _ => none

def appD (x : D) (kx : Nat) : D → Nat → Option D
  | .lst xs, k => if xs.length < sizeLine ∧ dn k ≤ kx then some (.lst (xs ++ [x])) else none
  | _, _ => none
def putD (i x : D) (kx : Nat) : D → Nat → Option D
  | .lst xs, k => match i with
    | .int i => match L2.ixN xs.length i with
      | some j => if dn k ≤ kx then some (.lst (xs.set j x)) else none
      | none => none
    | _ => none
  | _, _ => none
def popD : D → Nat → Option D
  | .lst xs, _ => if xs.isEmpty then none else some (.lst xs.dropLast)
  | _, _ => none

/-- what is given back: a name's own tree moves out -/
def mvR : List RT → Nv → Option (List (D × Nat))
  | [], _ => some []
  | .c d :: r, σ => if isFlat d then match mvR r σ with | some q => some ((d, 8) :: q) | none => none else none
  | .v i :: r, σ => match σ[i]? with
    | some (some (d, k)) => match mvR r σ with | some q => some ((d, fr d k) :: q) | none => none
    | _ => none

def FUEL : Nat := 2 ^ 40

def forL (body : Nv → Option Out) (bnd : D → Nv → Option Nv) : List D → Nv → Option Out
  | [], σ => some (.nx σ)
  | d :: ds, σ => match bnd d σ with
    | none => none
    | some σ1 => match body σ1 with
      | some (.nx σ2) | some (.ct σ2) => forL body bnd ds σ2
      | some (.bk σ2) => some (.nx σ2)
      | some (.rt σ2 d k) => some (.rt σ2 d k)
      | none => none

def whlL (cond : Nv → Option Bool) (body : Nv → Option Out) : Nat → Nv → Option Out
  | 0, _ => none
  | n + 1, σ => match cond σ with
    | some true => match body σ with
      | some (.nx σ2) | some (.ct σ2) => whlL cond body n σ2
      | some (.bk σ2) => some (.nx σ2)
      | some (.rt σ2 d k) => some (.rt σ2 d k)
      | none => none
    | some false => some (.nx σ)
    | none => none

def condE (Φ : PhiT) (c : E) (σ : Nv) : Option Bool := match evalE Φ c σ with | some (d, _) => truth d | none => none

def exec (Φ : PhiT) (own : List Nat) (ret : Nat) : S → Nv → Option Out
  | .skip, σ => some (.nx σ)
  | .seq a b, σ => match exec Φ own ret a σ with
    | some (.nx σ1) => exec Φ own ret b σ1
    | r => r
  | .asg t e, σ => match evalE Φ e σ with
    | some (d, k) => match setT own t d k (esc σ (vars e) d k) with
      | some σ1 => some (.nx σ1)
      | none => none
    | none => none
  | .par i j a b, σ => match evalE Φ a σ with
    | some (d, k) => match evalE Φ b (esc σ (vars a) d k) with
      | some (e, l) => match setV own i d k (esc (esc σ (vars a) d k) (vars b) e l) with
        | some σ1 => match setV own j e l σ1 with
          | some σ2 => some (.nx σ2)
          | none => none
        | none => none
      | none => none
    | none => none
  | .put p i v, σ => match evalE Φ v σ with
    | some (d, k) => match pthD Φ (esc σ (vars v) d k) p with
      | some r => match evalE Φ i (esc σ (vars v) d k) with
        | some (j, _) => match chgR r p.root (putD j d k) (esc σ (vars v) d k) with
          | some σ1 => some (.nx σ1)
          | none => none
        | none => none
      | none => none
    | none => none
  | .put2 p i q j e, σ => match evalE Φ e σ with
    | some (.tup [d, d'], k) => match pthD Φ (esc σ (vars e) (.tup [d, d']) k) p with
      | some r => match evalE Φ i (esc σ (vars e) (.tup [d, d']) k) with
        | some (x, _) => match chgR r p.root (putD x d k) (esc σ (vars e) (.tup [d, d']) k) with
          | some σ1 => match pthD Φ σ1 q with
            | some r' => match evalE Φ j σ1 with
              | some (y, _) => match chgR r' q.root (putD y d' k) σ1 with
                | some σ2 => some (.nx σ2)
                | none => none
              | none => none
            | none => none
          | none => none
        | none => none
      | none => none
    | _ => none
  | .app p e, σ => match pthD Φ σ p with
    | some r => match evalE Φ e σ with
      | some (d, k) => match chgR r p.root (appD d k) (esc σ (vars e) d k) with
        | some σ1 => some (.nx σ1)
        | none => none
      | none => none
    | none => none
  | .pop t p, σ => match t with
    | none => match pthD Φ σ p with
      | some r => match chgR r p.root popD σ with
        | some σ1 => some (.nx σ1)
        | none => none
      | none => none
    | some _ => none
  | .ite c a b, σ => match condE Φ c σ with
    | some true => exec Φ own ret a σ
    | some false => exec Φ own ret b σ
    | none => none
  | .fr t ik it b, σ => match evalEs Φ it σ with
    | some r => match itD ik (r.map (·.1)) with
      | some ds => forL (exec Φ own ret b) (fun d σ => setT own t d (fr d 0) σ) ds (if isRng ik then σ else esc0 σ (varsS it))
      | none => none
    | none => none
  | .whl c b, σ => whlL (condE Φ c) (exec Φ own ret b) FUEL σ
  | .ret e, σ => match evalE Φ e σ with
    | some (d, k) => if ret ≤ k then some (.rt σ d ret) else none
    | none => none
  | .retv i, σ => match σ[i]? with
    | some (some (d, k)) => if ret ≤ fr d k then some (.rt σ d ret) else none
    | _ => none
  | .rett rs, σ => match mvR rs σ with
    | some r => if decide (RT.slots rs).Nodup && small r.length && decide (ret ≤ minK r) then some (.rt σ (.tup (r.map (·.1))) ret) else none
    | none => none
  | .retN, σ => some (.rt σ .non ret)
  | .brk, σ => some (.bk σ)
  | .cnt, σ => some (.ct σ)

structure Fn where
  np : Nat
  ns : Nat
  own : List Nat
  ret : Nat
  body : S

def runF (Φ : PhiT) (f : Fn) (ds : List D) : Option (D × Nat × D) :=
  if ds.length = f.np then
    match exec Φ f.own f.ret f.body (ds.map (fun d => some (d, 0)) ++ List.replicate (f.ns - f.np) none) with
    | some (.nx _) => some (.non, f.ret, .non)
    | some (.rt _ d k) => some (d, k, .non)
    | _ => none
  else none

def Phi (prog : List Fn) : Nat → PhiT
  | 0 => fun _ _ => none
  | n + 1 => fun f ds => match prog[f]? with | some fn => runF (Phi prog n) fn ds | none => none
end PD

/-! PD2: from the text's statements to the small language. -/
namespace PD
open PySem L2

structure Tx where
  N : List Str
  fns : List Str
  rets : List Nat

/-- where names are looked up: the scope that runs, and the names whose cells are made at its entry -/
structure Sk where
  sc : Scope
  fn : Str → Bool

def Sk.blk (k : Sk) (scope : Scope) : Sk := ⟨relS scope k.sc, fun x => scope.names.lookup x == some .cell⟩

def ixOf : List Str → Str → Option Nat
  | [], _ => none
  | x :: r, y => if x = y then some 0 else (ixOf r y).map (· + 1)
theorem ixOf_get : ∀ {N : List Str} {x : Str} {i : Nat}, ixOf N x = some i → N[i]? = some x
  | [], _, _, h => by cases h
  | y :: r, x, i, h => by
    unfold ixOf at h
    by_cases e : y = x
    · rw [if_pos e] at h; cases h; simp [e]
    · rw [if_neg e] at h
      cases q : ixOf r x with
      | none => rw [q] at h; cases h
      | some j => rw [q] at h; cases h; simpa using ixOf_get q

def isVis (sc : Scope) (x : Str) : Bool := match sc.names.lookup x with | some .local => true | some .cell => true | some .free => true | _ => false
def isGl (sc : Scope) (x : Str) : Bool := match sc.names.lookup x with | some .globalImplicit => true | _ => false
def isStore (k : Sk) (x : Str) : Bool := match k.sc.names.lookup x with | some .local => true | some .cell => k.fn x | _ => false

/-- how deep at least a value of an expression is new -/
def stE (rets : List Nat) : E → Nat
  | .cst _ | .neg _ | .cmp _ _ _ | .chn _ _ _ _ _ | .not _ | .dict0 _ => 8
  | .lst es => up (go rets es)
  | .tup es => go rets es
  | .cmpr _ _ _ _ _ _ k => up k
  | .cmp2 _ _ _ _ _ _ _ _ _ _ _ k => up k
  | .call f _ => rets.getD f 0
  | .bin op _ _ => match op with | .Add | .Mult => 0 | _ => 8
  | .sli _ _ _ | .bck _ => 1
  | .blt f _ => match f with | .len | .abs | .int1 | .sum => 8 | .list => 1 | _ => 0
  | _ => 0
where go (rets : List Nat) : Es → Nat
  | .nil => 8
  | .cons e es => min (stE rets e) (go rets es)

def ownOf (N : List Str) : List (Str × NameKind) → Option (List (Str × Nat))
  | [] => some []
  | (x, .local) :: r | (x, .cell) :: r => match ixOf N x, ownOf N r with
    | some i, some o => some ((x, i) :: o)
    | _, _ => none
  | _ :: r => ownOf N r

def trNames (T : Tx) (k : Sk) : List Expr → Option (List Nat)
  | [] => some []
  | .Name x _ :: r => if isStore k x then match ixOf T.N x, trNames T k r with | some i, some is => some (i :: is) | _, _ => none else none
  | _ => none
def trT (T : Tx) (k : Sk) : Expr → Option Tg
  | .Name x _ => if isStore k x then (ixOf T.N x).map .one else none
  | .Tuple es _ _ => (trNames T k es).map .many
  | _ => none

def tgs : Tg → List Nat
  | .one i => [i]
  | .many is => is
def tgIn (t : Tg) (own : List (Str × Nat)) : Bool := (tgs t).all fun i => decide (i ∈ own.map (·.2))
def okOp : Operator → Bool
  | .Add | .Sub | .Mult | .FloorDiv | .Mod | .Pow => true
  | _ => false
def okCmp : CmpOp → Bool
  | .Eq | .NotEq | .Lt | .LtE | .Gt | .GtE | .Is | .IsNot | .In | .NotIn => true
def okSet : Expr → Bool
  | .Set .. => false
  | _ => true
def okIx : Expr → Bool
  | .Slice .. => false
  | _ => true
def okArg : Expr → Bool
  | .Starred .. => false
  | .GeneratorExp .. => false
  | _ => true

def bltOf (x : Str) (n : Nat) : Option Blt :=
  if x = ("len" : Str) ∧ n = 1 then some .len
  else if x = ("abs" : Str) ∧ n = 1 then some .abs
  else if x = ("int" : Str) ∧ n = 1 then some .int1
  else if x = ("sum" : Str) ∧ n = 1 then some .sum
  else if x = ("max" : Str) ∧ n = 2 then some .max
  else if x = ("min" : Str) ∧ n = 2 then some .min
  else if x = ("list" : Str) ∧ n = 1 then some .list
  else if x = ("tuple" : Str) ∧ n = 1 then some .tuple
  else none
def isiOf (x : Str) : Option Blt :=
  if x = ("list" : Str) then some .isList
  else if x = ("tuple" : Str) then some .isTuple
  else if x = ("int" : Str) then some .isInt
  else if x = ("bool" : Str) then some .isBool
  else if x = ("str" : Str) then some .isStr
  else none

mutual
def trE (T : Tx) : Nat → Sk → Expr → Option E
  | 0, _, _ => none
  | n + 1, k, e => match e with
    | .Constant .none _ _ => some (.cst .non)
    | .Constant (.bool b) _ _ => some (.cst (.bl b))
    | .Constant (.int i) _ _ => some (.cst (.int i))
    | .Constant (.str x) _ _ => some (.cst (.str x))
    | .Name x _ => if isVis k.sc x && !(x == ("__debug__" : Str)) && !(x == ("__classdict__" : Str)) then (ixOf T.N x).map .var else none
    | .List es _ => (trEs T n k es).map .lst
    | .Tuple es _ _ => (trEs T n k es).map .tup
    | .BinOp a op b _ => if okOp op then match trE T n k a, trE T n k b with | some a, some b => some (.bin op a b) | _, _ => none else none
    | .UnaryOp .USub a _ => (trE T n k a).map .neg
    | .UnaryOp .Not a _ => (trE T n k a).map .not
    | .BoolOp op [a] _ => trE T n k a
    | .BoolOp op (a :: b :: r) pos => match trE T n k a, trE T n k (.BoolOp op (b :: r) pos) with
      | some a, some b => some (match op with | .And => .and a b | .Or => .or a b)
      | _, _ => none
    | .Compare a [op] [b] _ => if okSet b then match trE T n k a, trE T n k b with | some a, some b => some (.cmp op a b) | _, _ => none else none
    | .Compare a [op, op'] [b, c] _ => if okSet b && okSet c then match trE T n k a, trE T n k b, trE T n k c with | some a, some b, some c => some (.chn op op' a b c) | _, _, _ => none else none
    | .Subscript a (.Slice none none (some (.UnaryOp .USub (.Constant (.int 1) _ _) _)) _) _ => (trE T n k a).map .bck
    | .Subscript a (.Slice lo hi none _) _ => match trE T n k a, trO T n k lo, trO T n k hi with | some a, some lo, some hi => some (.sli a lo hi) | _, _, _ => none
    | .Subscript a i _ => if okIx i then match trE T n k a, trE T n k i with | some a, some i => some (.idx a i) | _, _ => none else none
    | .Call (.Name x _) args [] _ =>
      if isGl k.sc x then
        if x = ("isinstance" : Str) then match args with
          | [a, .Name y _] => if isGl k.sc y && okArg a && !(y == ("__debug__" : Str)) then match trE T n k a, isiOf y with | some a, some f => some (.blt f (.cons a .nil)) | _, _ => none else none
          | _ => none
        else match bltOf x args.length with
          | some f => (trEs T n k args).map (.blt f)
          | none => match ixOf T.fns x, trEs T n k args with
            | some f, some es => if args.isEmpty || x == ("__debug__" : Str) then none else some (.call f es)
            | _, _ => none
      else none
    | .ListComp elt [⟨tg, iter, ifs, 0⟩] scope _ =>
      match ownOf T.N scope.names, trIt T n k iter, trT T (k.blk scope) tg, trIf T n (k.blk scope) ifs, trE T n (k.blk scope) elt with
      | some own, some (ik, it), some t, some c, some e => if blkC T.N k.sc scope own && okSet iter && tgIn t own then some (.cmpr t (own.map (·.2)) ik it c e (stE T.rets e)) else none
      | _, _, _, _, _ => none
    | .ListComp elt [⟨tg, iter, ifs, 0⟩, ⟨tg2, iter2, ifs2, 0⟩] scope _ =>
      match ownOf T.N scope.names, trIt T n k iter, trT T (k.blk scope) tg, trIf T n (k.blk scope) ifs, trIt T n (k.blk scope) iter2, trT T (k.blk scope) tg2, trIf T n (k.blk scope) ifs2, trE T n (k.blk scope) elt with
      | some own, some (ik, it), some t, some c, some (ik2, it2), some t2, some c2, some e => if blkC T.N k.sc scope own && okSet iter && okSet iter2 && tgIn t own && tgIn t2 own then
          some (.cmp2 t (own.map (·.2)) ik it c t2 (tgs t2) ik2 it2 c2 e (stE T.rets e)) else none
      | _, _, _, _, _, _, _, _ => none
    | _ => none
def trEs (T : Tx) : Nat → Sk → List Expr → Option Es
  | 0, _, _ => none
  | n + 1, k, es => match es with
    | [] => some .nil
    | e :: r => if okArg e then match trE T n k e, trEs T n k r with | some e, some r => some (.cons e r) | _, _ => none else none
def trO (T : Tx) : Nat → Sk → Option Expr → Option Es
  | 0, _, _ => none
  | n + 1, k, e => match e with
    | none => some .nil
    | some e => (trE T n k e).map fun e => .cons e .nil
def trIf (T : Tx) : Nat → Sk → List Expr → Option E
  | 0, _, _ => none
  | n + 1, k, es => match es with
    | [] => some (.cst (.bl true))
    | [c] => trE T n k c
    | _ => none
def trIt (T : Tx) : Nat → Sk → Expr → Option (Itk × Es)
  | 0, _, _ => none
  | n + 1, k, e => match e with
    | .Call (.Name x p) args [] pos =>
      if isGl k.sc x && x == ("range" : Str) then match args with
        | [a] => if okArg a then (trE T n k a).map fun a => (.rng1, .cons a .nil) else none
        | [a, b] => if okArg a && okArg b then match trE T n k a, trE T n k b with | some a, some b => some (.rng2, .cons a (.cons b .nil)) | _, _ => none else none
        | _ => none
      else if isGl k.sc x && x == ("reversed" : Str) then match args with
        | [a] => if okArg a then (trE T n k a).map fun a => (.rev, .cons a .nil) else none
        | _ => none
      else (trE T n k (.Call (.Name x p) args [] pos)).map fun a => (.val, .cons a .nil)
    | e => (trE T n k e).map fun a => (.val, .cons a .nil)
end

/-- is it a comprehension that is stored as it is made -/
def swapsB (sc : Scope) (value : Expr) (t : Str) (line : Nat) : Bool :=
  match value with
  | .ListComp _ _ s pos => sc.names.lookup t == some .local && line == pos.line && !(s.names.any fun (n, k) => n == t && (k == .local || k == .cell))
  | _ => false
def compLine : Expr → Nat
  | .ListComp _ _ _ pc => pc.line
  | _ => 0
def isComp : Expr → Bool
  | .ListComp .. | .SetComp .. | .DictComp .. => true
  | _ => false

def trP (T : Tx) (n : Nat) (k : Sk) : Expr → Option Pth
  | .Name x _ => if isVis k.sc x && !(x == ("__debug__" : Str)) && !(x == ("__classdict__" : Str)) then (ixOf T.N x).map .var else none
  | .Subscript a i _ => if okIx i then match trP T n k a, trE T n k i with | some p, some i => some (.idx p i) | _, _ => none else none
  | _ => none

/-- a tuple of constants and names, to be given back -/
def trR (T : Tx) (k : Sk) : List Expr → Option (List RT)
  | [] => some []
  | .Constant .none _ _ :: r => (trR T k r).map (.c .non :: ·)
  | .Constant (.bool b) _ _ :: r => (trR T k r).map (.c (.bl b) :: ·)
  | .Constant (.int i) _ _ :: r => (trR T k r).map (.c (.int i) :: ·)
  | .Constant (.str x) _ _ :: r => (trR T k r).map (.c (.str x) :: ·)
  | .Name x _ :: r => if isVis k.sc x && !(x == ("__debug__" : Str)) && !(x == ("__classdict__" : Str)) then match ixOf T.N x, trR T k r with
    | some i, some q => some (.v i :: q)
    | _, _ => none
    else none
  | _ => none

mutual
def trS (T : Tx) : Nat → Sk → Stmt → Option S
  | 0, _, _ => none
  | n + 1, k, st => match st with
    | .Pass _ => some .skip
    | .Break _ => some .brk
    | .Continue _ => some .cnt
    | .Return none _ => some .retN
    | .Return (some (.Name x _)) _ => if isVis k.sc x && !(x == ("__debug__" : Str)) && !(x == ("__classdict__" : Str)) then (ixOf T.N x).map .retv else none
    | .Return (some (.Tuple es _ _)) _ => match trR T k es with
      | some rs => some (.rett rs)
      | none => (trEs T n k es).map fun es => .ret (.tup es)
    | .Return (some e) _ => (trE T n k e).map .ret
    | .If c a b _ => match trE T n k c, trSs T n k a, trSs T n k b with | some c, some a, some b => some (.ite c a b) | _, _, _ => none
    | .While c b [] _ => match trE T n k c, trSs T n k b with | some c, some b => some (.whl c b) | _, _ => none
    | .For tg iter b [] _ => match trT T k tg, trIt T n k iter, trSs T n k b with | some t, some (ik, it), some b => if okSet iter then some (.fr t ik it b) else none | _, _, _ => none
    | .Expr (.Call (.Attribute p m apos) args [] cpos) _ =>
      if apos.endLine == cpos.line then
        if m = ("append" : Str) then match args with
          | [e] => if okArg e then match trP T n k p, trE T n k e with | some p, some e => some (.app p e) | _, _ => none else none
          | _ => none
        else if m = ("pop" : Str) then match args with
          | [] => (trP T n k p).map (.pop none)
          | _ => none
        else none
      else none
    | .Assign [.Name x p] e pos =>
      if isStore k x then match ixOf T.N x, trE T n k e with
        | some i, some e' => if isComp e && !(p.line == compLine e) then none else some (.asg (.one i) e')
        | _, _ => none
      else none
    | .Assign [.Subscript o i p] e pos => if okIx i && !isComp e then match trP T n k o, trE T n k i, trE T n k e with | some p, some i, some e => some (.put p i e) | _, _, _ => none else none
    | .Assign [.Tuple [.Name x px, .Name y py] kt pt] (.Tuple [a, b] k2 pt2) pos =>
      if isStore k x && isStore k y then match ixOf T.N x, ixOf T.N y, trE T n k a, trE T n k b with
        | some i, some j, some a', some b' =>
          if i = j then none
          else if k.sc.names.lookup x == some .local && k.sc.names.lookup y == some .local && px.line == py.line then
            if !([a, b].all (foldedForSure 8)) && !([a, b].all (constantsAlone 8)) && okArg a && okArg b then some (.par i j a' b') else none
          else if okArg a && okArg b && (k.sc.names.lookup x == some .cell || k.sc.names.lookup y == some .cell) then some (.asg (.many [i, j]) (.tup (.cons a' (.cons b' .nil)))) else none
        | _, _, _, _ => none
      else none
    | .Assign [.Tuple [.Subscript o i p, .Subscript o2 i2 p2] kt pt] (.Tuple [a, b] k2 pt2) pos =>
      if okIx i && okIx i2 && okArg a && okArg b then match trP T n k o, trE T n k i, trP T n k o2, trE T n k i2, trE T n k a, trE T n k b with
        | some p, some i, some q, some j, some a, some b => some (.put2 p i q j (.tup (.cons a (.cons b .nil))))
        | _, _, _, _, _, _ => none
      else none
    | .Assign [.Tuple ts kt pt] e pos => match e with
      | .Tuple .. => none
      | e => if isComp e then none else match trNames T k ts, trE T n k e with | some is, some e => some (.asg (.many is) e) | _, _ => none
    | _ => none
def trSs (T : Tx) : Nat → Sk → List Stmt → Option S
  | 0, _, _ => none
  | n + 1, k, sts => match sts with
    | [] => some .skip
    | st :: r => match trS T n k st, trSs T n k r with | some a, some b => some (.seq a b) | _, _ => none
end
end PD

/-! PD3: how tree data lie in the abstract heap: what is owned (the list of addresses), what is shared (within S). -/
namespace PD
open PySem L2

def ScrAt (K : PySem.W.Frag) (H : Hp) (a : Addr) (ns : List Int) : Prop := (∃ o, H a = some (.frz o (.lst (ns.map V.int)))) ∨ ∀ H' : Hp, SqL K H' a (ns.map V.int)
theorem ScrAt.sq {K : PySem.W.Frag} {H : Hp} {a : Addr} {ns : List Int} (h : ScrAt K H a ns) : SqL K H a (ns.map V.int) := by
  rcases h with ⟨o, h⟩ | h
  · exact .inl (.inr ⟨o, h⟩)
  · exact h H

mutual
inductive Ow (K : PySem.W.Frag) (S : Addr → Prop) (H : Hp) : Nat → V → D → List Addr → Prop
  | non (k : Nat) : Ow K S H k .non .non []
  | bl (k : Nat) (b : Bool) : Ow K S H k (.bl b) (.bl b) []
  | int (k : Nat) (i : Int) : Ow K S H k (.int i) (.int i) []
  | str (k : Nat) (x : Str) : Ow K S H k (.str x) (.str x) []
  | tup {k : Nat} {a : Addr} {xs : List V} {ds : List D} {F : List Addr} : H a = some (.tup xs) → Ows K S H k xs ds F → Ow K S H k (.ref a) (.tup ds) F
  | ls0 {a : Addr} {xs : List V} {ds : List D} : H a = some (.lst xs) → S a → Ows K S H 0 xs ds [] → Ow K S H 0 (.ref a) (.lst ds) []
  | lsk {k : Nat} {a : Addr} {xs : List V} {ds : List D} {F : List Addr} : k ≠ 0 → H a = some (.lst xs) → Ows K S H (dn k) xs ds F → Ow K S H k (.ref a) (.lst ds) (a :: F)
  | scr (k : Nat) {a : Addr} {ns : List Int} : ScrAt K H a ns → Ow K S H k (.ref a) (.scr ns) []
inductive Ows (K : PySem.W.Frag) (S : Addr → Prop) (H : Hp) : Nat → List V → List D → List Addr → Prop
  | nil (k : Nat) : Ows K S H k [] [] []
  | cons {k : Nat} {v : V} {vs : List V} {d : D} {ds : List D} {F G : List Addr} : Ow K S H k v d F → Ows K S H k vs ds G → Ows K S H k (v :: vs) (d :: ds) (F ++ G)
end

/-- what never changes -/
def Fix : HO → Prop
  | .tup _ => True
  | .frz _ _ => True
  | _ => False

section
variable {K : PySem.W.Frag} {S S' : Addr → Prop} {H H' : Hp}
mutual
theorem Ow.mono (hS : ∀ a o, H a = some o → S a → S' a) (hH : ∀ a o, H a = some o → S a ∨ Fix o → H' a = some o) : ∀ {k : Nat} {v : V} {d : D} {F : List Addr}, Ow K S H k v d F → (∀ a ∈ F, H' a = H a) → Ow K S' H' k v d F
  | _, _, _, _, .non k, _ => .non k
  | _, _, _, _, .bl k b, _ => .bl k b
  | _, _, _, _, .int k i, _ => .int k i
  | _, _, _, _, .str k x, _ => .str k x
  | _, _, _, _, .tup h r, hF => .tup (hH _ _ h (.inr trivial)) (Ows.mono hS hH r hF)
  | _, _, _, _, .ls0 h s r, hF => .ls0 (hH _ _ h (.inl s)) (hS _ _ h s) (Ows.mono hS hH r hF)
  | _, _, _, _, .lsk k h r, hF => .lsk k ((hF _ List.mem_cons_self).trans h) (Ows.mono hS hH r fun a m => hF a (List.mem_cons_of_mem _ m))
  | _, _, _, _, .scr k h, _ => .scr k (by
      rcases h with ⟨o, h⟩ | h
      · exact .inl ⟨o, hH _ _ h (.inr trivial)⟩
      · exact .inr h)
theorem Ows.mono (hS : ∀ a o, H a = some o → S a → S' a) (hH : ∀ a o, H a = some o → S a ∨ Fix o → H' a = some o) : ∀ {k : Nat} {v : List V} {d : List D} {F : List Addr}, Ows K S H k v d F → (∀ a ∈ F, H' a = H a) → Ows K S' H' k v d F
  | _, _, _, _, .nil k, _ => .nil k
  | _, _, _, _, .cons h r, hF => .cons (Ow.mono hS hH h fun a m => hF a (List.mem_append_left _ m)) (Ows.mono hS hH r fun a m => hF a (List.mem_append_right _ m))
end
mutual
theorem Ow.forget (hS : ∀ a, S a → S' a) : ∀ {k : Nat} {v : V} {d : D} {F : List Addr}, Ow K S H k v d F → (∀ a ∈ F, S' a) → Ow K S' H 0 v d []
  | _, _, _, _, .non k, _ => .non 0
  | _, _, _, _, .bl k b, _ => .bl 0 b
  | _, _, _, _, .int k i, _ => .int 0 i
  | _, _, _, _, .str k x, _ => .str 0 x
  | _, _, _, _, .tup h r, hF => .tup h (Ows.forget hS r hF)
  | _, _, _, _, .ls0 h s r, hF => .ls0 h (hS _ s) (Ows.forget hS r hF)
  | _, _, _, _, .lsk k h r, hF => .ls0 h (hF _ List.mem_cons_self) (Ows.forget hS r fun a m => hF a (List.mem_cons_of_mem _ m))
  | _, _, _, _, .scr k h, _ => .scr 0 h
theorem Ows.forget (hS : ∀ a, S a → S' a) : ∀ {k : Nat} {v : List V} {d : List D} {F : List Addr}, Ows K S H k v d F → (∀ a ∈ F, S' a) → Ows K S' H 0 v d []
  | _, _, _, _, .nil k, _ => .nil 0
  | _, _, _, _, .cons h r, hF => .cons (F := []) (G := []) (Ow.forget hS h fun a m => hF a (List.mem_append_left _ m)) (Ows.forget hS r fun a m => hF a (List.mem_append_right _ m))
end
theorem dn_le {k k' : Nat} (h : k' ≤ k) : dn k' ≤ dn k := by unfold dn; split <;> split <;> omega
mutual
theorem Ow.zero' : ∀ {k : Nat} {v : V} {d : D} {F : List Addr}, Ow K S H k v d F → k = 0 → F = []
  | _, _, _, _, .non k, _ => rfl
  | _, _, _, _, .bl k b, _ => rfl
  | _, _, _, _, .int k i, _ => rfl
  | _, _, _, _, .str k x, _ => rfl
  | _, _, _, _, .tup h r, e => Ows.zero' r e
  | _, _, _, _, .ls0 h s r, _ => rfl
  | _, _, _, _, .lsk k h r, e => absurd e k
  | _, _, _, _, .scr k h, _ => rfl
theorem Ows.zero' : ∀ {k : Nat} {v : List V} {d : List D} {F : List Addr}, Ows K S H k v d F → k = 0 → F = []
  | _, _, _, _, .nil k, _ => rfl
  | _, _, _, _, .cons h r, e => by rw [Ow.zero' h e, Ows.zero' r e]; rfl
end
theorem Ow.zero {v : V} {d : D} {F : List Addr} (h : Ow K S H 0 v d F) : F = [] := h.zero' rfl
theorem Ows.zero {v : List V} {d : List D} {F : List Addr} (h : Ows K S H 0 v d F) : F = [] := h.zero' rfl
/- what is owned is there, a list -/
mutual
theorem Ow.there : ∀ {k : Nat} {v : V} {d : D} {F : List Addr}, Ow K S H k v d F → ∀ a ∈ F, ∃ o, H a = some o ∧ ¬ Fix o
  | _, _, _, _, .non k, _, m => (List.not_mem_nil m).elim
  | _, _, _, _, .bl k b, _, m => (List.not_mem_nil m).elim
  | _, _, _, _, .int k i, _, m => (List.not_mem_nil m).elim
  | _, _, _, _, .str k x, _, m => (List.not_mem_nil m).elim
  | _, _, _, _, .tup h r, a, m => Ows.there r a m
  | _, _, _, _, .ls0 h s r, _, m => (List.not_mem_nil m).elim
  | _, _, _, _, .lsk (xs := xs) k h r, a, m => (List.mem_cons.mp m).elim (fun e => ⟨.lst xs, e ▸ h, id⟩) fun m => Ows.there r a m
  | _, _, _, _, .scr k h, _, m => (List.not_mem_nil m).elim
theorem Ows.there : ∀ {k : Nat} {v : List V} {d : List D} {F : List Addr}, Ows K S H k v d F → ∀ a ∈ F, ∃ o, H a = some o ∧ ¬ Fix o
  | _, _, _, _, .nil k, _, m => (List.not_mem_nil m).elim
  | _, _, _, _, .cons h r, a, m => (List.mem_append.mp m).elim (fun m => Ow.there h a m) fun m => Ows.there r a m
end
/- owned less deep -/
mutual
theorem Ow.lower : ∀ {k k' : Nat} {v : V} {d : D} {F : List Addr}, Ow K S H k v d F → k' ≤ k → F.Nodup → ∃ F', F'.Sublist F ∧ ∀ S' : Addr → Prop, (∀ a, S a → S' a) → (∀ a ∈ F, a ∉ F' → S' a) → Ow K S' H k' v d F'
  | _, k', _, _, _, .non k, _, _ => ⟨[], .slnil, fun _ _ _ => .non k'⟩
  | _, k', _, _, _, .bl k b, _, _ => ⟨[], .slnil, fun _ _ _ => .bl k' b⟩
  | _, k', _, _, _, .int k i, _, _ => ⟨[], .slnil, fun _ _ _ => .int k' i⟩
  | _, k', _, _, _, .str k x, _, _ => ⟨[], .slnil, fun _ _ _ => .str k' x⟩
  | _, k', _, _, _, .tup h r, hk, nd => let ⟨F', s, q⟩ := Ows.lower r hk nd; ⟨F', s, fun S' h1 h2 => .tup h (q S' h1 h2)⟩
  | _, k', _, _, _, .ls0 h s r, hk, nd => ⟨[], .slnil, fun S' h1 h2 => by
      have e : k' = 0 := Nat.le_zero.mp hk
      subst e
      exact .ls0 h (h1 _ s) (Ows.forget h1 r fun a m => (List.not_mem_nil m).elim)⟩
  | _, k', _, _, _, .lsk (a := a) (F := F) k h r, hk, nd => by
      by_cases e : k' = 0
      · subst e
        exact ⟨[], List.nil_sublist _, fun S' h1 h2 => .ls0 h (h2 _ List.mem_cons_self (List.not_mem_nil)) (Ows.forget h1 r fun b m => h2 b (List.mem_cons_of_mem _ m) List.not_mem_nil)⟩
      · obtain ⟨F', s, q⟩ := Ows.lower r (dn_le hk) (List.nodup_cons.mp nd).2
        refine ⟨a :: F', s.cons₂ _, fun S' h1 h2 => .lsk e h (q S' h1 fun b m n => h2 b (List.mem_cons_of_mem _ m) fun z => ?_)⟩
        rcases List.mem_cons.mp z with z | z
        · subst z; exact (List.nodup_cons.mp nd).1 m
        · exact n z
  | _, k', _, _, _, .scr k h, _, _ => ⟨[], .slnil, fun _ _ _ => .scr k' h⟩
theorem Ows.lower : ∀ {k k' : Nat} {v : List V} {d : List D} {F : List Addr}, Ows K S H k v d F → k' ≤ k → F.Nodup → ∃ F', F'.Sublist F ∧ ∀ S' : Addr → Prop, (∀ a, S a → S' a) → (∀ a ∈ F, a ∉ F' → S' a) → Ows K S' H k' v d F'
  | _, k', _, _, _, .nil k, _, _ => ⟨[], .slnil, fun _ _ _ => .nil k'⟩
  | _, k', _, _, _, .cons (F := F) (G := G) h r, hk, nd => by
      obtain ⟨n1, n2, n3⟩ := List.nodup_append.mp nd
      obtain ⟨F', s1, q1⟩ := Ow.lower h hk n1
      obtain ⟨G', s2, q2⟩ := Ows.lower r hk n2
      refine ⟨F' ++ G', s1.append s2, fun S' h1 h2 => .cons (q1 S' h1 fun a m n => h2 a (List.mem_append_left _ m) fun z => ?_) (q2 S' h1 fun a m n => h2 a (List.mem_append_right _ m) fun z => ?_)⟩
      · rcases List.mem_append.mp z with z | z
        · exact n z
        · exact n3 a m a (s2.subset z) rfl
      · rcases List.mem_append.mp z with z | z
        · exact n3 a (s1.subset z) a m rfl
        · exact n z
end
mutual
theorem Ow.immut : ∀ {k : Nat} {v : V} {d : D} {F : List Addr}, Ow K S H k v d F → imm d = true → F = [] ∧ ∀ (S' : Addr → Prop) k', Ow K S' H k' v d []
  | _, _, _, _, .non k, _ => ⟨rfl, fun _ k' => .non k'⟩
  | _, _, _, _, .bl k b, _ => ⟨rfl, fun _ k' => .bl k' b⟩
  | _, _, _, _, .int k i, _ => ⟨rfl, fun _ k' => .int k' i⟩
  | _, _, _, _, .str k x, _ => ⟨rfl, fun _ k' => .str k' x⟩
  | _, _, _, _, .tup h r, m => let ⟨e, q⟩ := Ows.immut r (by unfold imm at m; exact m); ⟨e, fun S' k' => .tup h (q S' k')⟩
  | _, _, _, _, .ls0 h s r, m => by simp [imm] at m
  | _, _, _, _, .lsk k h r, m => by simp [imm] at m
  | _, _, _, _, .scr k h, m => by simp [imm] at m
theorem Ows.immut : ∀ {k : Nat} {v : List V} {d : List D} {F : List Addr}, Ows K S H k v d F → imm.immL d = true → F = [] ∧ ∀ (S' : Addr → Prop) k', Ows K S' H k' v d []
  | _, _, _, _, .nil k, _ => ⟨rfl, fun _ k' => .nil k'⟩
  | _, _, _, _, .cons h r, m => by
      unfold imm.immL at m
      rw [Bool.and_eq_true] at m
      obtain ⟨e1, q1⟩ := Ow.immut h m.1
      obtain ⟨e2, q2⟩ := Ows.immut r m.2
      exact ⟨by rw [e1, e2]; rfl, fun S' k' => .cons (F := []) (G := []) (q1 S' k') (q2 S' k')⟩
end
theorem Ow.frk {k : Nat} {v : V} {d : D} {F : List Addr} (h : Ow K S H k v d F) : Ow K S H (fr d k) v d F := by
  unfold fr
  split
  · rename_i m
    obtain ⟨e, q⟩ := h.immut m
    rw [e]; exact q S 8
  · exact h
mutual
theorem Ow.cover : ∀ {k : Nat} {v : V} {d : D} {F : List Addr}, Ow K S H k v d F → cov k d = true → ∀ S' : Addr → Prop, Ow K S' H k v d F
  | _, _, _, _, .non k, _, _ => .non k
  | _, _, _, _, .bl k b, _, _ => .bl k b
  | _, _, _, _, .int k i, _, _ => .int k i
  | _, _, _, _, .str k x, _, _ => .str k x
  | _, _, _, _, .tup h r, m, S' => .tup h (Ows.cover r (by unfold cov at m; exact m) S')
  | _, _, _, _, .ls0 h s r, m, S' => by simp [cov] at m
  | _, _, _, _, .lsk k h r, m, S' => .lsk k h (Ows.cover r (by unfold cov at m; exact (Bool.and_eq_true_iff.mp m).2) S')
  | _, _, _, _, .scr k h, m, S' => .scr k h
theorem Ows.cover : ∀ {k : Nat} {v : List V} {d : List D} {F : List Addr}, Ows K S H k v d F → cov.covL k d = true → ∀ S' : Addr → Prop, Ows K S' H k v d F
  | _, _, _, _, .nil k, _, _ => .nil k
  | _, _, _, _, .cons h r, m, S' => by
      unfold cov.covL at m
      rw [Bool.and_eq_true] at m
      exact .cons (Ow.cover h m.1 S') (Ows.cover r m.2 S')
end
mutual
theorem Ow.dp : ∀ {k : Nat} {v : V} {d : D} {F : List Addr}, Ow K S H k v d F → PyData.canLay0 d.py = true → Dp K H v d.py
  | _, _, _, _, .non k, _ => .non
  | _, _, _, _, .bl k b, _ => .bl b
  | _, _, _, _, .int k i, _ => .int i
  | _, _, _, _, .str k x, _ => .str x
  | _, _, _, _, .tup h r, m => .tup (SqT.of h) (Ows.dp r (by unfold D.py PyData.canLay0 at m; exact m))
  | _, _, _, _, .ls0 h s r, m => .lst (SqL.of h) (Ows.dp r (by unfold D.py PyData.canLay0 at m; exact m))
  | _, _, _, _, .lsk k h r, m => .lst (SqL.of h) (Ows.dp r (by unfold D.py PyData.canLay0 at m; exact m))
  | _, _, _, _, .scr k h, m => by simp [D.py, PyData.canLay0] at m
theorem Ows.dp : ∀ {k : Nat} {v : List V} {d : List D} {F : List Addr}, Ows K S H k v d F → PyData.canLayAll0 (D.py.pyL d) = true → DpAll K H v (D.py.pyL d)
  | _, _, _, _, .nil k, _ => .nil
  | _, _, _, _, .cons h r, m => by
      unfold D.py.pyL PyData.canLayAll0 at m
      rw [Bool.and_eq_true] at m
      exact .cons (Ow.dp h m.1) (Ows.dp r m.2)
end
theorem Ows.length : ∀ {k : Nat} {v : List V} {d : List D} {F : List Addr}, Ows K S H k v d F → v.length = d.length
  | _, _, _, _, .nil _ => rfl
  | _, _, _, _, .cons _ r => by rw [List.length_cons, List.length_cons, r.length]
theorem Ows.get : ∀ {k : Nat} {vs : List V} {ds : List D} {F : List Addr} {i : Nat} {d : D}, Ows K S H k vs ds F → ds[i]? = some d → ∃ v G, vs[i]? = some v ∧ Ow K S H k v d G ∧ G.Sublist F
  | _, _, _, _, i, d, .nil _, e => by simp at e
  | _, _, _, _, 0, d, .cons (F := F) (G := G) h r, e => by
      have e' : _ = d := Option.some.inj e
      subst e'
      exact ⟨_, F, rfl, h, List.sublist_append_left _ _⟩
  | _, _, _, _, i + 1, d, .cons (F := F) (G := G) h r, e => by
      obtain ⟨v, G', e1, q, s⟩ := r.get (i := i) (d := d) (by simpa using e)
      exact ⟨v, G', by simpa using e1, q, s.trans (List.sublist_append_right _ _)⟩
theorem Ows.get0 {vs : List V} {ds : List D} {i : Nat} {d : D} (h : Ows K S H 0 vs ds []) (e : ds[i]? = some d) : ∃ v, vs[i]? = some v ∧ Ow K S H 0 v d [] := by
  obtain ⟨v, G, e1, q, _⟩ := h.get e
  have z := q.zero
  subst z
  exact ⟨v, e1, q⟩
end
end PD

/-! PD4: expressions: the readings by the evaluator, and that they are readings. First: the parts. -/
namespace PD
open PySem L2

abbrev All (H : Hp) (S : Addr → Prop) : Prop := ∀ a, H a = none → S a
/-- what follows an expression of the datum d, new to the depth k -/
def RE (K : PySem.W.Frag) (S : Addr → Prop) (H : Hp) (d : D) (k : Nat) (Q : VK) : Prop :=
  ∀ (v : V) (H' : Hp) (G : List Addr), Same H H' → G.Nodup → (∀ a ∈ G, H a = none) → Ow K (fun a => S a ∧ a ∉ G) H' k v d G → Q v H'
structure SE (K : PySem.W.Frag) (S : Addr → Prop) (H : Hp) (σ : St) (nv : Nv) (vs : List Nat) : Prop where
  len : σ.length = nv.length
  val : ∀ i ∈ vs, ∀ d k, nv[i]? = some (some (d, k)) → ∃ v, σ[i]? = some (some v) ∧ Ow K S H 0 v d []
/-- several values -/
inductive OwA (K : PySem.W.Frag) (S : Addr → Prop) (H : Hp) : List V → List (D × Nat) → List Addr → Prop
  | nil : OwA K S H [] [] []
  | cons {v : V} {vs : List V} {d : D} {k : Nat} {r : List (D × Nat)} {F G : List Addr} : Ow K S H k v d F → OwA K S H vs r G → OwA K S H (v :: vs) ((d, k) :: r) (F ++ G)

def tE (K : PySem.W.Frag) (Φ : PhiT) (e : E) : TE := fun σ H Q => ∃ S nv d k, All H S ∧ SE K S H σ nv (vars e) ∧ evalE Φ e nv = some (d, k) ∧ RE K S H d k Q
def tT (K : PySem.W.Frag) (Φ : PhiT) (e : E) : TT := fun σ H Q => ∃ S nv d k b, All H S ∧ SE K S H σ nv (vars e) ∧ evalE Φ e nv = some (d, k) ∧ truth d = some b ∧ ∀ H', Same H H' → Q b H'
def tA (K : PySem.W.Frag) (Φ : PhiT) (es : Es) : TA := fun σ H Q => ∃ S nv r, All H S ∧ SE K S H σ nv (varsS es) ∧ evalEs Φ es nv = some r ∧
  ∀ (vs : List V) (H' : Hp) (G : List Addr), Same H H' → G.Nodup → (∀ a ∈ G, H a = none) → OwA K (fun a => S a ∧ a ∉ G) H' vs r G → Q vs H'

section
variable {K : PySem.W.Frag} {S S' : Addr → Prop} {H H' : Hp} {Φ : PhiT}

theorem Same.all (h : Same H H') (a : All H S) : All H' S := fun b e => a b (h.free e)
theorem Ow.same {k : Nat} {v : V} {d : D} {F : List Addr} (h : Ow K S H k v d F) (e : Same H H') : Ow K S H' k v d F :=
  h.mono (fun _ _ _ s => s) (fun a o q _ => e a o q) fun a m => by
    obtain ⟨o, q, _⟩ := h.there a m
    rw [q, e a o q]
theorem Ows.same {k : Nat} {v : List V} {d : List D} {F : List Addr} (h : Ows K S H k v d F) (e : Same H H') : Ows K S H' k v d F :=
  h.mono (fun _ _ _ s => s) (fun a o q _ => e a o q) fun a m => by
    obtain ⟨o, q, _⟩ := h.there a m
    rw [q, e a o q]
/-- what is new since H stands apart from S's old part -/
theorem Ow.drop {k : Nat} {v : V} {d : D} {F G : List Addr} (h : Ow K S H k v d F) (hG : ∀ a ∈ G, H a = none) : Ow K (fun a => S a ∧ a ∉ G) H k v d F :=
  h.mono (fun a o q s => ⟨s, fun m => by rw [hG a m] at q; cases q⟩) (fun a o q _ => q) fun _ _ => rfl
theorem Ows.drop {k : Nat} {v : List V} {d : List D} {F G : List Addr} (h : Ows K S H k v d F) (hG : ∀ a ∈ G, H a = none) : Ows K (fun a => S a ∧ a ∉ G) H k v d F :=
  h.mono (fun a o q s => ⟨s, fun m => by rw [hG a m] at q; cases q⟩) (fun a o q _ => q) fun _ _ => rfl
theorem OwA.mono : ∀ {vs : List V} {r : List (D × Nat)} {F : List Addr}, OwA K S H vs r F → (∀ a o, H a = some o → S a → S' a) → Same H H' → OwA K S' H' vs r F
  | _, _, _, .nil, _, _ => .nil
  | _, _, _, .cons h r, hS, e => .cons (h.mono hS (fun a o q _ => e a o q) fun a m => by
      obtain ⟨o, q, _⟩ := h.there a m
      rw [q, e a o q]) (r.mono hS e)
theorem OwA.there : ∀ {vs : List V} {r : List (D × Nat)} {F : List Addr}, OwA K S H vs r F → ∀ a ∈ F, ∃ o, H a = some o ∧ ¬ Fix o
  | _, _, _, .nil, _, m => (List.not_mem_nil m).elim
  | _, _, _, .cons h r, a, m => (List.mem_append.mp m).elim (fun m => h.there a m) fun m => r.there a m
theorem OwA.forget : ∀ {vs : List V} {r : List (D × Nat)} {F : List Addr}, OwA K S H vs r F → (∀ a, S a → S' a) → (∀ a ∈ F, S' a) → Ows K S' H 0 vs (r.map (·.1)) []
  | _, _, _, .nil, _, _ => .nil 0
  | _, _, _, .cons h r, hS, hF => .cons (F := []) (G := []) (h.forget hS fun a m => hF a (List.mem_append_left _ m)) (r.forget hS fun a m => hF a (List.mem_append_right _ m))
theorem OwA.lower : ∀ {vs : List V} {r : List (D × Nat)} {F : List Addr} {k : Nat}, OwA K S H vs r F → k ≤ minK r → F.Nodup → ∃ F', F'.Sublist F ∧ ∀ S' : Addr → Prop, (∀ a, S a → S' a) → (∀ a ∈ F, a ∉ F' → S' a) → Ows K S' H k vs (r.map (·.1)) F'
  | _, _, _, k, .nil, _, _ => ⟨[], .slnil, fun _ _ _ => .nil k⟩
  | _, _, _, k, .cons (F := F) (G := G) h r, hk, nd => by
      obtain ⟨n1, n2, n3⟩ := List.nodup_append.mp nd
      unfold minK at hk
      obtain ⟨F', s1, q1⟩ := h.lower (k' := k) (Nat.le_trans hk (Nat.min_le_left _ _)) n1
      obtain ⟨G', s2, q2⟩ := r.lower (k := k) (Nat.le_trans hk (Nat.min_le_right _ _)) n2
      refine ⟨F' ++ G', s1.append s2, fun S' h1 h2 => .cons (q1 S' h1 fun a m n => h2 a (List.mem_append_left _ m) fun z => ?_) (q2 S' h1 fun a m n => h2 a (List.mem_append_right _ m) fun z => ?_)⟩
      · rcases List.mem_append.mp z with z | z
        · exact n z
        · exact n3 a m a (s2.subset z) rfl
      · rcases List.mem_append.mp z with z | z
        · exact n3 a (s1.subset z) a m rfl
        · exact n z
theorem OwA.length : ∀ {vs : List V} {r : List (D × Nat)} {F : List Addr}, OwA K S H vs r F → vs.length = r.length
  | _, _, _, .nil => rfl
  | _, _, _, .cons _ r => by rw [List.length_cons, List.length_cons, r.length]

theorem SE.same {σ : St} {nv : Nv} {vs : List Nat} (h : SE K S H σ nv vs) (e : Same H H') : SE K S H' σ nv vs := ⟨h.len, fun i m d k q =>
  let ⟨v, a, b⟩ := h.val i m d k q
  ⟨v, a, b.same e⟩⟩
theorem SE.sub {σ : St} {nv : Nv} {vs ws : List Nat} (h : SE K S H σ nv vs) (e : ∀ i ∈ ws, i ∈ vs) : SE K S H σ nv ws := ⟨h.len, fun i m => h.val i (e i m)⟩
theorem SE.left {σ : St} {nv : Nv} {vs ws : List Nat} (h : SE K S H σ nv (vs ++ ws)) : SE K S H σ nv vs := h.sub fun _ m => List.mem_append_left _ m
theorem SE.right {σ : St} {nv : Nv} {vs ws : List Nat} (h : SE K S H σ nv (vs ++ ws)) : SE K S H σ nv ws := h.sub fun _ m => List.mem_append_right _ m
/-- .. apart from what is new since -/
theorem SE.drop {σ : St} {nv : Nv} {vs : List Nat} {G : List Addr} (h : SE K S H σ nv vs) (hG : ∀ a ∈ G, H a = none) : SE K (fun a => S a ∧ a ∉ G) H σ nv vs := ⟨h.len, fun i m d k q =>
  let ⟨v, a, b⟩ := h.val i m d k q
  ⟨v, a, b.drop hG⟩⟩
theorem RE.same {d : D} {k : Nat} {Q : VK} (h : RE K S H d k Q) (e : Same H H') : RE K S H' d k Q := fun v H2 G s nd f o => h v H2 G (e.trans s) nd (fun a m => e.free (f a m)) o
theorem RE.flat {d : D} {k : Nat} {Q : VK} {v : V} (h : RE K S H d k Q) (o : ∀ S', Ow K S' H k v d []) : Q v H := h v H [] (Same.refl H) List.nodup_nil (fun _ m => (List.not_mem_nil m).elim) (o _)
theorem RE.int {i : Int} {k : Nat} {Q : VK} (h : RE K S H (.int i) k Q) : Q (.int i) H := h.flat fun _ => .int k i
theorem RE.bl {b : Bool} {k : Nat} {Q : VK} (h : RE K S H (.bl b) k Q) : Q (.bl b) H := h.flat fun _ => .bl k b
/-- a value that is there already -/
theorem RE.old {d : D} {Q : VK} {v : V} (h : RE K S H d (fr d 0) Q) (o : Ow K S H 0 v d []) : Q v H :=
  h v H [] (Same.refl H) List.nodup_nil (fun _ m => (List.not_mem_nil m).elim) ((o.mono (fun a _ _ s => ⟨s, List.not_mem_nil⟩) (fun _ _ q _ => q) fun _ _ => rfl : Ow K (fun a => S a ∧ a ∉ ([] : List Addr)) H 0 v d []).frk)
theorem same_new {p : Addr} (h : H p = none) (o : HO) : Same H (upd H p o) := fun b u q => by rw [upd_ne (ne_of_none q h)]; exact q
/-- a new list -/
theorem RE.lst {ds : List D} {k : Nat} {Q : VK} {xs : List V} {G : List Addr} {p : Addr} {H0 : Hp} (h : RE K S H0 (.lst ds) k Q) (hk : k ≠ 0) (e : Same H0 H) (hA : All H0 S) (nd : G.Nodup) (hG : ∀ a ∈ G, H0 a = none)
    (o : Ows K (fun a => S a ∧ a ∉ G) H (dn k) xs ds G) (hp : H p = none) : Q (.ref p) (upd H p (.lst xs)) := by
  have npG : p ∉ G := fun m => by
    obtain ⟨u, q, _⟩ := o.there p m
    rw [hp] at q; cases q
  refine h (.ref p) _ (p :: G) (e.trans (same_new hp _)) (List.nodup_cons.mpr ⟨npG, nd⟩) (fun a m => ?_) (.lsk hk upd_same ?_)
  · rcases List.mem_cons.mp m with r | m
    · rw [r]; exact e.free hp
    · exact hG a m
  · refine o.mono (fun a u q s => ⟨s.1, fun m => ?_⟩) (fun a u q _ => same_new hp _ a u q) fun a m => by
      obtain ⟨u, q, _⟩ := o.there a m
      rw [q, same_new hp _ a u q]
    rcases List.mem_cons.mp m with r | m
    · rw [r, hp] at q; cases q
    · exact s.2 m
theorem RE.lst1 {ds : List D} {Q : VK} {xs : List V} {p : Addr} (h : RE K S H (.lst ds) 1 Q) (hA : All H S) (o : Ows K S H 0 xs ds []) (hp : H p = none) : Q (.ref p) (upd H p (.lst xs)) :=
  h.lst (by decide) (Same.refl H) hA List.nodup_nil (fun _ m => (List.not_mem_nil m).elim) (o.mono (fun a _ _ s => ⟨s, List.not_mem_nil⟩) (fun _ _ q _ => q) fun _ _ => rfl) hp
/-- a new tuple -/
theorem RE.tup {ds : List D} {k : Nat} {Q : VK} {xs : List V} {G : List Addr} {p : Addr} {H0 : Hp} (h : RE K S H0 (.tup ds) k Q) (e : Same H0 H) (nd : G.Nodup) (hG : ∀ a ∈ G, H0 a = none)
    (o : Ows K (fun a => S a ∧ a ∉ G) H k xs ds G) (hp : H p = none) : Q (.ref p) (upd H p (.tup xs)) := by
  refine h (.ref p) _ G (e.trans (same_new hp _)) nd hG (.tup upd_same ?_)
  exact o.mono (fun a u q s => s) (fun a u q _ => same_new hp _ a u q) fun a m => by
      obtain ⟨u, q, _⟩ := o.there a m
      rw [q, same_new hp _ a u q]
theorem RE.tup0 {ds : List D} {Q : VK} {xs : List V} {p : Addr} (h : RE K S H (.tup ds) (fr (.tup ds) 0) Q) (o : Ows K S H 0 xs ds []) (hp : H p = none) : Q (.ref p) (upd H p (.tup xs)) := by
  have o2 : Ow K (fun a => S a ∧ a ∉ ([] : List Addr)) (upd H p (.tup xs)) 0 (.ref p) (.tup ds) [] := .tup upd_same (o.mono (fun a _ _ s => ⟨s, List.not_mem_nil⟩) (fun a u q _ => same_new hp _ a u q) fun a m => (List.not_mem_nil m).elim)
  exact h (.ref p) _ [] (same_new hp _) List.nodup_nil (fun _ m => (List.not_mem_nil m).elim) o2.frk

/-- one part asked, by a value that is read -/
theorem tE_one {a : E} {σ : St} {nv : Nv} {x : D} {k : Nat} {Q : VK} (hA : All H S) (hs : SE K S H σ nv (vars a)) (ea : evalE Φ a nv = some (x, k))
    (c : ∀ v H', Same H H' → All H' S → Ow K S H' 0 v x [] → Q v H') : tE K Φ a σ H Q :=
  ⟨S, nv, x, k, hA, hs, ea, fun v H' G e nd f o => c v H' e (Same.all e hA) (o.forget (fun _ s => s.1) fun a m => hA a (f a m))⟩
theorem tE_two {a b : E} {σ : St} {nv : Nv} {x y : D} {k l : Nat} {R : V → V → Hp → Prop} (hA : All H S) (hs : SE K S H σ nv (vars a ++ vars b)) (ea : evalE Φ a nv = some (x, k)) (eb : evalE Φ b nv = some (y, l))
    (c : ∀ v w H', Same H H' → All H' S → Ow K S H' 0 v x [] → Ow K S H' 0 w y [] → R v w H') : tE K Φ a σ H fun v H1 => tE K Φ b σ H1 fun w H2 => R v w H2 :=
  tE_one hA hs.left ea fun v H1 e1 A1 o1 => tE_one A1 (hs.right.same e1) eb fun w H2 e2 A2 o2 => c v w H2 (e1.trans e2) A2 (o1.same e2) o2
/-- an argument list, by values that are read -/
theorem tA_vals {es : Es} {σ : St} {nv : Nv} {r : List (D × Nat)} {Q : List V → Hp → Prop} (hA : All H S) (hs : SE K S H σ nv (varsS es)) (ea : evalEs Φ es nv = some r)
    (c : ∀ vs H', Same H H' → All H' S → Ows K S H' 0 vs (r.map (·.1)) [] → Q vs H') : tA K Φ es σ H Q :=
  ⟨S, nv, r, hA, hs, ea, fun vs H' G e nd f o => c vs H' e (Same.all e hA) (o.forget (fun _ s => s.1) fun a m => hA a (f a m))⟩

theorem isE {α β : Type} {xs : List α} {ds : List β} (h : xs.length = ds.length) : xs.isEmpty = ds.isEmpty := by
  cases xs <;> cases ds <;> first | rfl | cases h
theorem Ow.tru {k : Nat} {v : V} {d : D} {F : List Addr} {b : Bool} (h : Ow K S H k v d F) (e : truth d = some b) : TruV K v H b := by
  cases h with
  | non => exact (Option.some.inj e).symm
  | bl => exact (Option.some.inj e).symm
  | int => exact (Option.some.inj e).symm
  | str => cases e
  | tup h r => exact .inr (.inl ⟨_, SqT.of h, by rw [isE r.length]; exact (Option.some.inj e).symm⟩)
  | ls0 h s r => exact .inl ⟨_, SqL.of h, by rw [isE r.length]; exact (Option.some.inj e).symm⟩
  | lsk k h r => exact .inl ⟨_, SqL.of h, by rw [isE r.length]; exact (Option.some.inj e).symm⟩
  | scr => cases e
end

/-! ### weaker readings -/
section
variable {X : Cx}
theorem _root_.L2.PE.weak {e : Expr} {t t' : TE} (h : PE X e t) (w : ∀ σ H Q, t' σ H Q → t σ H Q) : PE X e t' := ⟨fun pins s σ H Q I q => h.run pins s σ H Q I (w σ H Q q)⟩
theorem _root_.L2.PT.weak {e : Expr} {t t' : TT} (h : PT X e t) (w : ∀ σ H Q, t' σ H Q → t σ H Q) : PT X e t' := ⟨fun pins s σ H Q I q => h.run pins s σ H Q I (w σ H Q q)⟩
theorem _root_.L2.PW.weak {e : Expr} {t t' : TT} (h : PW X e t) (w : ∀ σ H Q, t' σ H Q → t σ H Q) : PW X e t' := ⟨fun wh pins s σ H Q I q => h.run wh pins s σ H Q I (w σ H Q q)⟩
theorem _root_.L2.PA.weak {es : List Expr} {t t' : TA} (h : PA X es t) (w : ∀ σ H Q, t' σ H Q → t σ H Q) : PA X es t' := ⟨fun pos pins s σ H Q I q => h.run pos pins s σ H Q I (w σ H Q q)⟩
theorem _root_.L2.PS.weak {st : Stmt} {t t' : TS} (h : PS X st t) (w : ∀ D σ H, t' D σ H → t D σ H) : PS X st t' := ⟨fun pins s σ H D I q => h.run pins s σ H D I (w D σ H q)⟩
theorem _root_.L2.PSs.weak {st : List Stmt} {t t' : TS} (h : PSs X st t) (w : ∀ D σ H, t' D σ H → t D σ H) : PSs X st t' := ⟨fun pins s σ H D I q => h.run pins s σ H D I (w D σ H q)⟩
theorem _root_.L2.PTs.weak {es : List Expr} {t t' : TT} (h : PTs X es t) (w : ∀ σ H Q, t' σ H Q → t σ H Q) : PTs X es t' := ⟨fun pins s σ H Q I q => h.run pins s σ H Q I (w σ H Q q)⟩
theorem _root_.L2.PI.weak {tg e : Expr} {t t' : TI} (h : PI X tg e t) (w : ∀ σ H Q, t' σ H Q → t σ H Q) : PI X tg e t' := ⟨fun pins s σ H Q I q => h.run pins s σ H Q I (w σ H Q q)⟩
theorem _root_.L2.PO.weak {e : Option Expr} {t t' : TO} (h : PO X e t) (w : ∀ σ H Q, t' σ H Q → t σ H Q) : PO X e t' := ⟨fun pins s σ H Q I q => h.run pins s σ H Q I (w σ H Q q)⟩
end
end PD

/-! PD5: expressions, construct by construct. -/
namespace PD
open PySem L2

/-- the promise of a def whose datum is φ -/
def spD (K : PySem.W.Frag) (φ : List D → Option (D × Nat × D)) : Sp := fun vs H Q _ => ∃ S ds d k d', All H S ∧ Ows K S H 0 vs ds [] ∧ φ ds = some (d, k, d') ∧ RE K S H d k Q

def bltNames : List Str := ["len", "abs", "int", "sum", "max", "min", "list", "tuple", "isinstance", "bool", "str", "range", "reversed", "sorted"]

structure XOk (X : Cx) (T : Tx) (sk : Sk) (Φ : PhiT) : Prop where
  N : X.N = T.N
  nd : T.N.Nodup
  sc : X.env.scope = sk.sc
  fn : X.fn = sk.fn
  calm : X.calm = true
  blt : ∀ x ∈ bltNames, X.mg x = none
  fns : ∀ (i : Nat) (x : Str), ixOf T.fns x = some i → ∃ f fd ps k, FnOk X.prog X.w X.K X.mg X.base CX0 k f fd ps (spD X.K (Φ i)) ∧ X.mg x = some (.ref f) ∧ PySem.W.keepIn X.K (.ref f) = true ∧ Binds X.K fd ps [] ∧ Room k X.A
  rm : X.A.units + 65 < cLine

section
variable {X : Cx} {T : Tx} {sk : Sk} {Φ : PhiT} {K : PySem.W.Frag} {S : Addr → Prop} {H : Hp}

theorem XOk.vis (ok : XOk X T sk Φ) {x : Str} (h : isVis sk.sc x = true) : Vis X.env.scope x := by
  unfold isVis at h
  unfold Vis
  rw [ok.sc]
  split at h <;> first | exact .inl (by assumption) | exact .inr (.inl (by assumption)) | exact .inr (.inr (by assumption)) | cases h
theorem XOk.gl (ok : XOk X T sk Φ) {x : Str} (h : isGl sk.sc x = true) : Gl X x := by
  unfold isGl at h
  show X.env.scope.names.lookup x = some .globalImplicit
  rw [ok.sc]
  split at h <;> first | assumption | cases h
theorem XOk.store (ok : XOk X T sk Φ) {x : Str} (h : isStore sk x = true) : L2.Loc X.env.scope x ∧ (X.fn x = true ∨ X.env.scope.names.lookup x = some .local) := by
  unfold isStore at h
  unfold L2.Loc
  rw [ok.sc, ok.fn]
  split at h
  · exact ⟨.inl (by assumption), .inr (by assumption)⟩
  · exact ⟨.inr (by assumption), .inl h⟩
  · cases h
theorem XOk.ix (ok : XOk X T sk Φ) {x : Str} {i : Nat} (h : ixOf T.N x = some i) : X.N[i]? = some x := by rw [ok.N]; exact ixOf_get h
theorem XOk.ndX (ok : XOk X T sk Φ) : X.N.Nodup := by rw [ok.N]; exact ok.nd

/-! ### constants, names -/
theorem sE_cst {e : Expr} {d : D} {v : V} (h : PE X e (tC v)) (o : ∀ K S H, Ow K S H 8 v d []) : PE X e (tE X.K Φ (.cst d)) := h.weak fun σ H Q ⟨S, nv, d', k, hA, hs, ev, q⟩ => by
  have e1 : some (d, 8) = some (d', k) := ev
  cases e1
  exact q.flat fun S' => o _ _ _
theorem sE_var (ok : XOk X T sk Φ) {x : Str} {i : Nat} {pos : Pos} (h1 : isVis sk.sc x = true) (h2 : (x == ("__debug__" : Str)) = false) (h3 : (x == ("__classdict__" : Str)) = false) (hi : ixOf T.N x = some i) : PE X (.Name x pos) (tE X.K Φ (.var i)) :=
  (pe_var (ok.ix hi) (ok.vis h1) h2 h3).weak fun σ H Q ⟨S, nv, d', k, hA, hs, ev, q⟩ => by
    unfold evalE at ev
    split at ev
    · rename_i d k0 hv
      cases ev
      obtain ⟨v, e, o⟩ := hs.val i (by simp [vars]) _ k0 hv
      exact ⟨v, e, q.old o⟩
    · cases ev

/-! ### argument lists, displays -/
theorem star_of {e : Expr} {r : List Expr} {env : PySem.Env} (h : okArg e = true) : starEach (e :: r) env = (false, eval e env) :: starEach r env := by
  cases e <;> first | rfl | cases h
theorem sA_nil : PA X [] (tA X.K Φ .nil) := pa_nil.weak fun σ H Q ⟨S, nv, r, hA, hs, ev, q⟩ => by
  have e1 : some [] = some r := ev
  cases e1
  exact q [] H [] (Same.refl H) List.nodup_nil (fun _ m => (List.not_mem_nil m).elim) .nil
theorem sA_cons {e : Expr} {r : List Expr} {a : E} {as : Es} (h : okArg e = true) (h1 : PE X e (tE X.K Φ a)) (h2 : PA X r (tA X.K Φ as)) : PA X (e :: r) (tA X.K Φ (.cons a as)) :=
  (pa_cons h1 h2 (star_of h)).weak fun σ H Q ⟨S, nv, r, hA, hs, ev, q⟩ => by
    unfold evalEs at ev
    split at ev
    · rename_i x ea
      split at ev
      · rename_i rs er
        cases ev
        obtain ⟨d, k⟩ := x
        refine ⟨S, nv, d, k, hA, SE.left hs, ea, fun v H1 G e1 nd f o => ?_⟩
        refine ⟨fun a => S a ∧ a ∉ G, nv, rs, fun b n => ⟨hA b (e1.free n), fun m => by
          obtain ⟨u, z, _⟩ := o.there b m
          rw [n] at z; cases z⟩, ((SE.right hs).drop f).same e1, er, fun vs H2 G2 e2 nd2 f2 o2 => ?_⟩
        refine q (v :: vs) H2 (G ++ G2) (e1.trans e2) (List.nodup_append.mpr ⟨nd, nd2, fun a m b m2 e => ?_⟩) (fun a m => ?_) (.cons ?_ ?_)
        · subst e
          obtain ⟨u, z, _⟩ := o.there a m
          rw [f2 a m2] at z; cases z
        · rcases List.mem_append.mp m with m | m
          · exact f a m
          · exact e1.free (f2 a m)
        · refine o.mono (fun a u z s => ⟨s.1, fun m => (List.mem_append.mp m).elim s.2 fun m => by rw [f2 a m] at z; cases z⟩) (fun a u z _ => e2 a u z) fun a m => ?_
          obtain ⟨u, z, _⟩ := o.there a m
          rw [z, e2 a u z]
        · exact o2.mono (fun a u z s => ⟨s.1.1, fun m => (List.mem_append.mp m).elim s.1.2 s.2⟩) (Same.refl _)
      · cases ev
    · cases ev
theorem small_le {n : Nat} (h : small n = true) : n ≤ sizeLine := of_decide_eq_true h
theorem dn_up (k : Nat) : dn (up k) ≤ k := by
  unfold up
  split
  · unfold dn; rw [if_pos (by omega)]; exact Nat.le_refl _
  · unfold dn; rw [if_neg (by omega)]; omega
theorem up_ne (k : Nat) : up k ≠ 0 := by unfold up; split <;> omega
theorem sE_lst {es : List Expr} {as : Es} {pos : Pos} (h : PA X es (tA X.K Φ as)) : PE X (.List es pos) (tE X.K Φ (.lst as)) := (pe_lst h).weak fun σ H Q ⟨S, nv, d, k, hA, hs, ev, q⟩ => by
  unfold evalE at ev
  split at ev
  · rename_i r er
    split at ev
    · rename_i hz
      cases ev
      refine ⟨S, nv, r, hA, hs, er, fun vs H1 G e1 nd f o => ⟨by rw [o.length]; exact small_le hz, fun p hp => ?_⟩⟩
      obtain ⟨G', sl, o'⟩ := o.lower (dn_up (minK r)) nd
      refine q.lst (G := G') (up_ne _) e1 hA (sl.nodup nd) (fun a m => f a (sl.subset m)) (o' _ (fun a s => ⟨s.1, fun m => s.2 (sl.subset m)⟩) fun a m n => ⟨hA a (f a m), n⟩) hp
    · cases ev
  · cases ev
theorem sE_tup {es : List Expr} {as : Es} {n : Nat} {pos : Pos} (h : PA X es (tA X.K Φ as)) : PE X (.Tuple es n pos) (tE X.K Φ (.tup as)) := (pe_tup h).weak fun σ H Q ⟨S, nv, d, k, hA, hs, ev, q⟩ => by
  unfold evalE at ev
  split at ev
  · rename_i r er
    split at ev
    · rename_i hz
      cases ev
      refine ⟨S, nv, r, hA, hs, er, fun vs H1 G e1 nd f o => ⟨by rw [o.length]; exact small_le hz, fun p hp => ?_⟩⟩
      obtain ⟨G', sl, o'⟩ := o.lower (Nat.le_refl (minK r)) nd
      refine q.tup (G := G') e1 (sl.nodup nd) (fun a m => f a (sl.subset m)) (o' _ (fun a s => ⟨s.1, fun m => s.2 (sl.subset m)⟩) fun a m n => ⟨hA a (f a m), n⟩) hp
    · cases ev
  · cases ev

/-! ### data by lists -/
theorem Ows.append : ∀ {vs ws : List V} {ds es : List D}, Ows K S H 0 vs ds [] → Ows K S H 0 ws es [] → Ows K S H 0 (vs ++ ws) (ds ++ es) []
  | [], _, ds, _, h, r => by
    have e := h.length
    cases ds with
    | nil => exact r
    | cons d ds => cases e
  | v :: vs, ws, ds, es, h, r => by
    have e := h.length
    cases ds with
    | nil => cases e
    | cons d ds =>
      generalize hF : ([] : List Addr) = F at h
      cases h with
      | cons h1 h2 =>
        rename_i F G
        have z1 := h1.zero
        have z2 := h2.zero
        subst z1 z2
        exact .cons (F := []) (G := []) h1 (Ows.append h2 r)
theorem Ows.of_all : ∀ {vs : List V} {ds : List D}, vs.length = ds.length → (∀ (i : Nat) d, ds[i]? = some d → ∃ v, vs[i]? = some v ∧ Ow K S H 0 v d []) → Ows K S H 0 vs ds []
  | [], [], _, _ => .nil 0
  | v :: vs, d :: ds, e, h => by
    obtain ⟨w, e1, o⟩ := h 0 d rfl
    have e2 : v = w := Option.some.inj e1
    subst e2
    exact .cons (F := []) (G := []) o (Ows.of_all (by simpa using e) fun i d q => by simpa using h (i + 1) d (by simpa using q))
  | [], _ :: _, e, _ => by cases e
  | _ :: _, [], e, _ => by cases e
theorem Ows.drp {vs : List V} {ds : List D} (h : Ows K S H 0 vs ds []) (n : Nat) : Ows K S H 0 (vs.drop n) (ds.drop n) [] :=
  .of_all (by simp [h.length]) fun i d e => by
    rw [List.getElem?_drop] at e ⊢
    exact h.get0 e
theorem Ows.tke {vs : List V} {ds : List D} (h : Ows K S H 0 vs ds []) (n : Nat) : Ows K S H 0 (vs.take n) (ds.take n) [] :=
  .of_all (by simp [h.length]) fun i d e => by
    rw [List.getElem?_take] at e ⊢
    split at e
    · rename_i c
      rw [if_pos c]
      exact h.get0 e
    · cases e
theorem Ows.rev {vs : List V} {ds : List D} (h : Ows K S H 0 vs ds []) : Ows K S H 0 vs.reverse ds.reverse [] :=
  .of_all (by simp [h.length]) fun i d e => by
    have hi : i < ds.length := by
      have := (List.getElem?_eq_some_iff.mp e).1
      simpa using this
    rw [List.getElem?_reverse hi] at e
    rw [List.getElem?_reverse (by rw [h.length]; exact hi), h.length]
    exact h.get0 e
theorem Ows.repl {vs : List V} {ds : List D} (h : Ows K S H 0 vs ds []) : ∀ n : Nat, Ows K S H 0 (List.replicate n vs).flatten (List.replicate n ds).flatten []
  | 0 => .nil 0
  | n + 1 => by
    rw [List.replicate_succ, List.replicate_succ, List.flatten_cons, List.flatten_cons]
    exact h.append (h.repl n)
theorem Ows.ints : ∀ ns : List Int, Ows K S H 0 (ns.map V.int) (ns.map D.int) []
  | [] => .nil 0
  | n :: ns => .cons (F := []) (G := []) (.int 0 n) (Ows.ints ns)
theorem Ows.up : ∀ {ns : List Int} {k : Nat}, Ows K S H 0 (ns.map V.int) (ns.map D.int) [] → Ows K S H k (ns.map V.int) (ns.map D.int) []
  | [], k, _ => .nil k
  | n :: ns, k, _ => .cons (F := []) (G := []) (.int k n) (Ows.up (Ows.ints ns))
theorem Ows.ofInts : ∀ {vs : List V} {ds : List D} {ns : List Int}, Ows K S H 0 vs ds [] → intsOf ds = some ns → vs = ns.map V.int
  | vs, [], ns, h, e => by
    cases e
    have := h.length
    cases vs with
    | nil => rfl
    | cons _ _ => cases this
  | vs, d :: ds, ns, h, e => by
    have l := h.length
    cases vs with
    | nil => cases l
    | cons v vs =>
      generalize hF : ([] : List Addr) = F at h
      cases h with
      | cons h1 h2 =>
        have z2 := h2.zero
        subst z2
        cases h1 with
        | int k i =>
          have e' : (intsOf ds).map (i :: ·) = some ns := e
          cases q : intsOf ds with
          | none => rw [q] at e'; cases e'
          | some ms =>
            rw [q] at e'
            cases e'
            rw [h2.ofInts q]
            rfl
        | _ => cases e

theorem Ow.lstI {v : V} {ds : List D} (h : Ow K S H 0 v (.lst ds) []) : ∃ a xs, v = .ref a ∧ H a = some (.lst xs) ∧ S a ∧ Ows K S H 0 xs ds [] := by
  generalize hF : ([] : List Addr) = F at h
  cases h with
  | ls0 h s r => exact ⟨_, _, rfl, h, s, r⟩
  | lsk k h r => cases hF
theorem Ow.tupI {v : V} {ds : List D} (h : Ow K S H 0 v (.tup ds) []) : ∃ a xs, v = .ref a ∧ H a = some (.tup xs) ∧ Ows K S H 0 xs ds [] := by
  cases h with
  | tup h r => exact ⟨_, _, rfl, h, r⟩
theorem Ow.intI {k : Nat} {v : V} {i : Int} {F : List Addr} (h : Ow K S H k v (.int i) F) : v = .int i := by cases h; rfl
theorem Ow.blI {k : Nat} {v : V} {b : Bool} {F : List Addr} (h : Ow K S H k v (.bl b) F) : v = .bl b := by cases h; rfl
theorem Ow.nonI {k : Nat} {v : V} {F : List Addr} (h : Ow K S H k v .non F) : v = .non := by cases h; rfl
theorem Ow.scrI {k : Nat} {v : V} {ns : List Int} {F : List Addr} (h : Ow K S H k v (.scr ns) F) : ∃ a, v = .ref a ∧ ScrAt K H a ns := by
  cases h with
  | scr k h => exact ⟨_, rfl, h⟩

/-! ### two-place operations -/
def rBin (K : PySem.W.Frag) (op : Operator) : R2 := fun x y H Q => ∃ S dx dy d k, All H S ∧ Ow K S H 0 x dx [] ∧ Ow K S H 0 y dy [] ∧ binD op dx dy = some (d, k) ∧ RE K S H d k Q
theorem opBin (op : Operator) : OpR X (binaryOp op) (rBin X.K op) := by
  intro pins s σ H x y v u Q I rx ry ⟨S, dx, dy, d, k, hA, ox, oy, e, q⟩
  unfold binD at e
  split at e
  · cases ox.intI; cases oy.intI; cases e
    exact op_add pins s σ H _ _ v u Q I rx ry ⟨_, _, rfl, rfl, q.int⟩
  · cases ox.intI; cases oy.intI; cases e
    exact op_sub pins s σ H _ _ v u Q I rx ry ⟨_, _, rfl, rfl, q.int⟩
  · split at e
    · rename_i c
      cases ox.intI; cases oy.intI; cases e
      exact op_mulW pins s σ H _ _ v u Q I rx ry ⟨_, _, rfl, rfl, (show CMulW _ _ from of_decide_eq_true (p := _ < 1000000) c), q.int⟩
    · cases e
  · split at e
    · rename_i c
      cases ox.intI; cases oy.intI; cases e
      exact op_fdivW pins s σ H _ _ v u Q I rx ry ⟨_, _, rfl, rfl, (show CDivW _ _ from of_decide_eq_true (p := _ ∧ _) c), q.int⟩
    · cases e
  · split at e
    · rename_i c
      cases ox.intI; cases oy.intI; cases e
      exact op_mod pins s σ H _ _ v u Q I rx ry ⟨_, _, rfl, rfl, c, q.int⟩
    · cases e
  · split at e
    · rename_i c
      cases ox.intI; cases oy.intI; cases e
      exact op_pow pins s σ H _ _ v u Q I rx ry ⟨_, _, rfl, rfl, c, q.int⟩
    · cases e
  · split at e
    · rename_i c
      obtain ⟨a, xs, rfl, ha, sa, ra⟩ := ox.lstI
      obtain ⟨b, ys, rfl, hb, sb, rb⟩ := oy.lstI
      cases e
      exact op_cat pins s σ H _ _ v u Q I rx ry ⟨a, b, xs, ys, rfl, rfl, ha, hb, by rw [ra.length, rb.length]; exact small_le c, fun p hp => q.lst1 hA (ra.append rb) hp⟩
    · cases e
  · split at e
    · rename_i c
      obtain ⟨a, xs, rfl, ha, ra⟩ := ox.tupI
      obtain ⟨b, ys, rfl, hb, rb⟩ := oy.tupI
      cases e
      rw [Bool.and_eq_true] at c
      obtain ⟨c1, c2⟩ := c
      rename_i xs0 ys0
      have nx : xs ≠ [] := fun z => by
        subst z
        have := ra.length
        cases xs0 with
        | nil => cases c1
        | cons _ _ => cases this
      refine op_catT pins s σ H _ _ v u Q I rx ry ⟨a, b, xs, ys, rfl, rfl, SqT.of ha, SqT.of hb, nx, by rw [ra.length, rb.length]; exact small_le c2, fun z => ?_, fun _ p hp => q.tup0 (ra.append rb) hp⟩
      subst z
      have e0 : ys0 = [] := by
        have := rb.length
        cases ys0 with
        | nil => rfl
        | cons _ _ => cases this
      subst e0
      rw [List.append_nil] at q
      exact q.old ox
    · cases e
  · split at e
    · rename_i c
      obtain ⟨a, xs, rfl, ha, sa, ra⟩ := ox.lstI
      cases oy.intI
      cases e
      exact op_rep pins s σ H _ _ v u Q I rx ry ⟨a, _, xs, rfl, rfl, ha, c.1, c.2.1, by rw [ra.length]; exact small_le c.2.2, fun p hp => q.lst1 hA (ra.repl _) hp⟩
    · cases e
  · split at e
    · rename_i c
      obtain ⟨a, xs, rfl, ha, ra⟩ := ox.tupI
      cases oy.intI
      cases e
      rename_i xs0 n
      have nx : xs ≠ [] := fun z => by
        subst z
        have := ra.length
        cases xs0 with
        | nil => exact absurd rfl c.1
        | cons _ _ => cases this
      exact op_repT pins s σ H _ _ v u Q I rx ry ⟨a, _, xs, rfl, rfl, SqT.of ha, nx, c.2.1, c.2.2.1, by rw [ra.length]; exact c.2.2.2, fun p hp => q.tup0 (ra.repl _) hp⟩
    · cases e
  · cases e
theorem sE_bin {a b : Expr} {a' b' : E} {op : Operator} {pos : Pos} (ha : PE X a (tE X.K Φ a')) (hb : PE X b (tE X.K Φ b')) : PE X (.BinOp a op b pos) (tE X.K Φ (.bin op a' b')) :=
  (pe_op (opBin op) ha hb).weak fun σ H Q ⟨S, nv, d, k, hA, hs, ev, q⟩ => by
    unfold evalE at ev
    split at ev
    · rename_i x kx ea
      split at ev
      · rename_i y ky eb
        exact tE_two hA hs ea eb fun v w H' e A o1 o2 => ⟨S, x, y, d, k, A, o1, o2, ev, q.same e⟩
      · cases ev
    · cases ev
theorem sE_neg {a : Expr} {a' : E} {pos : Pos} (ha : PE X a (tE X.K Φ a')) : PE X (.UnaryOp .USub a pos) (tE X.K Φ (.neg a')) :=
  (pe_un un_neg ha).weak fun σ H Q ⟨S, nv, d, k, hA, hs, ev, q⟩ => by
    unfold evalE at ev
    split at ev
    · rename_i i kx ea
      cases ev
      exact tE_one hA hs ea fun v H' e A o => ⟨i, o.intI, (q.same e).int⟩
    · cases ev
end
end PD

/-! PD6: comparisons, tests, subscripts, slices, built-ins, calls. -/
namespace PD
open PySem L2
section
variable {X : Cx} {T : Tx} {sk : Sk} {Φ : PhiT} {K : PySem.W.Frag} {S : Addr → Prop} {H : Hp}

/-! ### comparisons -/
def rCmp (K : PySem.W.Frag) (op : CmpOp) : R2 := fun x y H Q => ∃ S dx dy b, Ow K S H 0 x dx [] ∧ Ow K S H 0 y dy [] ∧ cmpD op dx dy = some b ∧ Q (.bl b) H
theorem eqD_dp {x y : V} {dx dy : D} {b : Bool} (ox : Ow K S H 0 x dx []) (oy : Ow K S H 0 y dy []) (e : eqD dx dy = some b) : Dp K H x dx.py ∧ Dp K H y dy.py ∧ SeqAt.shaped dx.py = true ∧ SeqAt.shaped dy.py = true ∧ PyData.eqv dx.py dy.py = b := by
  unfold eqD at e
  split at e
  · rename_i c
    rw [Bool.and_eq_true] at c
    exact ⟨ox.dp (SeqAt.canLay_of_shaped c.1), oy.dp (SeqAt.canLay_of_shaped c.2), c.1, c.2, Option.some.inj e⟩
  · cases e
theorem is_non {k : Nat} {x : V} {d : D} {F : List Addr} (o : Ow K S H k x d F) : decide (x = .non) = isNon d := by
  cases o <;> rfl
theorem anyPy (x : PyData) : ∀ xs : List D, (D.py.pyL xs).any (fun z => PyData.eqv z x) = xs.any fun y => PyData.eqv y.py x
  | [] => rfl
  | y :: ys => by
    unfold D.py.pyL
    rw [List.any_cons, List.any_cons, anyPy x ys]
theorem opCmp (hu : X.A.units + 65 < cLine) (op : CmpOp) : OpR X (compareOp op) (rCmp X.K op) := by
  intro pins s σ H x y v u Q I rx ry ⟨S, dx, dy, b, ox, oy, e, q⟩
  unfold cmpD at e
  split at e
  · obtain ⟨p1, p2, s1, s2, r⟩ := eqD_dp ox oy e
    exact op_eqD (by omega) pins s σ H _ _ v u Q I rx ry ⟨_, _, p1, p2, s1, s2, by rw [r]; exact q⟩
  · cases z : eqD dx dy with
    | none => rw [z] at e; cases e
    | some c =>
      rw [z] at e
      obtain ⟨p1, p2, s1, s2, r⟩ := eqD_dp ox oy z
      exact op_neD (by omega) pins s σ H _ _ v u Q I rx ry ⟨_, _, p1, p2, s1, s2, by rw [r]; have e' : (!c) = b := Option.some.inj e; rw [e']; exact q⟩
  · cases ox.intI; cases oy.intI; cases e
    exact op_lt pins s σ H _ _ v u Q I rx ry ⟨_, _, rfl, rfl, q⟩
  · cases ox.intI; cases oy.intI; cases e
    exact op_le pins s σ H _ _ v u Q I rx ry ⟨_, _, rfl, rfl, q⟩
  · cases ox.intI; cases oy.intI; cases e
    exact op_gt pins s σ H _ _ v u Q I rx ry ⟨_, _, rfl, rfl, q⟩
  · cases ox.intI; cases oy.intI; cases e
    exact op_ge pins s σ H _ _ v u Q I rx ry ⟨_, _, rfl, rfl, q⟩
  · cases oy.nonI
    refine op_isN pins s σ H _ _ v u Q I rx ry ⟨rfl, ?_⟩
    rw [is_non ox, Option.some.inj e]
    exact q
  · cases oy.nonI
    refine op_notN pins s σ H _ _ v u Q I rx ry ⟨rfl, ?_⟩
    rw [is_non ox, Option.some.inj e]
    exact q
  · rename_i d0 xs
    unfold inD at e
    split at e
    · rename_i c
      rw [Bool.and_eq_true] at c
      have p2 := oy.dp (SeqAt.canLay_of_shaped c.2)
      have p2' : Dp X.K H y (.list (D.py.pyL xs)) := p2
      refine op_inD hu pins s σ H _ _ v u Q I rx ry ⟨_, _, ox.dp (SeqAt.canLay_of_shaped c.1), p2', c.1, c.2, ?_⟩
      rw [anyPy, Option.some.inj e]
      exact q
    · cases e
  · rename_i d0 xs
    cases z : inD dx xs with
    | none => rw [z] at e; cases e
    | some c =>
      rw [z] at e
      unfold inD at z
      split at z
      · rename_i c'
        rw [Bool.and_eq_true] at c'
        have p2 := oy.dp (SeqAt.canLay_of_shaped c'.2)
        have p2' : Dp X.K H y (.list (D.py.pyL xs)) := p2
        refine op_notInD hu pins s σ H _ _ v u Q I rx ry ⟨_, _, ox.dp (SeqAt.canLay_of_shaped c'.1), p2', c'.1, c'.2, ?_⟩
        rw [anyPy, Option.some.inj z]
        have e' : (!c) = b := Option.some.inj e
        rw [e']
        exact q
      · cases z
  · cases e
theorem beh_of {op : CmpOp} {b : Expr} (h : okSet b = true) : behindInMarks op b = false := by
  cases b <;> first | rfl | cases h
theorem sE_cmp (ok : XOk X T sk Φ) {a b : Expr} {a' b' : E} {op : CmpOp} {pos : Pos} (h : okSet b = true) (ha : PE X a (tE X.K Φ a')) (hb : PE X b (tE X.K Φ b')) : PE X (.Compare a [op] [b] pos) (tE X.K Φ (.cmp op a' b')) :=
  (pe_cmpR (opCmp ok.rm op) ha hb (beh_of h)).weak fun σ H Q ⟨S, nv, d, k, hA, hs, ev, q⟩ => by
    unfold evalE at ev
    split at ev
    · rename_i x kx ea
      split at ev
      · rename_i y ky eb
        split at ev
        · rename_i r er
          cases ev
          exact tE_two hA hs ea eb fun v w H' e A o1 o2 => ⟨S, x, y, r, o1, o2, er, (q.same e).bl⟩
        · cases ev
      · cases ev
    · cases ev
theorem sT_cmp (ok : XOk X T sk Φ) {a b : Expr} {a' b' : E} {op : CmpOp} {pos : Pos} (h : okSet b = true) (ha : PE X a (tE X.K Φ a')) (hb : PE X b (tE X.K Φ b')) : PT X (.Compare a [op] [b] pos) (tT X.K Φ (.cmp op a' b')) :=
  (pt_cmpR (opCmp ok.rm op) ha hb (beh_of h)).weak fun σ H Q ⟨S, nv, d, k, c, hA, hs, ev, tr, q⟩ => by
    unfold evalE at ev
    split at ev
    · rename_i x kx ea
      split at ev
      · rename_i y ky eb
        split at ev
        · rename_i r er
          cases ev
          cases tr
          exact tE_two hA hs ea eb fun v w H' e A o1 o2 => ⟨S, x, y, c, o1, o2, er, c, rfl, q H' e⟩
        · cases ev
      · cases ev
    · cases ev
theorem chn_core {a' b' c' : E} {op op' : CmpOp} {S : Addr → Prop} {σ : L2.St} {nv : Nv} {d : D} {k : Nat} {Q : V → Hp → Prop} (hA : All H S) (hs : SE K S H σ nv (vars (.chn op op' a' b' c'))) (ev : evalE Φ (.chn op op' a' b' c') nv = some (d, k))
    (q : ∀ r H', d = .bl r → Same H H' → Q (.bl r) H') : tChain (rCmp K op) (rCmp K op') (tE K Φ a') (tE K Φ b') (tE K Φ c') σ H Q := by
  have hs : SE K S H σ nv (vars a' ++ (vars b' ++ vars c')) := hs
  unfold evalE at ev
  split at ev
  · rename_i x kx ea
    split at ev
    · rename_i y ky eb
      refine tE_one hA hs.left ea fun v H1 e1 A1 o1 => tE_one A1 (hs.right.left.same e1) eb fun w H2 e2 A2 o2 => ?_
      split at ev
      · rename_i er
        split at ev
        · rename_i z kz ec
          split at ev
          · rename_i r er'
            cases ev
            exact ⟨S, x, y, true, o1.same e2, o2, er, true, rfl, iteT (tE_one A2 ((hs.right.right.same e1).same e2) ec fun w3 H3 e3 A3 o3 => ⟨S, y, z, r, o2.same e3, o3, er', q r H3 rfl ((e1.trans e2).trans e3)⟩)⟩
          · cases ev
        · cases ev
      · rename_i er
        cases ev
        exact ⟨S, x, y, false, o1.same e2, o2, er, false, rfl, iteF (q false H2 rfl (e1.trans e2))⟩
      · cases ev
    · cases ev
  · cases ev
theorem marks2 {op op' : CmpOp} {b c : Expr} (hc : okSet c = true) : lastMarks [op, op'] [b, c] = false := by
  show behindInMarks op' c = false
  exact beh_of hc
theorem sE_chn (ok : XOk X T sk Φ) {a b c : Expr} {a' b' c' : E} {op op' : CmpOp} {pos : Pos} (hc' : okSet c = true) (ha : PE X a (tE X.K Φ a')) (hb : PE X b (tE X.K Φ b')) (hc : PE X c (tE X.K Φ c')) : PE X (.Compare a [op, op'] [b, c] pos) (tE X.K Φ (.chn op op' a' b' c')) :=
  (pe_chain (opCmp ok.rm op) (opCmp ok.rm op') ha hb hc (marks2 hc')).weak fun σ H Q ⟨S, nv, d, k, hA, hs, ev, q⟩ => chn_core hA hs ev fun r H' e s => by
    subst e
    exact (q.same s).bl
theorem sT_chn (ok : XOk X T sk Φ) {a b c : Expr} {a' b' c' : E} {op op' : CmpOp} {pos : Pos} (hc' : okSet c = true) (ha : PE X a (tE X.K Φ a')) (hb : PE X b (tE X.K Φ b')) (hc : PE X c (tE X.K Φ c')) : PT X (.Compare a [op, op'] [b, c] pos) (tT X.K Φ (.chn op op' a' b' c')) :=
  (pt_chain (opCmp ok.rm op) (opCmp ok.rm op') ha hb hc (marks2 hc')).weak fun σ H Q ⟨S, nv, d, k, t, hA, hs, ev, tr, q⟩ => chn_core hA hs ev fun r H' e s => by
    subst e
    cases tr
    exact ⟨t, rfl, q H' s⟩

/-! ### tests -/
theorem sT_of {a : Expr} {a' : E} (ha : PE X a (tE X.K Φ a')) (he : ∀ whole, isTrue a X.env whole = (do let v ← whole; standAt a.pos; holding [v] (truthy v))) : PT X a (tT X.K Φ a') :=
  (pt_truth ha he).weak fun σ H Q ⟨S, nv, d, k, b, hA, hs, ev, tr, q⟩ => tE_one hA hs ev fun v H' e A o => ⟨b, o.tru tr, q H' e⟩
theorem sT_not {a : Expr} {a' : E} {pos : Pos} (ha : PT X a (tT X.K Φ a')) : PT X (.UnaryOp .Not a pos) (tT X.K Φ (.not a')) :=
  (pt_not ha).weak fun σ H Q ⟨S, nv, d, k, b, hA, hs, ev, tr, q⟩ => by
    unfold evalE at ev
    split at ev
    · rename_i x kx ea
      split at ev
      · rename_i c ec
        cases ev
        cases tr
        exact ⟨S, nv, x, kx, c, hA, hs, ea, ec, fun H' e => q H' e⟩
      · cases ev
    · cases ev
theorem sE_not {a : Expr} {a' : E} {pos : Pos} (ha : PE X a (tE X.K Φ a')) : PE X (.UnaryOp .Not a pos) (tE X.K Φ (.not a')) :=
  (pe_notT ha).weak fun σ H Q ⟨S, nv, d, k, hA, hs, ev, q⟩ => by
    unfold evalE at ev
    split at ev
    · rename_i x kx ea
      split at ev
      · rename_i c ec
        cases ev
        exact tE_one hA hs ea fun v H' e A o => ⟨c, o.tru ec, (q.same e).bl⟩
      · cases ev
    · cases ev
theorem sW_and {a b : Expr} {r : List Expr} {a' b' : E} {pos : Pos} (ha : PT X a (tT X.K Φ a')) (hb : PW X (.BoolOp .And (b :: r) pos) (tT X.K Φ b')) : PW X (.BoolOp .And (a :: b :: r) pos) (tT X.K Φ (.and a' b')) :=
  (pw_and ha hb).weak fun σ H Q ⟨S, nv, d, k, t, hA, hs, ev, tr, q⟩ => by
    unfold evalE at ev
    split at ev
    · rename_i x kx ea
      split at ev
      · rename_i ec
        exact ⟨S, nv, x, kx, true, hA, SE.left hs, ea, ec, fun H1 e1 => iteT ⟨S, nv, d, k, t, Same.all e1 hA, (SE.right hs).same e1, ev, tr, fun H2 e2 => q H2 (e1.trans e2)⟩⟩
      · rename_i ec
        cases ev
        rw [ec] at tr
        cases tr
        exact ⟨S, nv, _, _, false, hA, SE.left hs, ea, ec, fun H1 e1 => iteF (q H1 e1)⟩
      · cases ev
    · cases ev
theorem sW_or {a b : Expr} {r : List Expr} {a' b' : E} {pos : Pos} (ha : PT X a (tT X.K Φ a')) (hb : PW X (.BoolOp .Or (b :: r) pos) (tT X.K Φ b')) : PW X (.BoolOp .Or (a :: b :: r) pos) (tT X.K Φ (.or a' b')) :=
  (pw_or ha hb).weak fun σ H Q ⟨S, nv, d, k, t, hA, hs, ev, tr, q⟩ => by
    unfold evalE at ev
    split at ev
    · rename_i x kx ea
      split at ev
      · rename_i ec
        cases ev
        rw [ec] at tr
        cases tr
        exact ⟨S, nv, _, _, true, hA, SE.left hs, ea, ec, fun H1 e1 => iteT (q H1 e1)⟩
      · rename_i ec
        exact ⟨S, nv, x, kx, false, hA, SE.left hs, ea, ec, fun H1 e1 => iteF ⟨S, nv, d, k, t, Same.all e1 hA, (SE.right hs).same e1, ev, tr, fun H2 e2 => q H2 (e1.trans e2)⟩⟩
      · cases ev
    · cases ev
theorem sE_and {a b : Expr} {r : List Expr} {a' b' : E} {pos : Pos} (ha : PE X a (tE X.K Φ a')) (hb : PE X (.BoolOp .And (b :: r) pos) (tE X.K Φ b')) : PE X (.BoolOp .And (a :: b :: r) pos) (tE X.K Φ (.and a' b')) :=
  (pe_andT ha hb).weak fun σ H Q ⟨S, nv, d, k, hA, hs, ev, q⟩ => by
    unfold evalE at ev
    split at ev
    · rename_i x kx ea
      split at ev
      · rename_i ec
        exact ⟨S, nv, x, kx, hA, SE.left hs, ea, fun v H1 G e1 nd f o => ⟨true, o.tru ec, iteT ⟨S, nv, d, k, Same.all e1 hA, (SE.right hs).same e1, ev, q.same e1⟩⟩⟩
      · rename_i ec
        cases ev
        exact ⟨S, nv, d, k, hA, SE.left hs, ea, fun v H1 G e1 nd f o => ⟨false, o.tru ec, iteF (q v H1 G e1 nd f o)⟩⟩
      · cases ev
    · cases ev
theorem sE_or {a b : Expr} {r : List Expr} {a' b' : E} {pos : Pos} (ha : PE X a (tE X.K Φ a')) (hb : PE X (.BoolOp .Or (b :: r) pos) (tE X.K Φ b')) : PE X (.BoolOp .Or (a :: b :: r) pos) (tE X.K Φ (.or a' b')) :=
  (pe_orT ha hb).weak fun σ H Q ⟨S, nv, d, k, hA, hs, ev, q⟩ => by
    unfold evalE at ev
    split at ev
    · rename_i x kx ea
      split at ev
      · rename_i ec
        cases ev
        exact ⟨S, nv, d, k, hA, SE.left hs, ea, fun v H1 G e1 nd f o => ⟨true, o.tru ec, iteT (q v H1 G e1 nd f o)⟩⟩
      · rename_i ec
        exact ⟨S, nv, x, kx, hA, SE.left hs, ea, fun v H1 G e1 nd f o => ⟨false, o.tru ec, iteF ⟨S, nv, d, k, Same.all e1 hA, (SE.right hs).same e1, ev, q.same e1⟩⟩⟩
      · cases ev
    · cases ev

/-! ### subscripts, slices -/
theorem at_of {vs : List V} {ds : List D} {i : Int} {d : D} (h : Ows K S H 0 vs ds []) (e : L2.atI ds i = some d) : ∃ v, L2.atI vs i = some v ∧ Ow K S H 0 v d [] := by
  unfold L2.atI at e ⊢
  rw [h.length]
  cases q : ixN ds.length i with
  | none => rw [q] at e; cases e
  | some j =>
    rw [q] at e
    have e' : ds[j]? = some d := e
    obtain ⟨v, e1, o⟩ := h.get0 e'
    exact ⟨v, e1, o⟩
theorem plainIx {b : Expr} (h : okIx b = true) : PlainIx b := by
  intro o i
  cases b <;> first | rfl | cases h
theorem sE_idx {a b : Expr} {a' b' : E} {pos : Pos} (h : okIx b = true) (ha : PE X a (tE X.K Φ a')) (hb : PE X b (tE X.K Φ b')) : PE X (.Subscript a b pos) (tE X.K Φ (.idx a' b')) :=
  (pe_ix ix_seq ha hb (plainIx h)).weak fun σ H Q ⟨S, nv, d, k, hA, hs, ev, q⟩ => by
    unfold evalE at ev
    split at ev
    · rename_i x kx ea
      split at ev
      · rename_i y ky eb
        split at ev
        · rename_i r er
          cases ev
          refine tE_two hA hs ea eb fun v w H' e A o1 o2 => ?_
          unfold ixD at er
          split at er
          · obtain ⟨p, vs, rfl, hp, _, r⟩ := o1.lstI
            cases o2.intI
            obtain ⟨z, e1, o⟩ := at_of r er
            exact .inl ⟨p, vs, _, z, rfl, rfl, SqL.of hp, e1, (q.same e).old o⟩
          · obtain ⟨p, vs, rfl, hp, r⟩ := o1.tupI
            cases o2.intI
            obtain ⟨z, e1, o⟩ := at_of r er
            exact .inr (.inl ⟨p, vs, _, z, rfl, rfl, SqT.of hp, e1, (q.same e).old o⟩)
          · cases er
        · cases ev
      · cases ev
    · cases ev
/-- a slice's part -/
def tO (K : PySem.W.Frag) (Φ : PhiT) (es : Es) : TO := fun σ H Q => ∃ S nv r o, All H S ∧ SE K S H σ nv (varsS es) ∧ evalEs Φ es nv = some r ∧ optInt r = some o ∧ ∀ H', Same H H' → Q o H'
theorem sO_none : PO X none (tO X.K Φ .nil) := po_none.weak fun σ H Q ⟨S, nv, r, o, hA, hs, ev, eo, q⟩ => by
  cases ev
  cases eo
  exact q H (Same.refl H)
theorem sO_some {e : Expr} {a : E} (h : PE X e (tE X.K Φ a)) : PO X (some e) (tO X.K Φ (.cons a .nil)) := (po_some h).weak fun σ H Q ⟨S, nv, r, o, hA, hs, ev, eo, q⟩ => by
  unfold evalEs at ev
  split at ev
  · rename_i x ea
    obtain ⟨d, k⟩ := x
    have ev : some [(d, k)] = some r := ev
    cases ev
    unfold optInt at eo
    split at eo
    · rename_i z; cases z
    · rename_i i k2 z
      cases z
      cases eo
      exact tE_one hA (SE.left hs) ea fun v H1 e1 A1 o1 => ⟨i, o1.intI, q H1 e1⟩
    · cases eo
  · cases ev
theorem cutV_eq {vs : List V} {ds : List D} (h : Ows K S H 0 vs ds []) (lo hi : Option Int) : Ows K S H 0 (cutV vs lo hi) (cut ds lo hi) [] := by
  unfold cutV cut
  rw [h.length]
  exact (h.drp _).tke _
theorem cutV_int (ns : List Int) (lo hi : Option Int) : cutV (ns.map V.int) lo hi = (cutI ns lo hi).map V.int := by
  unfold cutV cutI
  rw [List.length_map, List.map_take, List.map_drop]
theorem sE_sli {a : Expr} {lo hi : Option Expr} {a' : E} {lo' hi' : Es} {p pos : Pos} (ha : PE X a (tE X.K Φ a')) (hl : PO X lo (tO X.K Φ lo')) (hh : PO X hi (tO X.K Φ hi')) : PE X (.Subscript a (.Slice lo hi none p) pos) (tE X.K Φ (.sli a' lo' hi')) :=
  (pe_slice sl_list ha hl hh).weak fun σ H Q ⟨S, nv, d, k, hA, hs, ev, q⟩ => by
    have hs : SE X.K S H σ nv ((vars a' ++ varsS lo') ++ varsS hi') := hs
    unfold evalE at ev
    split at ev
    · rename_i x kx ea
      split at ev
      · rename_i l el
        split at ev
        · rename_i h eh
          split at ev
          · rename_i lo hi ol oh
            refine tE_one hA hs.left.left ea fun v H1 e1 A1 o1 => ⟨S, nv, l, lo, A1, hs.left.right.same e1, el, ol, fun H2 e2 => ⟨S, nv, h, hi, Same.all e2 A1, (hs.right.same e1).same e2, eh, oh, fun H3 e3 => ?_⟩⟩
            have e13 := e2.trans e3
            have A3 := Same.all e13 A1
            have q3 := q.same (e1.trans e13)
            have o3 := o1.same e13
            unfold sliD at ev
            split at ev
            · cases ev
              obtain ⟨p, vs, rfl, hp, sp, r⟩ := o3.lstI
              exact ⟨p, vs, rfl, SqL.of hp, fun n hn => q3.lst1 A3 (cutV_eq r lo hi) hn⟩
            · cases ev
              obtain ⟨p, rfl, hp⟩ := o3.scrI
              refine ⟨p, _, rfl, hp.sq, fun n hn => ?_⟩
              rw [cutV_int]
              refine q3.lst (G := []) (by decide) (Same.refl _) A3 List.nodup_nil (fun _ m => (List.not_mem_nil m).elim) ?_ hn
              exact Ows.up (Ows.ints _)
            · cases ev
          · cases ev
        · cases ev
      · cases ev
    · cases ev
end
end PD

/-! PD7: xs[::-1], built-ins, calls of defs; what a for walks. -/
namespace PD
open PySem L2
section
variable {X : Cx} {T : Tx} {sk : Sk} {Φ : PhiT} {K : PySem.W.Frag} {S : Addr → Prop} {H : Hp}

theorem sE_bck {a : Expr} {a' : E} {k : Nat} {p1 p2 p3 pos : Pos} (ha : PE X a (tE X.K Φ a')) : PE X (.Subscript a (.Slice none none (some (.UnaryOp .USub (.Constant (.int 1) k p1) p2)) p3) pos) (tE X.K Φ (.bck a')) :=
  (pe_revL ha).weak fun σ H Q ⟨S, nv, d, k, hA, hs, ev, q⟩ => by
    unfold evalE at ev
    split at ev
    · rename_i xs kx ea
      cases ev
      refine tE_one hA hs ea fun v H1 e1 A1 o1 => ?_
      obtain ⟨p, vs, rfl, hp, _, r⟩ := o1.lstI
      exact ⟨p, vs, rfl, SqL.of hp, fun n hn => (q.same e1).lst1 A1 r.rev hn⟩
    · cases ev

/-! ### built-ins -/
def rBlt (K : PySem.W.Frag) (f : Blt) : List V → Hp → VK → Prop := fun vs H Q => ∃ S ds d k, All H S ∧ Ows K S H 0 vs ds [] ∧ bltD f ds = some (d, k) ∧ RE K S H d k Q
theorem Ows.inv1 {vs : List V} {d : D} (h : Ows K S H 0 vs [d] []) : ∃ v, vs = [v] ∧ Ow K S H 0 v d [] := by
  obtain ⟨v, e, o⟩ := h.get0 (i := 0) (d := d) rfl
  have l := h.length
  match vs, l with
  | [w], _ => exact ⟨v, by rw [Option.some.inj e], o⟩
theorem Ows.inv2 {vs : List V} {d e : D} (h : Ows K S H 0 vs [d, e] []) : ∃ v w, vs = [v, w] ∧ Ow K S H 0 v d [] ∧ Ow K S H 0 w e [] := by
  obtain ⟨v, e1, o⟩ := h.get0 (i := 0) (d := d) rfl
  obtain ⟨w, e2, o2⟩ := h.get0 (i := 1) (d := e) rfl
  have l := h.length
  match vs, l with
  | [w1, w2], _ => exact ⟨v, w, by rw [Option.some.inj e1, Option.some.inj e2], o, o2⟩
theorem blt_len : CallR X (.builtin "len") (rBlt X.K .len) := by
  intro pins s σ H xs us Q I r ⟨S, ds, d, k, hA, o, e, q⟩
  have e : lenD ds = some (d, k) := e
  unfold lenD at e
  split at e <;> first | cases e | skip
  · obtain ⟨v, rfl, o1⟩ := o.inv1
    obtain ⟨p, vs, rfl, hp, _, r1⟩ := o1.lstI
    refine call_len_seq pins s σ H _ us Q I r ⟨p, vs, rfl, .inl (SqL.of hp), ?_⟩
    rw [r1.length]
    exact q.int
  · obtain ⟨v, rfl, o1⟩ := o.inv1
    obtain ⟨p, vs, rfl, hp, r1⟩ := o1.tupI
    refine call_len_seq pins s σ H _ us Q I r ⟨p, vs, rfl, .inr (SqT.of hp), ?_⟩
    rw [r1.length]
    exact q.int
theorem blt_abs : CallR X (.builtin "abs") (rBlt X.K .abs) := by
  intro pins s σ H xs us Q I r ⟨S, ds, d, k, hA, o, e, q⟩
  have e : absD ds = some (d, k) := e
  unfold absD at e
  split at e <;> first | cases e | skip
  obtain ⟨v, rfl, o1⟩ := o.inv1
  cases o1.intI
  exact call_abs pins s σ H _ us Q I r ⟨_, rfl, q.int⟩
theorem blt_int : CallR X (.type "int") (rBlt X.K .int1) := by
  intro pins s σ H xs us Q I r ⟨S, ds, d, k, hA, o, e, q⟩
  have e : intD ds = some (d, k) := e
  unfold intD at e
  split at e <;> first | cases e | skip
  · obtain ⟨v, rfl, o1⟩ := o.inv1
    cases o1.intI
    exact call_int1 pins s σ H _ us Q I r (.inl ⟨_, rfl, q.int⟩)
  · obtain ⟨v, rfl, o1⟩ := o.inv1
    cases o1.blI
    exact call_int1 pins s σ H _ us Q I r (.inr ⟨_, rfl, q.int⟩)
theorem blt_sum (hc : X.calm = true) : CallR X (.builtin "sum") (rBlt X.K .sum) := by
  intro pins s σ H xs us Q I r ⟨S, ds, d, k, hA, o, e, q⟩
  have e : sumD ds = some (d, k) := e
  unfold sumD at e
  split at e <;> first | cases e | skip
  rename_i ys
  split at e <;> first | cases e | skip
  rename_i ns z
  obtain ⟨v, rfl, o1⟩ := o.inv1
  obtain ⟨p, vs, rfl, hp, _, r1⟩ := o1.lstI
  cases r1.ofInts z
  exact cr_sum hc pins s σ H _ us Q I r ⟨p, ns, rfl, SqL.of hp, q.int⟩
theorem blt_max (hc : X.calm = true) : CallR X (.builtin "max") (rBlt X.K .max) := by
  intro pins s σ H xs us Q I r ⟨S, ds, d, k, hA, o, e, q⟩
  have e : maxD ds = some (d, k) := e
  unfold maxD at e
  split at e <;> first | cases e | skip
  obtain ⟨v, w, rfl, o1, o2⟩ := o.inv2
  cases o1.intI
  cases o2.intI
  exact call_max2 hc pins s σ H _ us Q I r ⟨_, _, rfl, q.int⟩
theorem blt_min (hc : X.calm = true) : CallR X (.builtin "min") (rBlt X.K .min) := by
  intro pins s σ H xs us Q I r ⟨S, ds, d, k, hA, o, e, q⟩
  have e : minD ds = some (d, k) := e
  unfold minD at e
  split at e <;> first | cases e | skip
  obtain ⟨v, w, rfl, o1, o2⟩ := o.inv2
  cases o1.intI
  cases o2.intI
  exact call_min2 hc pins s σ H _ us Q I r ⟨_, _, rfl, q.int⟩
theorem blt_list : CallR X (.type "list") (rBlt X.K .list) := by
  intro pins s σ H xs us Q I r ⟨S, ds, d, k, hA, o, e, q⟩
  have e : listD ds = some (d, k) := e
  unfold listD at e
  split at e <;> first | cases e | skip
  · obtain ⟨v, rfl, o1⟩ := o.inv1
    obtain ⟨p, vs, rfl, hp, _, r1⟩ := o1.lstI
    exact call_list_of pins s σ H _ us Q I r ⟨p, vs, rfl, .inl (SqL.of hp), fun n hn => q.lst1 hA r1 hn⟩
  · obtain ⟨v, rfl, o1⟩ := o.inv1
    obtain ⟨p, vs, rfl, hp, r1⟩ := o1.tupI
    exact call_list_of pins s σ H _ us Q I r ⟨p, vs, rfl, .inr (SqT.of hp), fun n hn => q.lst1 hA r1 hn⟩
theorem blt_tuple : CallR X (.type "tuple") (rBlt X.K .tuple) := by
  intro pins s σ H xs us Q I r ⟨S, ds, d, k, hA, o, e, q⟩
  have e : tupleD ds = some (d, k) := e
  unfold tupleD at e
  split at e <;> first | cases e | skip
  · obtain ⟨v, rfl, o1⟩ := o.inv1
    obtain ⟨p, vs, rfl, hp, _, r1⟩ := o1.lstI
    exact call_tuple_of pins s σ H _ us Q I r ⟨p, vs, rfl, .inl ⟨SqL.of hp, fun n hn => q.tup0 r1 hn⟩⟩
  · obtain ⟨v, rfl, o1⟩ := o.inv1
    obtain ⟨p, vs, rfl, hp, r1⟩ := o1.tupI
    exact call_tuple_of pins s σ H _ us Q I r ⟨p, vs, rfl, .inr ⟨SqT.of hp, q.old o1⟩⟩

theorem anyf_of {es : List Expr} {env : PySem.Env} {pos : Pos} (h : es.all okArg = true) : (backTo pos (starEach es env)).any (·.1) = false := by
  have key : ∀ es : List Expr, es.all okArg = true → (starEach es env).any (·.1) = false := by
    intro es
    induction es with
    | nil => intro _; rfl
    | cons e r ih =>
      intro h
      rw [List.all_cons, Bool.and_eq_true] at h
      rw [star_of h.1, List.any_cons, ih h.2]
      rfl
  unfold backTo
  rw [List.any_map]
  exact key es h
theorem callRb {f : Blt} {id : String} {x : Str} {p pos : Pos} {es : List Expr} {as : Es} (ok : XOk X T sk Φ) (hc : CallR X (.builtin id) (rBlt X.K f)) (hg : isGl sk.sc x = true) (hm : x ∈ bltNames) (hv : bootBuiltins x = some (.builtin id)) (hn : x ≠ "__name__") (hdb : (x == ("__debug__" : Str)) = false)
    (h0 : es ≠ []) (ha : es.all okArg = true) (h : PA X es (tA X.K Φ as)) : PE X (.Call (.Name x p) es [] pos) (tE X.K Φ (.blt f as)) := by
  cases es with
  | nil => exact absurd rfl h0
  | cons e es =>
    rw [List.all_cons, Bool.and_eq_true] at ha
    refine (pe_callB hc (ok.gl hg) (ok.blt x hm) hv h hn hdb (star_of ha.1) (anyf_of ha.2)).weak fun σ H Q ⟨S, nv, d, k, hA, hs, ev, q⟩ => ?_
    unfold evalE at ev
    split at ev
    · rename_i r er
      exact tA_vals hA hs er fun vs H1 e1 A1 o => ⟨S, _, d, k, A1, o, ev, q.same e1⟩
    · cases ev
theorem callRt {f : Blt} {id : String} {x : Str} {p pos : Pos} {es : List Expr} {as : Es} (ok : XOk X T sk Φ) (hc : CallR X (.type id) (rBlt X.K f)) (hg : isGl sk.sc x = true) (hm : x ∈ bltNames) (hv : bootBuiltins x = some (.type id)) (hn : x ≠ "__name__") (hdb : (x == ("__debug__" : Str)) = false)
    (h0 : es ≠ []) (ha : es.all okArg = true) (h : PA X es (tA X.K Φ as)) : PE X (.Call (.Name x p) es [] pos) (tE X.K Φ (.blt f as)) := by
  cases es with
  | nil => exact absurd rfl h0
  | cons e es =>
    rw [List.all_cons, Bool.and_eq_true] at ha
    refine (pe_callTy hc (ok.gl hg) (ok.blt x hm) hv h hn hdb (star_of ha.1) (anyf_of ha.2)).weak fun σ H Q ⟨S, nv, d, k, hA, hs, ev, q⟩ => ?_
    unfold evalE at ev
    split at ev
    · rename_i r er
      exact tA_vals hA hs er fun vs H1 e1 A1 o => ⟨S, _, d, k, A1, o, ev, q.same e1⟩
    · cases ev
theorem sE_blt (ok : XOk X T sk Φ) {f : Blt} {x : Str} {n : Nat} {p pos : Pos} {es : List Expr} {as : Es} (hb : bltOf x n = some f) (hg : isGl sk.sc x = true) (hl : n = es.length) (ha : es.all okArg = true) (h : PA X es (tA X.K Φ as)) :
    PE X (.Call (.Name x p) es [] pos) (tE X.K Φ (.blt f as)) := by
  have ne : ∀ m, n = m → m ≠ 0 → es ≠ [] := fun m e z q => by subst q; exact z (by rw [← e, hl]; rfl)
  unfold bltOf at hb
  split at hb
  · rename_i c; cases hb; obtain ⟨rfl, c⟩ := c
    exact callRb ok blt_len hg (by decide +kernel) PySem.boot_len (by decide +kernel) (by decide +kernel) (ne 1 c (by decide)) ha h
  split at hb
  · rename_i c; cases hb; obtain ⟨rfl, c⟩ := c
    exact callRb ok blt_abs hg (by decide +kernel) (by decide +kernel) (by decide +kernel) (by decide +kernel) (ne 1 c (by decide)) ha h
  split at hb
  · rename_i c; cases hb; obtain ⟨rfl, c⟩ := c
    exact callRt ok blt_int hg (by decide +kernel) (by decide +kernel) (by decide +kernel) (by decide +kernel) (ne 1 c (by decide)) ha h
  split at hb
  · rename_i c; cases hb; obtain ⟨rfl, c⟩ := c
    exact callRb ok (blt_sum ok.calm) hg (by decide +kernel) (by decide +kernel) (by decide +kernel) (by decide +kernel) (ne 1 c (by decide)) ha h
  split at hb
  · rename_i c; cases hb; obtain ⟨rfl, c⟩ := c
    exact callRb ok (blt_max ok.calm) hg (by decide +kernel) (by decide +kernel) (by decide +kernel) (by decide +kernel) (ne 2 c (by decide)) ha h
  split at hb
  · rename_i c; cases hb; obtain ⟨rfl, c⟩ := c
    exact callRb ok (blt_min ok.calm) hg (by decide +kernel) (by decide +kernel) (by decide +kernel) (by decide +kernel) (ne 2 c (by decide)) ha h
  split at hb
  · rename_i c; cases hb; obtain ⟨rfl, c⟩ := c
    exact callRt ok blt_list hg (by decide +kernel) (by decide +kernel) (by decide +kernel) (by decide +kernel) (ne 1 c (by decide)) ha h
  split at hb
  · rename_i c; cases hb; obtain ⟨rfl, c⟩ := c
    exact callRt ok blt_tuple hg (by decide +kernel) (by decide +kernel) (by decide +kernel) (by decide +kernel) (ne 1 c (by decide)) ha h
  cases hb

/-! ### isinstance -/
theorem tyx_of {v : V} {d : D} {t : String} (o : Ow K S H 0 v d []) (e : tyOf d = some t) : TyX K H v (.type t) := by
  cases d with
  | non => cases e; cases o.nonI; exact .base .non
  | bl b => cases e; cases o.blI; exact .base (.bl b)
  | int i => cases e; cases o.intI; exact .base (.int i)
  | str x => cases e; cases o; exact .base (.str x)
  | lst xs => cases e; obtain ⟨p, vs, rfl, hp, _⟩ := o.lstI; exact .base (.lst hp)
  | tup xs => cases e; obtain ⟨p, vs, rfl, hp, _⟩ := o.tupI; exact .base (.tup hp)
  | dic _ _ => cases e
  | scr _ => cases e
theorem ty_name {d : D} {t : String} (e : tyOf d = some t) : t ∈ ["NoneType", "bool", "int", "str", "list", "tuple"] := by
  cases d <;> cases e <;> decide
theorem kitB_of {T' : String} {f : String → Bool} (h : ∀ t ∈ ["NoneType", "bool", "int", "str", "list", "tuple"], kitB t T' = some (f t)) {d : D} {t : String} (e : tyOf d = some t) : PySem.W.kitOne K (.type t) (.type T') = some (f t) := kit_ty (h t (ty_name e))
theorem isi_core (ok : XOk X T sk Φ) {y : Str} {T' : String} {f : Blt} {fb : String → Bool} {a : Expr} {a' : E} {p p2 pos : Pos} (hg : isGl sk.sc ("isinstance" : Str) = true) (hy : isGl sk.sc y = true) (hm : y ∈ bltNames) (hv : bootBuiltins y = some (.type T')) (hn : y ≠ "__name__") (hdb : (y == ("__debug__" : Str)) = false)
    (hb : ∀ ds, bltD f ds = isD fb ds) (hk : ∀ t ∈ ["NoneType", "bool", "int", "str", "list", "tuple"], kitB t T' = some (fb t)) (ha : okArg a = true) (h : PE X a (tE X.K Φ a')) :
    PE X (.Call (.Name ("isinstance" : Str) p) [a, .Name y p2] [] pos) (tE X.K Φ (.blt f (.cons a' .nil))) := by
  refine (pe_callB call_isi (ok.gl hg) (ok.blt _ (by decide +kernel)) (by decide +kernel) (pa_cons h (pa_cons (pe_bltn (v := .ty T') (ok.gl hy) (ok.blt y hm) hv rfl hn hdb) pa_nil) (star_of ha)) (by decide +kernel) (by decide +kernel) (star_of ha) rfl).weak fun σ H Q ⟨S, nv, d, k, hA, hs, ev, q⟩ => ?_
  unfold evalE evalEs at ev
  split at ev
  · rename_i r er
    split at er
    · rename_i x ex
      obtain ⟨xd, xk⟩ := x
      have er : some [(xd, xk)] = some r := er
      cases er
      rw [hb] at ev
      unfold isD at ev
      split at ev
      · rename_i ds d0 hd
        cases hd
        split at ev
        · rename_i t ht
          cases ev
          exact tE_one hA (SE.left hs) ex fun v H1 e1 A1 o1 => ⟨v, .ty T', .type t, .type T', fb t, rfl, .ty _, tyx_of o1 ht, kitB_of hk ht, (q.same e1).bl⟩
        · cases ev
      · cases ev
    · cases er
  · cases ev
theorem sE_isi (ok : XOk X T sk Φ) {y : Str} {f : Blt} {a : Expr} {a' : E} {p p2 pos : Pos} (hf : isiOf y = some f) (hg : isGl sk.sc ("isinstance" : Str) = true) (hy : isGl sk.sc y = true) (ha : okArg a = true) (h : PE X a (tE X.K Φ a')) :
    PE X (.Call (.Name ("isinstance" : Str) p) [a, .Name y p2] [] pos) (tE X.K Φ (.blt f (.cons a' .nil))) := by
  unfold isiOf at hf
  split at hf
  · rename_i c; cases hf; subst c
    exact isi_core (T' := "list") ok hg hy (by decide +kernel) (by decide +kernel) (by decide +kernel) (by decide +kernel) (fun _ => rfl) (by decide +kernel) ha h
  split at hf
  · rename_i c; cases hf; subst c
    exact isi_core (T' := "tuple") ok hg hy (by decide +kernel) (by decide +kernel) (by decide +kernel) (by decide +kernel) (fun _ => rfl) (by decide +kernel) ha h
  split at hf
  · rename_i c; cases hf; subst c
    exact isi_core (T' := "int") ok hg hy (by decide +kernel) (by decide +kernel) (by decide +kernel) (by decide +kernel) (fun _ => rfl) (by decide +kernel) ha h
  split at hf
  · rename_i c; cases hf; subst c
    exact isi_core (T' := "bool") ok hg hy (by decide +kernel) (by decide +kernel) (by decide +kernel) (by decide +kernel) (fun _ => rfl) (by decide +kernel) ha h
  split at hf
  · rename_i c; cases hf; subst c
    exact isi_core (T' := "str") ok hg hy (by decide +kernel) (by decide +kernel) (by decide +kernel) (by decide +kernel) (fun _ => rfl) (by decide +kernel) ha h
  cases hf

/-! ### calls of defs -/
theorem sE_call (ok : XOk X T sk Φ) {x : Str} {i : Nat} {p pos : Pos} {es : List Expr} {as : Es} (hg : isGl sk.sc x = true) (hi : ixOf T.fns x = some i) (hdb : (x == ("__debug__" : Str)) = false) (h0 : es ≠ []) (ha : es.all okArg = true) (h : PA X es (tA X.K Φ as)) :
    PE X (.Call (.Name x p) es [] pos) (tE X.K Φ (.call i as)) := by
  obtain ⟨f, fd, ps, k, F, hm, hk, hb, hr⟩ := ok.fns i x hi
  cases es with
  | nil => exact absurd rfl h0
  | cons e es =>
    rw [List.all_cons, Bool.and_eq_true] at ha
    refine (pe_call F hr (ok.gl hg) hm hk hb .nil pass0 h hdb (star_of ha.1) (anyf_of ha.2)).weak fun σ H Q ⟨S, nv, d, k, hA, hs, ev, q⟩ => ?_
    unfold evalE at ev
    split at ev
    · rename_i r er
      split at ev
      · rename_i d0 k0 d1 e0
        cases ev
        refine tA_vals hA hs er fun vs H1 e1 A1 o => ?_
        rw [List.append_nil]
        exact ⟨S, _, d, k0, d1, A1, o, e0, fun v H2 G e2 nd f o2 => q.same e1 v H2 G e2 nd f o2.frk⟩
      · cases ev
    · cases ev
end
end PD

/-! PD8: what a for walks, targets, comprehensions. -/
namespace PD
open PySem L2
section
variable {X : Cx} {T : Tx} {sk : Sk} {Φ : PhiT} {K : PySem.W.Frag} {S S' : Addr → Prop} {H H' : Hp}

def Keep (S : Addr → Prop) (H H' : Hp) : Prop := ∀ a o, H a = some o → S a ∨ Fix o → H' a = some o
theorem Keep.same (e : Same H H') : Keep S H H' := fun a o q _ => e a o q
theorem Keep.ows {v : List V} {d : List D} (h : Ows K S H 0 v d []) (k : Keep S H H') (hS : ∀ a o, H a = some o → S a → S' a) : Ows K S' H' 0 v d [] := h.mono hS k fun _ m => (List.not_mem_nil m).elim
theorem Keep.ow {v : V} {d : D} (h : Ow K S H 0 v d []) (k : Keep S H H') (hS : ∀ a o, H a = some o → S a → S' a) : Ow K S' H' 0 v d [] := h.mono hS k fun _ m => (List.not_mem_nil m).elim
/-- an iterator that gives the values vs, one a turn, as long as the shared stands -/
structure Goes (S : Addr → Prop) (H : Hp) (J : It) (vs : List V) : Prop where
  go : ∀ H', Keep S H H' → ∀ i, i < vs.length → J.go i H'
  yld : ∀ H', Keep S H H' → ∀ i x H3, J.yld i H' x H3 → H3 = H' ∧ (i < vs.length → vs[i]? = some x)
  stop : ∀ H', Keep S H H' → ∀ i, vs.length ≤ i → J.stop i H'
def tI (K : PySem.W.Frag) (Φ : PhiT) (ik : Itk) (it : Es) : TI := fun σ H R => ∃ S nv r ds, All H S ∧ SE K S H σ nv (varsS it) ∧ evalEs Φ it nv = some r ∧ itD ik (r.map (·.1)) = some ds ∧
  ∀ J H' vs, Same H H' → (∀ S' : Addr → Prop, isRng ik = true ∨ (∀ a, S a → S' a) → Goes S' H' J vs ∧ Ows K S' H' 0 vs ds []) → R J H'

theorem Goes.sup {J : It} {vs : List V} (h : Goes S H J vs) (e : ∀ a, S a → S' a) : Goes S' H J vs :=
  ⟨fun H' k => h.go H' fun a o q s => k a o q (s.imp (e a) id), fun H' k => h.yld H' fun a o q s => k a o q (s.imp (e a) id), fun H' k => h.stop H' fun a o q s => k a o q (s.imp (e a) id)⟩
theorem Ows.sup {v : List V} {d : List D} (h : Ows K S H 0 v d []) (e : ∀ a, S a → S' a) : Ows K S' H 0 v d [] := h.mono (fun a _ _ s => e a s) (fun _ _ q _ => q) fun _ _ => rfl
theorem goes_list {a : Addr} {xs : List V} (h : H a = some (.lst xs)) (s : S a) : Goes S H (Itl K a) xs where
  go := fun H' k i hi => ⟨xs, xs[i], SqL.of (k a _ h (.inl s)), List.getElem?_eq_getElem hi⟩
  yld := fun H' k i x H3 y => ⟨y.1, fun _ => y.2 xs (SqL.of (k a _ h (.inl s)))⟩
  stop := fun H' k i hi => ⟨xs, SqL.of (k a _ h (.inl s)), hi⟩
theorem goes_tup {a : Addr} {xs : List V} (h : H a = some (.tup xs)) : Goes S H (Itt K a) xs where
  go := fun H' k i hi => ⟨xs, xs[i], SqT.of (k a _ h (.inr trivial)), List.getElem?_eq_getElem hi⟩
  yld := fun H' k i x H3 y => ⟨y.1, fun _ => y.2 xs (SqT.of (k a _ h (.inr trivial)))⟩
  stop := fun H' k i hi => ⟨xs, SqT.of (k a _ h (.inr trivial)), hi⟩
theorem goes_rev {a : Addr} {xs : List V} (h : H a = some (.lst xs)) (s : S a) : Goes S H (Itv K a xs.length) xs.reverse where
  go := fun H' k i hi => by
    rw [List.length_reverse] at hi
    exact ⟨hi, xs, xs[xs.length - 1 - i], SqL.of (k a _ h (.inl s)), List.getElem?_eq_getElem (by omega)⟩
  yld := fun H' k i x H3 y => ⟨y.1, fun hi => by
    rw [List.length_reverse] at hi
    rw [List.getElem?_reverse hi]
    exact y.2 xs (SqL.of (k a _ h (.inl s)))⟩
  stop := fun H' k i hi => by
    rw [List.length_reverse] at hi
    exact hi
theorem goes_rng {lo : Int} {n : Nat} : Goes S H (Itr lo n) ((List.range n).map fun i => V.int (lo + ((i : Nat) : Int))) where
  go := fun H' k i hi => by
    rw [List.length_map, List.length_range] at hi
    exact hi
  yld := fun H' k i x H3 y => ⟨y.1, fun hi => by
    rw [List.length_map, List.length_range] at hi
    rw [List.getElem?_map, List.getElem?_range hi, y.2]
    rfl⟩
  stop := fun H' k i hi => by
    rw [List.length_map, List.length_range] at hi
    exact hi
theorem ows_rng (lo : Int) (n : Nat) : Ows K S H 0 ((List.range n).map fun i => V.int (lo + ((i : Nat) : Int))) ((List.range n).map fun i => D.int (lo + ((i : Nat) : Int))) [] := by
  have e1 : ((List.range n).map fun i => V.int (lo + ((i : Nat) : Int))) = ((List.range n).map fun i => lo + ((i : Nat) : Int)).map V.int := by rw [List.map_map]; rfl
  have e2 : ((List.range n).map fun i => D.int (lo + ((i : Nat) : Int))) = ((List.range n).map fun i => lo + ((i : Nat) : Int)).map D.int := by rw [List.map_map]; rfl
  rw [e1, e2]
  exact Ows.ints _

theorem Es1 {a' : E} {nv : Nv} {r : List (D × Nat)} (ev : evalEs Φ (.cons a' .nil) nv = some r) : ∃ x, evalE Φ a' nv = some x ∧ r = [x] := by
  unfold evalEs at ev
  split at ev
  · rename_i x ex
    have ev : some [x] = some r := ev
    exact ⟨x, ex, (Option.some.inj ev).symm⟩
  · cases ev
theorem Es2 {a' b' : E} {nv : Nv} {r : List (D × Nat)} (ev : evalEs Φ (.cons a' (.cons b' .nil)) nv = some r) : ∃ x y, evalE Φ a' nv = some x ∧ evalE Φ b' nv = some y ∧ r = [x, y] := by
  unfold evalEs at ev
  split at ev
  · rename_i x ex
    split at ev
    · rename_i r' er
      obtain ⟨y, ey, rfl⟩ := Es1 er
      exact ⟨x, y, ex, ey, (Option.some.inj ev).symm⟩
    · cases ev
  · cases ev
theorem sI_val {tg a : Expr} {a' : E} (h : PE X a (tE X.K Φ a')) : PI X tg a (tI X.K Φ .val (.cons a' .nil)) := by
  refine ⟨fun pins s σ H R I ⟨S, nv, r, ds, hA, hs, ev, ei, q⟩ => ?_⟩
  obtain ⟨⟨d, k⟩, ex, rfl⟩ := Es1 ev
  have ei : valD [d] = some ds := ei
  cases d with
  | lst xs =>
    cases ei
    refine (pi_list h).run pins s σ H R I ?_
    refine tE_one hA (SE.left hs) ex fun v H1 e1 A1 o1 => ?_
    obtain ⟨p, vs, rfl, hp, sp, r⟩ := o1.lstI
    exact ⟨p, rfl, ⟨vs, SqL.of hp⟩, q _ H1 vs e1 fun S' h => h.elim (fun z => nomatch z) fun z => ⟨(goes_list hp sp).sup z, r.sup z⟩⟩
  | tup xs =>
    cases ei
    refine (pi_tup h).run pins s σ H R I ?_
    refine tE_one hA (SE.left hs) ex fun v H1 e1 A1 o1 => ?_
    obtain ⟨p, vs, rfl, hp, r⟩ := o1.tupI
    exact ⟨p, rfl, ⟨vs, SqT.of hp⟩, q _ H1 vs e1 fun S' h => h.elim (fun z => nomatch z) fun z => ⟨goes_tup hp, r.sup z⟩⟩
  | _ => cases ei
theorem sI_rev (ok : XOk X T sk Φ) {tg a : Expr} {a' : E} {p pos : Pos} (hg : isGl sk.sc ("reversed" : Str) = true) (ha : okArg a = true) (h : PE X a (tE X.K Φ a')) : PI X tg (.Call (.Name ("reversed" : Str) p) [a] [] pos) (tI X.K Φ .rev (.cons a' .nil)) :=
  (pi_reversed (ok.gl hg) (ok.blt _ (by decide +kernel)) (sA_cons ha h sA_nil) (star_of ha)).weak fun σ H R ⟨S, nv, r, ds, hA, hs, ev, ei, q⟩ => by
    obtain ⟨⟨d, k⟩, ex, rfl⟩ := Es1 ev
    have ei : revD [d] = some ds := ei
    refine tA_vals hA hs ev fun vs H1 e1 A1 o => ?_
    obtain ⟨v, rfl, o1⟩ := o.inv1
    cases d with
    | lst xs =>
      cases ei
      obtain ⟨p, vs, rfl, hp, sp, r⟩ := o1.lstI
      exact ⟨p, vs, rfl, SqL.of hp, q _ H1 _ e1 fun S' h => h.elim (fun z => nomatch z) fun z => ⟨(goes_rev hp sp).sup z, r.rev.sup z⟩⟩
    | _ => cases ei
theorem rng1_inv {d : D} {ds : List D} (h : rng1D [d] = some ds) : ∃ n, d = .int n ∧ -(2 ^ 62) ≤ n ∧ n < 2 ^ 62 ∧ ds = (List.range n.toNat).map fun i => .int (0 + ((i : Nat) : Int)) := by
  cases d with
  | int n =>
    have h : (if -(2 ^ 62) ≤ n ∧ n < 2 ^ 62 then some ((List.range n.toNat).map fun i => D.int (0 + ((i : Nat) : Int))) else none) = some ds := h
    by_cases c : -(2 ^ 62) ≤ n ∧ n < 2 ^ 62
    · rw [if_pos c] at h
      exact ⟨n, rfl, c.1, c.2, (Option.some.inj h).symm⟩
    · rw [if_neg c] at h
      exact nomatch h
  | _ => exact nomatch h
theorem rng2_inv {d e : D} {ds : List D} (h : rng2D [d, e] = some ds) : ∃ n m, d = .int n ∧ e = .int m ∧ (-(2 ^ 62) ≤ n ∧ n < 2 ^ 62 ∧ -(2 ^ 62) ≤ m ∧ m < 2 ^ 62) ∧ ds = (List.range (m - n).toNat).map fun i => .int (n + ((i : Nat) : Int)) := by
  cases d with
  | int n =>
    cases e with
    | int m =>
      have h : (if -(2 ^ 62) ≤ n ∧ n < 2 ^ 62 ∧ -(2 ^ 62) ≤ m ∧ m < 2 ^ 62 then some ((List.range (m - n).toNat).map fun i => D.int (n + ((i : Nat) : Int))) else none) = some ds := h
      by_cases c : -(2 ^ 62) ≤ n ∧ n < 2 ^ 62 ∧ -(2 ^ 62) ≤ m ∧ m < 2 ^ 62
      · rw [if_pos c] at h
        exact ⟨n, m, rfl, rfl, c, (Option.some.inj h).symm⟩
      · rw [if_neg c] at h
        exact nomatch h
    | _ => exact nomatch h
  | _ => exact nomatch h
theorem sI_rng1 (ok : XOk X T sk Φ) {tg a : Expr} {a' : E} {p pos : Pos} (hg : isGl sk.sc ("range" : Str) = true) (ha : okArg a = true) (h : PE X a (tE X.K Φ a')) : PI X tg (.Call (.Name ("range" : Str) p) [a] [] pos) (tI X.K Φ .rng1 (.cons a' .nil)) :=
  (pi_range1 (ok.gl hg) (ok.blt _ (by decide +kernel)) (sA_cons ha h sA_nil) (star_of ha)).weak fun σ H R ⟨S, nv, r, ds, hA, hs, ev, ei, q⟩ => by
    obtain ⟨⟨d, k⟩, ex, rfl⟩ := Es1 ev
    obtain ⟨n, e2, b1, b2, rfl⟩ := rng1_inv (d := d) ei
    subst e2
    refine tA_vals hA hs ev fun vs H1 e1 A1 o => ?_
    obtain ⟨v, rfl, o1⟩ := o.inv1
    cases o1.intI
    exact ⟨n, rfl, b1, b2, q _ H1 _ e1 fun S' _ => ⟨goes_rng, ows_rng 0 n.toNat⟩⟩
theorem sI_rng2 (ok : XOk X T sk Φ) {tg a b : Expr} {a' b' : E} {p pos : Pos} (hg : isGl sk.sc ("range" : Str) = true) (ha : okArg a = true) (hb : okArg b = true) (h : PE X a (tE X.K Φ a')) (h2 : PE X b (tE X.K Φ b')) :
    PI X tg (.Call (.Name ("range" : Str) p) [a, b] [] pos) (tI X.K Φ .rng2 (.cons a' (.cons b' .nil))) :=
  (pi_range2 (ok.gl hg) (ok.blt _ (by decide +kernel)) (sA_cons ha h (sA_cons hb h2 sA_nil)) (by rw [star_of ha, star_of hb]; rfl) (star_of hb)).weak fun σ H R ⟨S, nv, r, ds, hA, hs, ev, ei, q⟩ => by
    obtain ⟨⟨d, k⟩, ⟨e, l⟩, ex, ey, rfl⟩ := Es2 ev
    obtain ⟨n, m, e2, e3, c, rfl⟩ := rng2_inv (d := d) (e := e) ei
    subst e2 e3
    refine tA_vals hA hs ev fun vs H1 e1 A1 o => ?_
    obtain ⟨v, w, rfl, o1, o2⟩ := o.inv2
    cases o1.intI
    cases o2.intI
    exact ⟨n, m, rfl, c, q _ H1 _ e1 fun S' _ => ⟨goes_rng, ows_rng n (m - n).toNat⟩⟩

/-! ### targets -/
def gNames : List Nat → TGs
  | [] => gNil
  | i :: is => gCons (gName i) (gNames is)
def gOf (K : PySem.W.Frag) : Tg → TG
  | .one i => gName i
  | .many is => gTup K is.length (gNames is)
theorem asg_each {x : Str} {p : Pos} {es : List Expr} {env : PySem.Env} : (assignEach (.Name x p :: es) env).map (·.2) = assign (.Name x p) env :: (assignEach es env).map (·.2) := rfl
theorem sG_names (ok : XOk X T sk Φ) : ∀ {es : List Expr} {is : List Nat}, trNames T sk es = some is → PGs X es (gNames is) ∧ (assignEach es X.env).length = is.length ∧ (assignEach es X.env).findIdx? (·.1) = none
  | [], is, h => by
    cases h
    exact ⟨pgs_nil, rfl, rfl⟩
  | e :: es, is, h => by
    cases e with
    | Name x p =>
      have h : (if isStore sk x then match ixOf T.N x, trNames T sk es with | some i, some is => some (i :: is) | _, _ => none else none) = some is := h
      by_cases c : isStore sk x = true
      · rw [if_pos c] at h
        split at h
        · rename_i i is' ei er
          cases h
          obtain ⟨h1, h2, h3⟩ := sG_names ok er
          obtain ⟨l1, l2⟩ := ok.store c
          refine ⟨pgs_cons (pg_name ok.ndX (ok.ix ei) l1 l2) h1 asg_each, ?_, ?_⟩
          · show (assignEach es X.env).length + 1 = is'.length + 1
            rw [h2]
          · show ((false, assign (.Name x p) X.env) :: assignEach es X.env).findIdx? (·.1) = none
            rw [List.findIdx?_cons, h3]
            rfl
        · cases h
      · rw [if_neg c] at h
        cases h
    | _ => exact nomatch h
theorem sG (ok : XOk X T sk Φ) {e : Expr} {t : Tg} (h : trT T sk e = some t) : PG X e (gOf X.K t) := by
  unfold trT at h
  split at h
  · rename_i x p
    split at h
    · rename_i c
      cases ei : ixOf T.N x with
      | none => rw [ei] at h; cases h
      | some i =>
        rw [ei] at h
        cases h
        obtain ⟨l1, l2⟩ := ok.store c
        exact pg_name ok.ndX (ok.ix ei) l1 l2
    · cases h
  · rename_i es n p
    cases ei : trNames T sk es with
    | none => rw [ei] at h; cases h
    | some is =>
      rw [ei] at h
      cases h
      obtain ⟨h1, h2, h3⟩ := sG_names ok ei
      exact pg_tup ok.calm h1 h2 h3
  · cases h

/-! ### names bound for reading -/
theorem SE.set {σ : St} {nv : Nv} {vs : List Nat} {i : Nat} {v : V} {d : D} {k : Nat} (h : SE K S H σ nv vs) (o : Ow K S H 0 v d []) : SE K S H (σ.set i (some v)) (nv.set i (some (d, k))) vs := by
  refine ⟨by rw [List.length_set, List.length_set]; exact h.len, fun j m e l q => ?_⟩
  by_cases c : i = j
  · subst c
    by_cases hi : i < nv.length
    · rw [List.getElem?_set_self hi] at q
      cases q
      exact ⟨v, List.getElem?_set_self (by rw [h.len]; exact hi), o⟩
    · rw [List.getElem?_eq_none (by rw [List.length_set]; omega)] at q
      cases q
  · rw [List.getElem?_set_ne c] at q
    obtain ⟨w, e1, o1⟩ := h.val j m e l q
    exact ⟨w, by rw [List.getElem?_set_ne c]; exact e1, o1⟩
theorem SE.wipe {σ : St} {nv : Nv} {vs : List Nat} (h : SE K S H σ nv vs) : ∀ own : List Nat, SE K S H (L2.wipe σ own) (PD.wipe nv own) vs
  | [] => h
  | i :: r => by
    have ih := h.wipe r
    refine ⟨?_, fun j m e l q => ?_⟩
    · show ((L2.wipe σ r).set i none).length = ((PD.wipe nv r).set i none).length
      rw [List.length_set, List.length_set]
      exact ih.len
    · have q : ((PD.wipe nv r).set i none)[j]? = some (some (e, l)) := q
      show ∃ v, ((L2.wipe σ r).set i none)[j]? = some (some v) ∧ _
      by_cases c : i = j
      · subst c
        by_cases hi : i < (PD.wipe nv r).length
        · rw [List.getElem?_set_self hi] at q
          cases q
        · rw [List.getElem?_eq_none (by rw [List.length_set]; omega)] at q
          cases q
      · rw [List.getElem?_set_ne c] at q ⊢
        exact ih.val j m e l q
theorem wipe_set {σ : St} {i : Nat} {x : Option V} : ∀ {own : List Nat}, i ∈ own → L2.wipe (σ.set i x) own = L2.wipe σ own
  | [], m => (List.not_mem_nil m).elim
  | j :: r, m => by
    show (L2.wipe (σ.set i x) r).set j none = (L2.wipe σ r).set j none
    by_cases c : i ∈ r
    · rw [wipe_set c]
    · have e : i = j := (List.mem_cons.mp m).elim id fun z => absurd z c
      subst e
      refine List.ext_getElem? fun n => ?_
      by_cases hn : i = n
      · subst hn
        by_cases hi : i < σ.length
        · rw [List.getElem?_set_self (by rw [wipe_length, List.length_set]; exact hi), List.getElem?_set_self (by rw [wipe_length]; exact hi)]
        · rw [List.getElem?_eq_none (by rw [List.length_set, wipe_length, List.length_set]; omega), List.getElem?_eq_none (by rw [List.length_set, wipe_length]; omega)]
      · rw [List.getElem?_set_ne hn, List.getElem?_set_ne hn]
        by_cases hr : n ∈ r
        · cases q1 : (L2.wipe (σ.set i x) r)[n]? with
          | none =>
            have : (L2.wipe σ r)[n]? = none := by
              have z := List.getElem?_eq_none_iff.mp q1
              rw [wipe_length, List.length_set] at z
              exact List.getElem?_eq_none_iff.mpr (by rw [wipe_length]; exact z)
            rw [this]
          | some a =>
            cases a with
            | some v => exact absurd hr (wipe_some q1).2
            | none =>
              cases q2 : (L2.wipe σ r)[n]? with
              | none =>
                have z := List.getElem?_eq_none_iff.mp q2
                have z1 := (List.getElem?_eq_some_iff.mp q1).1
                rw [wipe_length] at z z1
                rw [List.length_set] at z1
                omega
              | some b =>
                cases b with
                | some w => exact absurd hr (wipe_some q2).2
                | none => rfl
        · rw [wipe_out hr, wipe_out hr, List.getElem?_set_ne hn]
theorem wipe_wipe {σ : St} : ∀ {own r : List Nat}, (∀ i ∈ r, i ∈ own) → L2.wipe (L2.wipe σ r) own = L2.wipe σ own
  | own, [], _ => rfl
  | own, i :: r, h => by
    show L2.wipe ((L2.wipe σ r).set i none) own = L2.wipe σ own
    rw [wipe_set (h i List.mem_cons_self)]
    exact wipe_wipe fun j m => h j (List.mem_cons_of_mem _ m)
/-- a value bound at the target's names, the names among own -/
theorem bind_ok {t : Tg} {x : V} {d : D} {σ : St} {nv nv2 : Nv} {vs own : List Nat} (h : SE K S H σ nv vs) (o : Ow K S H 0 x d []) (e : bindT t d nv = some nv2) (ho : ∀ i ∈ tgs t, i ∈ own) {Q : St → Hp → Prop}
    (q : ∀ σ2, SE K S H σ2 nv2 vs → L2.wipe σ2 own = L2.wipe σ own → Q σ2 H) : gOf K t x σ H Q := by
  cases t with
  | one i =>
    cases e
    exact q _ (h.set o) (wipe_set (ho i (by simp [tgs])))
  | many is =>
    cases d with
    | tup ds =>
      have e : (if is.length = ds.length then some (bindT.go is ds nv) else none) = some nv2 := e
      by_cases c : is.length = ds.length
      · rw [if_pos c] at e
        cases e
        obtain ⟨a, xs, rfl, ha, r⟩ := o.tupI
        refine ⟨a, xs, rfl, SqT.of ha, by rw [r.length, c], ?_⟩
        have key : ∀ (is : List Nat) (ds : List D) (xs : List V) (σ : St) (nv : Nv), is.length = ds.length → SE K S H σ nv vs → Ows K S H 0 xs ds [] → (∀ i ∈ is, i ∈ own) → (∀ σ2, SE K S H σ2 (bindT.go is ds nv) vs → L2.wipe σ2 own = L2.wipe σ own → Q σ2 H) → gNames is xs σ H Q := by
          intro is
          induction is with
          | nil =>
            intro ds xs σ nv l h r ho q
            cases ds with
            | nil =>
              have l2 := r.length
              cases xs with
              | nil => exact ⟨rfl, q σ h rfl⟩
              | cons _ _ => cases l2
            | cons _ _ => cases l
          | cons i is ih =>
            intro ds xs σ nv l h r ho q
            cases ds with
            | nil => cases l
            | cons d ds =>
              have l2 := r.length
              cases xs with
              | nil => cases l2
              | cons x xs =>
                generalize hF : ([] : List Addr) = F at r
                cases r with
                | cons h1 h2 =>
                  have z1 := h1.zero
                  have z2 := h2.zero
                  subst z1 z2
                  refine ⟨x, xs, rfl, ih ds xs _ _ (by simpa using l) (h.set h1) h2 (fun j m => ho j (List.mem_cons_of_mem _ m)) fun σ2 s w => q σ2 s ?_⟩
                  rw [w]
                  exact wipe_set (ho i List.mem_cons_self)
        exact key is ds xs σ nv c h r ho q
      · rw [if_neg c] at e
        cases e
    | _ => exact nomatch e
end
end PD

/-! PD9: comprehensions; the assembly of the expressions. -/
namespace PD
open PySem L2
section
variable {X : Cx} {T : Tx} {sk : Sk} {Φ : PhiT} {K : PySem.W.Frag} {S S' : Addr → Prop} {H H' : Hp}

theorem Ows.snoc {k : Nat} {y : V} {d : D} {G2 : List Addr} (h2 : Ow K S H k y d G2) : ∀ {vs : List V} {ds : List D} {F : List Addr}, Ows K S H k vs ds F → Ows K S H k (vs ++ [y]) (ds ++ [d]) (F ++ G2)
  | _, _, _, .nil _ => by
    have z : Ows K S H k [y] [d] (G2 ++ []) := .cons h2 (.nil k)
    rw [List.append_nil] at z
    exact z
  | _, _, _, .cons (F := F) (G := G) h r => by
    have z := Ows.cons h (r.snoc h2)
    rw [← List.append_assoc] at z
    exact z
/-- the new list at D, so far -/
structure Acc (K : PySem.W.Frag) (S : Addr → Prop) (H1 : Hp) (L : Addr) (k : Nat) (H2 : Hp) (acc : List V) (da : List D) (G : List Addr) : Prop where
  hD : H2 L = some (.lst acc)
  hn : H1 L = none
  sm : Same H1 H2
  nd : G.Nodup
  fr : ∀ a ∈ G, H1 a = none
  dG : L ∉ G
  ows : Ows K (fun a => S a ∧ a ∉ L :: G) H2 k acc da G
theorem Acc.same {H1 H2 H4 : Hp} {L : Addr} {k : Nat} {acc : List V} {da : List D} {G : List Addr} (h : Acc K S H1 L k H2 acc da G) (e : Same H2 H4) : Acc K S H1 L k H4 acc da G :=
  ⟨e _ _ h.hD, h.hn, h.sm.trans e, h.nd, h.fr, h.dG, h.ows.same e⟩
theorem Acc.new {H1 : Hp} {L : Addr} {k : Nat} (h : H1 L = none) : Acc K S H1 L k (upd H1 L (.lst [])) [] [] [] :=
  ⟨upd_same, h, same_new h _, List.nodup_nil, fun _ m => (List.not_mem_nil m).elim, List.not_mem_nil, .nil k⟩
theorem Acc.all {H1 H2 : Hp} {L : Addr} {k : Nat} {acc : List V} {da : List D} {G : List Addr} (h : Acc K S H1 L k H2 acc da G) (hA : All H1 S) : All H2 fun a => S a ∧ a ∉ L :: G := fun a n => ⟨hA a (h.sm.free n), fun m => by
  rcases List.mem_cons.mp m with r | m
  · rw [r, h.hD] at n; cases n
  · obtain ⟨u, z, _⟩ := h.ows.there a m
    rw [z] at n; cases n⟩
theorem Acc.freshes {H1 H2 : Hp} {L : Addr} {k : Nat} {acc : List V} {da : List D} {G : List Addr} (h : Acc K S H1 L k H2 acc da G) : ∀ a ∈ L :: G, H1 a = none := fun a m => by
  rcases List.mem_cons.mp m with r | m
  · rw [r]; exact h.hn
  · exact h.fr a m
theorem Acc.snoc {H1 H4 H5 : Hp} {L : Addr} {k kx : Nat} {acc : List V} {da : List D} {G G5 : List Addr} {y : V} {d : D} (h : Acc K S H1 L k H4 acc da G) (hA : All H1 S) (e5 : Same H4 H5) (nd5 : G5.Nodup) (f5 : ∀ a ∈ G5, H4 a = none)
    (o5 : Ow K (fun a => (S a ∧ a ∉ L :: G) ∧ a ∉ G5) H5 kx y d G5) (hk : k ≤ kx) : ∃ G', Acc K S H1 L k (upd H5 L (.lst (acc ++ [y]))) (acc ++ [y]) (da ++ [d]) G' ∧ Keep (fun a => S a ∧ a ∉ L :: G) H4 (upd H5 L (.lst (acc ++ [y]))) ∧ (∀ a ∈ G', a ∈ G ∨ H4 a = none) ∧ ∀ a, upd H5 L (.lst (acc ++ [y])) a = none → H4 a = none := by
  obtain ⟨G6, sl, q⟩ := o5.lower hk nd5
  have h5 := h.same e5
  have nL6 : ∀ a ∈ G6, a ≠ L := fun a m z => by
    have := f5 a (sl.subset m)
    rw [z, h.hD] at this; cases this
  have dis : ∀ a ∈ G, a ∉ G6 := fun a m n => by
    obtain ⟨u, z, _⟩ := h.ows.there a m
    rw [f5 a (sl.subset n)] at z; cases z
  have f6 : ∀ a ∈ G6, H1 a = none := fun a m => h.sm.free (f5 a (sl.subset m))
  have q6 := q (fun a => S a ∧ a ∉ L :: (G ++ G6)) (fun a s => ⟨s.1.1, fun m => by
      rcases List.mem_cons.mp m with r | m
      · exact s.1.2 (by rw [r]; exact List.mem_cons_self)
      · rcases List.mem_append.mp m with m | m
        · exact s.1.2 (List.mem_cons_of_mem _ m)
        · exact s.2 (sl.subset m)⟩) (fun a m n => ⟨hA a (h.sm.free (f5 a m)), fun z => by
      rcases List.mem_cons.mp z with r | z
      · have := f5 a m
        rw [r, h.hD] at this; cases this
      · rcases List.mem_append.mp z with z | z
        · obtain ⟨u, w, _⟩ := h.ows.there a z
          rw [f5 a m] at w; cases w
        · exact n z⟩)
  have fx : ∀ a o, H5 a = some o → Fix o → a ≠ L := fun a o e f z => by
    rw [z, h5.hD] at e
    cases e
    exact f
  have hH : ∀ a o, H4 a = some o → (S a ∧ a ∉ L :: G) ∨ Fix o → upd H5 L (.lst (acc ++ [y])) a = some o := fun a o e s => by
    rw [upd_ne]
    · exact e5 a o e
    · rcases s with s | s
      · exact fun z => s.2 (by rw [z]; exact List.mem_cons_self)
      · exact fx a o (e5 a o e) s
  refine ⟨G ++ G6, ⟨upd_same, h.hn, fun a o e => ?_, List.nodup_append.mpr ⟨h.nd, sl.nodup nd5, fun a m b n e => dis a m (e ▸ n)⟩, fun a m => (List.mem_append.mp m).elim (h.fr a) (f6 a), fun m => ?_, ?_⟩, hH, fun a m => (List.mem_append.mp m).elim .inl fun m => .inr (f5 a (sl.subset m)), fun a n => e5.free (by
    by_cases z : a = L
    · rw [z, upd_same] at n; cases n
    · rw [upd_ne z] at n; exact n)⟩
  · rw [upd_ne (ne_of_none e h.hn)]
    exact h5.sm a o e
  · rcases List.mem_append.mp m with m | m
    · exact h.dG m
    · exact nL6 _ m rfl
  · refine Ows.snoc ?_ ?_
    · refine q6.mono (fun _ _ _ s => s) (fun a o e s => ?_) fun a m => upd_ne (nL6 a m)
      rw [upd_ne]
      · exact e
      · rcases s with s | s
        · exact fun z => s.2 (by rw [z]; exact List.mem_cons_self)
        · exact fx a o e s
    · have hS : ∀ a o, H4 a = some o → (S a ∧ a ∉ L :: G) → (S a ∧ a ∉ L :: (G ++ G6)) := fun a o e s => ⟨s.1, fun m => by
        rcases List.mem_cons.mp m with r | m
        · exact s.2 (by rw [r]; exact List.mem_cons_self)
        · rcases List.mem_append.mp m with m | m
          · exact s.2 (List.mem_cons_of_mem _ m)
          · rw [f5 a (sl.subset m)] at e; cases e⟩
      refine h.ows.mono hS hH fun a m => ?_
      rw [upd_ne fun z => h.dG (by rw [← z]; exact m)]
      obtain ⟨u, z, _⟩ := h.ows.there a m
      rw [z, e5 a u z]
theorem Acc.fin {H0 H1 H2 : Hp} {L : Addr} {k : Nat} {acc : List V} {da : List D} {G : List Addr} {Q : VK} (h : Acc K S H1 L (dn (up k)) H2 acc da G) (e : Same H0 H1) (q : RE K S H0 (.lst da) (up k) Q) : Q (.ref L) H2 := by
  refine q (.ref L) H2 (L :: G) (e.trans h.sm) (List.nodup_cons.mpr ⟨h.dG, h.nd⟩) (fun a m => e.free (h.freshes a m)) (.lsk (up_ne k) h.hD h.ows)

theorem compL_cons {f : D → Option (Option D)} {d : D} {ds xs : List D} (h : compL f (d :: ds) = some xs) : ∃ o r, f d = some o ∧ compL f ds = some r ∧ xs = (match o with | none => r | some x => x :: r) := by
  unfold compL at h
  split at h
  · cases h
  · rename_i o eo
    split at h
    · cases h
    · rename_i r er
      exact ⟨o, r, eo, er, (Option.some.inj h).symm⟩
theorem compLL_cons {f : D → Option (List D)} {d : D} {ds xs : List D} (h : compLL f (d :: ds) = some xs) : ∃ o r, f d = some o ∧ compLL f ds = some r ∧ xs = o ++ r := by
  unfold compLL at h
  split at h
  · cases h
  · rename_i o eo
    split at h
    · cases h
    · rename_i r er
      exact ⟨o, r, eo, er, (Option.some.inj h).symm⟩
theorem drop_of {α : Type} {l : List α} {i : Nat} (h : i < l.length) : l.drop i = l[i] :: l.drop (i + 1) := List.drop_eq_getElem_cons h

/-- one item of a clause: bind, test, take -/
def oneF (Φ : PhiT) (t : Tg) (c elt : E) (k : Nat) (nv : Nv) (d : D) : Option (Option D) :=
  match bindT t d nv with
  | some σ2 => match evalE Φ c σ2 with
    | some (b, _) => match truth b with
      | some true => match evalE Φ elt σ2 with
        | some (x, k') => if k ≤ k' then some (some x) else none
        | none => none
      | some false => some none
      | none => none
    | none => none
  | none => none
theorem one_read {t : Tg} {c elt : E} {k : Nat} {nv : Nv} {d : D} {o : Option D} {σ : St} {own : List Nat} {H1 H2 : Hp} {L : Addr} {acc : List V} {da : List D} {G : List Addr} {x : V} (ho : ∀ i ∈ tgs t, i ∈ own)
    (e : oneF Φ t c elt k nv d = some o) (A : Acc K S H1 L (dn (up k)) H2 acc da G) (hA : All H1 S) (hs2 : SE K (fun a => S a ∧ a ∉ L :: G) H2 σ nv (vars c ++ vars elt)) (ox2 : Ow K (fun a => S a ∧ a ∉ L :: G) H2 0 x d []) (hz : (da ++ o.toList).length ≤ sizeLine) {Nx : Hp → Prop}
    (q : ∀ H' acc' G', Acc K S H1 L (dn (up k)) H' acc' (da ++ o.toList) G' → Keep (fun a => S a ∧ a ∉ L :: G) H2 H' → (∀ a ∈ G', a ∈ G ∨ H2 a = none) → (∀ a, H' a = none → H2 a = none) → Nx H') :
    gOf K t x σ H2 fun σ2 H3 => L2.wipe σ2 own = L2.wipe σ own ∧ tT K Φ c σ2 H3 fun b H4 => if b = true then tE K Φ elt σ2 H4 fun y H5 => ∃ acc, H5 L = some (.lst acc) ∧ acc.length < sizeLine ∧ Nx (upd H5 L (.lst (acc ++ [y]))) else Nx H4 := by
  unfold oneF at e
  split at e
  · rename_i nv2 eb
    split at e
    · rename_i b kb ec
      refine bind_ok (own := own) hs2 ox2 eb ho fun σ2 s2 w2 => ⟨w2, ?_⟩
      split at e
      · rename_i et
        split at e
        · rename_i xd k' ee
          split at e
          · rename_i hk
            cases e
            refine ⟨_, nv2, b, kb, true, A.all hA, s2.left, ec, et, fun H4 e4 => iteT ?_⟩
            have A4 := A.same e4
            refine ⟨_, nv2, xd, k', A4.all hA, s2.right.same e4, ee, fun y H5 G5 e5 nd5 f5 o5 => ⟨acc, (A4.same e5).hD, ?_, ?_⟩⟩
            · rw [A4.ows.length]
              rw [List.length_append] at hz
              exact hz
            · obtain ⟨G', A', kp, kg, ka⟩ := A4.snoc hA e5 nd5 f5 o5 (Nat.le_trans (dn_up k) hk)
              exact q _ _ G' A' (fun a o e s => kp a o (e4 a o e) s) (fun a m => (kg a m).imp id e4.free) fun a n => e4.free (ka a n)
          · cases e
        · cases e
      · rename_i et
        cases e
        refine ⟨_, nv2, b, kb, false, A.all hA, s2.left, ec, et, fun H4 e4 => iteF ?_⟩
        have A4 := A.same e4
        refine q H4 acc G ?_ (fun a o e _ => e4 a o e) (fun a m => .inl m) fun a n => e4.free n
        show Acc K S H1 L (dn (up k)) H4 acc (da ++ []) G
        rw [List.append_nil]
        exact A4
      · cases e
    · cases e
  · cases e
theorem SE.keep {σ : St} {nv : Nv} {vs : List Nat} (h : SE K S H σ nv vs) (k : Keep S H H') (hS : ∀ a o, H a = some o → S a → S' a) : SE K S' H' σ nv vs := ⟨h.len, fun i m d l q =>
  let ⟨v, a, b⟩ := h.val i m d l q
  ⟨v, a, Keep.ow b k hS⟩⟩
theorem evalE_cmpr {t : Tg} {own : List Nat} {ik : Itk} {it : Es} {c elt : E} {k : Nat} {nv : Nv} {d : D} {k' : Nat} (ev : evalE Φ (.cmpr t own ik it c elt k) nv = some (d, k')) :
    ∃ r ds xs, evalEs Φ it nv = some r ∧ itD ik (r.map (·.1)) = some ds ∧ compL (oneF Φ t c elt k (wipe nv own)) ds = some xs ∧ xs.length ≤ sizeLine ∧ d = .lst xs ∧ k' = up k := by
  unfold evalE at ev
  split at ev
  · rename_i r er
    split at ev
    · rename_i ds ei
      split at ev
      · rename_i xs ec
        split at ev
        · rename_i hz
          cases ev
          exact ⟨r, ds, xs, er, ei, ec, small_le hz, rfl, rfl⟩
        · cases ev
      · cases ev
    · cases ev
  · cases ev
theorem lc_read {t : Tg} {own : List Nat} {ik : Itk} {it : Es} {c elt : E} {k : Nat} {σ : St} {Q : VK} (ho : ∀ i ∈ tgs t, i ∈ own) (h : tE K Φ (.cmpr t own ik it c elt k) σ H Q) : tLc (tI K Φ ik it) (gOf K t) (tT K Φ c) (tE K Φ elt) own σ H Q := by
  obtain ⟨S, nv, d, k', hA, hs, ev, q⟩ := h
  obtain ⟨r, ds, xs, er, ei, ec, hz, rfl, rfl⟩ := evalE_cmpr ev
  have hs : SE K S H σ nv (varsS it ++ vars c ++ vars elt) := hs
  refine ⟨S, nv, r, ds, hA, hs.left.left, er, ei, fun J H1 vs e1 go => fun L hL => ?_⟩
  obtain ⟨g, o⟩ := go S (.inr fun _ s => s)
  have hs1 : SE K S H1 (L2.wipe σ own) (PD.wipe nv own) (vars c ++ vars elt) := ((hs.sub (by intro i m; rw [List.append_assoc]; exact List.mem_append_right _ m)).same e1).wipe own
  have hA1 := Same.all e1 hA
  refine ⟨fun i m H2 => m = ds.length - i ∧ i ≤ ds.length ∧ ∃ acc da rest G, Acc K S H1 L (dn (up k)) H2 acc da G ∧ compL (oneF Φ t c elt k (PD.wipe nv own)) (ds.drop i) = some rest ∧ da ++ rest = xs,
    ⟨ds.length, rfl, Nat.zero_le _, [], [], xs, [], Acc.new hL, ec, rfl⟩, fun i m H2 ⟨em, hi, acc, da, rest, G, A, er2, ex⟩ => ?_⟩
  by_cases hlt : i < ds.length
  · rw [drop_of hlt] at er2
    obtain ⟨x0, r0, e0, er3, rfl⟩ := compL_cons er2
    refine .inr ⟨g.go H2 (Keep.same A.sm) i (by rw [o.length]; exact hlt), fun H' => ds.length - (i + 1) = ds.length - (i + 1) ∧ i + 1 ≤ ds.length ∧ ∃ acc da rest G, Acc K S H1 L (dn (up k)) H' acc da G ∧ compL (oneF Φ t c elt k (PD.wipe nv own)) (ds.drop (i + 1)) = some rest ∧ da ++ rest = xs,
      fun H' nx => ⟨ds.length - (i + 1), by omega, nx⟩, fun x H3 y => ?_⟩
    obtain ⟨rfl, gx⟩ := g.yld H2 (Keep.same A.sm) i x H3 y
    have gx := gx (by rw [o.length]; exact hlt)
    obtain ⟨x', gx', ox⟩ := o.get0 (List.getElem?_eq_getElem hlt)
    rw [gx] at gx'
    cases gx'
    have hxs : xs = (da ++ x0.toList) ++ r0 := by
      rw [← ex, List.append_assoc]
      cases x0 <;> rfl
    have key := one_read (own := own) (Nx := fun H' => ds.length - (i + 1) = ds.length - (i + 1) ∧ i + 1 ≤ ds.length ∧ ∃ acc da rest G, Acc K S H1 L (dn (up k)) H' acc da G ∧ compL (oneF Φ t c elt k (PD.wipe nv own)) (ds.drop (i + 1)) = some rest ∧ da ++ rest = xs) ho e0 A hA1 ((hs1.drop A.freshes).same A.sm) ((ox.drop A.freshes).same A.sm)
      (by rw [hxs, List.length_append] at hz; omega) fun H' acc' G' A' _ _ _ => ⟨rfl, hlt, acc', _, r0, G', A', er3, hxs.symm⟩
    rw [wipe_wipe (σ := σ) (own := own) (r := own) fun _ h => h] at key
    exact key
  · have e : i = ds.length := by omega
    subst e
    rw [List.drop_length] at er2
    cases er2
    rw [List.append_nil] at ex
    subst ex
    exact .inl ⟨g.stop H2 (Keep.same A.sm) _ (by rw [o.length]; exact Nat.le_refl _), A.fin e1 q⟩

/-! ### two clauses -/
/-- one item of the outer clause -/
def twoF (Φ : PhiT) (t : Tg) (c : E) (t2 : Tg) (own2 : List Nat) (ik2 : Itk) (it2 : Es) (c2 elt : E) (k : Nat) (nv : Nv) (d : D) : Option (List D) :=
  match bindT t d nv with
  | some σ2 => match evalE Φ c σ2 with
    | some (b, _) => match truth b with
      | some true => match evalEs Φ it2 σ2 with
        | some r2 => match itD ik2 (r2.map (·.1)) with
          | some ds2 => compL (oneF Φ t2 c2 elt k (wipe σ2 own2)) ds2
          | none => none
        | none => none
      | some false => some []
      | none => none
    | none => none
  | none => none
theorem evalE_cmp2 {t t2 : Tg} {own own2 : List Nat} {ik ik2 : Itk} {it it2 : Es} {c c2 elt : E} {k : Nat} {nv : Nv} {d : D} {k' : Nat} (ev : evalE Φ (.cmp2 t own ik it c t2 own2 ik2 it2 c2 elt k) nv = some (d, k')) :
    ∃ r ds xs, evalEs Φ it nv = some r ∧ itD ik (r.map (·.1)) = some ds ∧ compLL (twoF Φ t c t2 own2 ik2 it2 c2 elt k (wipe nv own)) ds = some xs ∧ xs.length ≤ sizeLine ∧ d = .lst xs ∧ k' = up k := by
  unfold evalE at ev
  split at ev
  · rename_i r er
    split at ev
    · rename_i ds ei
      split at ev
      · rename_i xs ec
        split at ev
        · rename_i hz
          cases ev
          exact ⟨r, ds, xs, er, ei, ec, small_le hz, rfl, rfl⟩
        · cases ev
      · cases ev
    · cases ev
  · cases ev
theorem lc2_read {t t2 : Tg} {own own2 : List Nat} {ik ik2 : Itk} {it it2 : Es} {c c2 elt : E} {k : Nat} {σ : St} {Q : VK} (ho : ∀ i ∈ tgs t, i ∈ own) (ho2 : ∀ i ∈ tgs t2, i ∈ own2) (hoo : ∀ i ∈ own2, i ∈ own)
    (h : tE K Φ (.cmp2 t own ik it c t2 own2 ik2 it2 c2 elt k) σ H Q) : tLc2 (tI K Φ ik it) (gOf K t) (tT K Φ c) (tI K Φ ik2 it2) (gOf K t2) (tT K Φ c2) (tE K Φ elt) own own2 σ H Q := by
  obtain ⟨S, nv, d, k', hA, hs, ev, q⟩ := h
  obtain ⟨r, ds, xs, er, ei, ec, hz, rfl, rfl⟩ := evalE_cmp2 ev
  have hs : SE K S H σ nv (varsS it ++ vars c ++ varsS it2 ++ vars c2 ++ vars elt) := hs
  refine ⟨S, nv, r, ds, hA, hs.left.left.left.left, er, ei, fun J H1 vs e1 go => fun L hL => ?_⟩
  obtain ⟨g, o⟩ := go S (.inr fun _ s => s)
  have hs1 : SE K S H1 (L2.wipe σ own) (PD.wipe nv own) (vars c ++ (varsS it2 ++ (vars c2 ++ vars elt))) := ((hs.sub (by intro i m; simp only [List.mem_append] at m ⊢; rcases m with m | m | m | m <;> simp [m])).same e1).wipe own
  have hA1 := Same.all e1 hA
  generalize hF : twoF Φ t c t2 own2 ik2 it2 c2 elt k (PD.wipe nv own) = F at ec
  let W : Nat → Nat → Hp → Prop := fun i m H2 => m = ds.length - i ∧ i ≤ ds.length ∧ ∃ acc da rest G, Acc K S H1 L (dn (up k)) H2 acc da G ∧ compLL F (ds.drop i) = some rest ∧ da ++ rest = xs
  refine ⟨W, ⟨ds.length, rfl, Nat.zero_le _, [], [], xs, [], Acc.new hL, ec, rfl⟩, fun i m H2 ⟨em, hi, acc, da, rest, G, A, er2, ex⟩ => ?_⟩
  by_cases hlt : i < ds.length
  · rw [drop_of hlt] at er2
    obtain ⟨x0, r0, e0, er3, rfl⟩ := compLL_cons er2
    refine .inr ⟨g.go H2 (Keep.same A.sm) i (by rw [o.length]; exact hlt), W (i + 1) (ds.length - (i + 1)), fun H' nx => ⟨ds.length - (i + 1), by omega, nx⟩, fun x H3 y => ?_⟩
    obtain ⟨rfl, gx⟩ := g.yld H2 (Keep.same A.sm) i x H3 y
    have gx := gx (by rw [o.length]; exact hlt)
    obtain ⟨x', gx', ox⟩ := o.get0 (List.getElem?_eq_getElem hlt)
    rw [gx] at gx'
    cases gx'
    rw [← hF] at e0
    unfold twoF at e0
    split at e0
    · rename_i nv2 eb
      split at e0
      · rename_i b kb ecc
        have hs2 : SE K (fun a => S a ∧ a ∉ L :: G) H3 (L2.wipe σ own) (PD.wipe nv own) (vars c ++ (varsS it2 ++ (vars c2 ++ vars elt))) := (hs1.drop A.freshes).same A.sm
        have ox2 : Ow K (fun a => S a ∧ a ∉ L :: G) H3 0 x _ [] := (ox.drop A.freshes).same A.sm
        refine bind_ok (own := own) hs2 ox2 eb ho fun σ2 s2 w2 => ⟨by rw [w2]; exact wipe_wipe fun _ h => h, ?_⟩
        have A3 := A.all hA1
        split at e0
        · rename_i et
          split at e0
          · rename_i r2 er4
            split at e0
            · rename_i ds2 ei2
              refine ⟨_, nv2, b, kb, true, A3, s2.left, ecc, et, fun H4 e4 => iteT ?_⟩
              have A4 := A.same e4
              refine ⟨_, nv2, r2, ds2, A4.all hA1, s2.right.left.same e4, er4, ei2, fun J1 H5 vs1 e5 go1 => ?_⟩
              obtain ⟨g1, o1⟩ := go1 _ (.inr fun _ s => s)
              have A5 := A4.same e5
              let W1 : Nat → Nat → Hp → Prop := fun j n H6 => n = ds2.length - j ∧ j ≤ ds2.length ∧ ∃ acc' da' rest' G', Acc K S H1 L (dn (up k)) H6 acc' da' G' ∧ compL (oneF Φ t2 c2 elt k (PD.wipe nv2 own2)) (ds2.drop j) = some rest' ∧ da' ++ rest' = da ++ x0 ∧ Keep (fun a => S a ∧ a ∉ L :: G) H5 H6 ∧ (∀ a ∈ L :: G', a ∈ L :: G ∨ H5 a = none) ∧ ∀ a, H6 a = none → H5 a = none
              refine ⟨W1, ⟨ds2.length, rfl, Nat.zero_le _, acc, da, x0, G, A5, e0, rfl, fun a o e _ => e, fun a m => .inl m, fun a n => n⟩, fun j n H6 ⟨en, hj, acc', da', rest', G', A6, er6, ex6, kp, kg, ka⟩ => ?_⟩
              have A6f := fun a m => (kg a m)
              have hS6 : ∀ a o, H5 a = some o → (S a ∧ a ∉ L :: G) → (S a ∧ a ∉ L :: G') := fun a o e s => ⟨s.1, fun m => (kg a m).elim s.2 fun z => by rw [z] at e; cases e⟩
              by_cases hlt2 : j < ds2.length
              · rw [drop_of hlt2] at er6
                obtain ⟨x1, r1, e1', er7, rfl⟩ := compL_cons er6
                refine .inr ⟨g1.go H6 kp j (by rw [o1.length]; exact hlt2), W1 (j + 1) (ds2.length - (j + 1)), fun H' nx => ⟨ds2.length - (j + 1), by omega, nx⟩, fun x2 H7 y2 => ?_⟩
                obtain ⟨rfl, gx2⟩ := g1.yld H6 kp j x2 H7 y2
                have gx2 := gx2 (by rw [o1.length]; exact hlt2)
                obtain ⟨x2', gx2', ox2'⟩ := o1.get0 (List.getElem?_eq_getElem hlt2)
                rw [gx2] at gx2'
                cases gx2'
                have hda : da ++ x0 = (da' ++ x1.toList) ++ r1 := by
                  rw [← ex6, List.append_assoc]
                  cases x1 <;> rfl
                have hs7 : SE K (fun a => S a ∧ a ∉ L :: G') H7 (L2.wipe σ2 own2) (PD.wipe nv2 own2) (vars c2 ++ vars elt) := (((s2.right.right.same e4).same e5).keep kp hS6).wipe own2
                have key := one_read (own := own2) (Nx := W1 (j + 1) (ds2.length - (j + 1))) ho2 e1' A6 hA1 hs7 (Keep.ow ox2' kp hS6)
                  (by
                    rw [← ex, ← List.append_assoc, hda, List.length_append, List.length_append] at hz
                    omega) fun H' acc'' G'' A' kp' kg' ka' => ⟨rfl, hlt2, acc'', _, r1, G'', A', er7, hda.symm, fun a o e s => ?_, fun a m => ?_, fun a n => ka a (ka' a n)⟩
                · rw [wipe_wipe (σ := σ2) (own := own2) (r := own2) fun _ h => h] at key
                  exact key
                · have h6 := kp a o e s
                  rcases s with s | s
                  · exact kp' a o h6 (.inl (hS6 a o e s))
                  · exact kp' a o h6 (.inr s)
                · rcases List.mem_cons.mp m with r | m
                  · exact .inl (by rw [r]; exact List.mem_cons_self)
                  · rcases kg' a m with m | n
                    · exact kg a (List.mem_cons_of_mem _ m)
                    · exact .inr (ka a n)
              · have e : j = ds2.length := by omega
                subst e
                rw [List.drop_length] at er6
                cases er6
                rw [List.append_nil] at ex6
                refine .inl ⟨g1.stop H6 kp _ (by rw [o1.length]; exact Nat.le_refl _), rfl, hlt, acc', da', r0, G', A6, er3, ?_⟩
                rw [ex6, List.append_assoc]
                exact ex
            · cases e0
          · cases e0
        · rename_i et
          cases e0
          refine ⟨_, nv2, b, kb, false, A3, s2.left, ecc, et, fun H4 e4 => iteF ?_⟩
          exact ⟨rfl, hlt, acc, da, r0, G, A.same e4, er3, ex⟩
        · cases e0
      · cases e0
    · cases e0
  · have e : i = ds.length := by omega
    subst e
    rw [List.drop_length] at er2
    cases er2
    rw [List.append_nil] at ex
    subst ex
    exact .inl ⟨g.stop H2 (Keep.same A.sm) _ (by rw [o.length]; exact Nat.le_refl _), A.fin e1 q⟩
end
end PD

/-! PD10: expressions, assembled: what trE makes of them is what they do. -/
namespace PD
open PySem L2

theorem XOk.blk {X : Cx} {T : Tx} {sk : Sk} {Φ : PhiT} (ok : XOk X T sk Φ) (s : Shared) (H : Hp) (scope : Scope) (cl : List (Str × Addr)) (C : Addr) (fp : List Addr) :
    XOk (X.blk s H scope (compEnvC scope cl C X.env) fp) T (sk.blk scope) Φ :=
  ⟨ok.N, ok.nd, by show relS scope X.env.scope = relS scope sk.sc; rw [ok.sc], rfl, ok.calm, ok.blt, ok.fns, ok.rm⟩

structure Snd (T : Tx) (Φ : PhiT) (n : Nat) : Prop where
  e : ∀ (X : Cx) (sk : Sk) (e : Expr) (e' : E), XOk X T sk Φ → trE T n sk e = some e' → PE X e (tE X.K Φ e') ∧ PT X e (tT X.K Φ e') ∧ ((∃ op vs p, e = .BoolOp op vs p) → PW X e (tT X.K Φ e'))
  es : ∀ (X : Cx) (sk : Sk) (es : List Expr) (es' : Es), XOk X T sk Φ → trEs T n sk es = some es' → PA X es (tA X.K Φ es') ∧ es.all okArg = true
  o : ∀ (X : Cx) (sk : Sk) (e : Option Expr) (es' : Es), XOk X T sk Φ → trO T n sk e = some es' → PO X e (tO X.K Φ es')
  f : ∀ (X : Cx) (sk : Sk) (es : List Expr) (e' : E), XOk X T sk Φ → trIf T n sk es = some e' → PTs X es (tT X.K Φ e')
  i : ∀ (X : Cx) (sk : Sk) (tg e : Expr) (p : Itk × Es), XOk X T sk Φ → trIt T n sk e = some p → PI X tg e (tI X.K Φ p.1 p.2)

theorem noSet {e : Expr} {env : PySem.Env} (h : okSet e = true) : ∀ x, foldedSetIterable e env x = pure x := by
  intro x
  cases e <;> first | rfl | cases h
theorem sF_nil {X : Cx} {Φ : PhiT} : PTs X [] (tT X.K Φ (.cst (.bl true))) := pts_nil.weak fun σ H Q ⟨S, nv, d, k, b, hA, hs, ev, tr, q⟩ => by
  cases ev
  cases tr
  exact q H (Same.refl H)
theorem map_some' {α β : Type} {f : α → β} {o : Option α} {b : β} (h : o.map f = some b) : ∃ a, o = some a ∧ f a = b := by
  cases o with
  | none => cases h
  | some a => exact ⟨a, rfl, Option.some.inj h⟩
theorem tgIn_mem {t : Tg} {own : List (Str × Nat)} (h : tgIn t own = true) : ∀ i ∈ tgs t, i ∈ own.map (·.2) := fun i m => of_decide_eq_true (List.all_eq_true.mp h i m)

theorem sE_lc {X : Cx} {T : Tx} {sk : Sk} {Φ : PhiT} {n : Nat} (ok : XOk X T sk Φ) (ih : Snd T Φ n) {elt tg iter : Expr} {ifs : List Expr} {scope : Scope} {pos : Pos} {own : List (Str × Nat)} {ik : Itk} {it : Es} {t : Tg} {c e : E} {k : Nat}
    (h2 : trIt T n sk iter = some (ik, it)) (h3 : trT T (sk.blk scope) tg = some t) (h4 : trIf T n (sk.blk scope) ifs = some c)
    (h5 : trE T n (sk.blk scope) elt = some e) (hb : blkC T.N sk.sc scope own = true) (hs : okSet iter = true) (ht : tgIn t own = true) :
    PE X (.ListComp elt [⟨tg, iter, ifs, 0⟩] scope pos) (tE X.K Φ (.cmpr t (own.map (·.2)) ik it c e k)) :=
  (pe_lc ok.calm ok.ndX (ih.i X sk tg iter (ik, it) ok h2) (blkOk_by (by rw [ok.N, ok.sc]; exact hb)) (fun s H C cl fp => sG (ok.blk s H scope cl C fp) h3) (fun s H C cl fp => ih.f _ _ ifs c (ok.blk s H scope cl C fp) h4)
    (fun s H C cl fp => (ih.e _ _ elt e (ok.blk s H scope cl C fp) h5).1) (noSet hs)).weak fun σ H Q h => lc_read (tgIn_mem ht) h
theorem sE_lc2 {X : Cx} {T : Tx} {sk : Sk} {Φ : PhiT} {n : Nat} (ok : XOk X T sk Φ) (ih : Snd T Φ n) {elt tg iter tg2 iter2 : Expr} {ifs ifs2 : List Expr} {scope : Scope} {pos : Pos} {own : List (Str × Nat)} {ik ik2 : Itk} {it it2 : Es} {t t2 : Tg} {c c2 e : E} {k : Nat}
    (h2 : trIt T n sk iter = some (ik, it)) (h3 : trT T (sk.blk scope) tg = some t) (h4 : trIf T n (sk.blk scope) ifs = some c)
    (h2' : trIt T n (sk.blk scope) iter2 = some (ik2, it2)) (h3' : trT T (sk.blk scope) tg2 = some t2) (h4' : trIf T n (sk.blk scope) ifs2 = some c2)
    (h5 : trE T n (sk.blk scope) elt = some e) (hb : blkC T.N sk.sc scope own = true) (hs : okSet iter = true) (hs2 : okSet iter2 = true) (ht : tgIn t own = true) (ht2 : tgIn t2 own = true) :
    PE X (.ListComp elt [⟨tg, iter, ifs, 0⟩, ⟨tg2, iter2, ifs2, 0⟩] scope pos) (tE X.K Φ (.cmp2 t (own.map (·.2)) ik it c t2 (tgs t2) ik2 it2 c2 e k)) :=
  (pe_lc2 (vs1 := tgs t2) ok.calm ok.ndX (ih.i X sk tg iter (ik, it) ok h2) (blkOk_by (by rw [ok.N, ok.sc]; exact hb)) (tgIn_mem ht2) (fun s H C cl fp => sG (ok.blk s H scope cl C fp) h3) (fun s H C cl fp => ih.f _ _ ifs c (ok.blk s H scope cl C fp) h4)
    (fun s H C cl fp => ih.i _ _ tg2 iter2 (ik2, it2) (ok.blk s H scope cl C fp) h2') (fun s H C cl fp => sG (ok.blk s H scope cl C fp) h3') (fun s H C cl fp => ih.f _ _ ifs2 c2 (ok.blk s H scope cl C fp) h4')
    (fun s H C cl fp => (ih.e _ _ elt e (ok.blk s H scope cl C fp) h5).1) (noSet hs) fun env => noSet hs2).weak fun σ H Q h => lc2_read (tgIn_mem ht) (fun _ m => m) (tgIn_mem ht2) h

theorem noB {e : Expr} {P : Prop} (h : ∀ op vs p, e ≠ .BoolOp op vs p) : (∃ op vs p, e = .BoolOp op vs p) → P := fun ⟨op, vs, p, z⟩ => absurd z (h op vs p)
theorem snd0 (T : Tx) (Φ : PhiT) : Snd T Φ 0 := by
  refine ⟨fun X sk e e' ok h => ?_, fun X sk e e' ok h => ?_, fun X sk e e' ok h => ?_, fun X sk e e' ok h => ?_, fun X sk t e p ok h => ?_⟩
  · unfold trE at h; cases h
  · unfold trEs at h; cases h
  · unfold trO at h; cases h
  · unfold trIf at h; cases h
  · unfold trIt at h; cases h
theorem sndE (T : Tx) (Φ : PhiT) (n : Nat) (ih : Snd T Φ n) (X : Cx) (sk : Sk) (e : Expr) (e' : E) (ok : XOk X T sk Φ) (h : trE T (n + 1) sk e = some e') : PE X e (tE X.K Φ e') ∧ PT X e (tT X.K Φ e') ∧ ((∃ op vs p, e = .BoolOp op vs p) → PW X e (tT X.K Φ e')) := by
  -- a plain one: its test is its value's truth
  have plain : PE X e (tE X.K Φ e') → (∀ whole, isTrue e X.env whole = (do let v ← whole; standAt e.pos; holding [v] (truthy v))) → (∀ op vs p, e ≠ .BoolOp op vs p) → PE X e (tE X.K Φ e') ∧ PT X e (tT X.K Φ e') ∧ ((∃ op vs p, e = .BoolOp op vs p) → PW X e (tT X.K Φ e')) :=
    fun p he hb => ⟨p, sT_of p he, noB hb⟩
  unfold trE at h
  split at h
  · cases h; exact plain (sE_cst pe_non fun _ _ _ => .non 8) (fun _ => rfl) (fun _ _ _ z => nomatch z)
  · cases h; exact plain (sE_cst pe_bl fun _ _ _ => .bl 8 _) (fun _ => rfl) (fun _ _ _ z => nomatch z)
  · cases h; exact plain (sE_cst pe_int fun _ _ _ => .int 8 _) (fun _ => rfl) (fun _ _ _ z => nomatch z)
  · cases h; exact plain (sE_cst pe_str fun _ _ _ => .str 8 _) (fun _ => rfl) (fun _ _ _ z => nomatch z)
  · split at h
    · rename_i c
      rw [Bool.and_eq_true, Bool.and_eq_true] at c
      obtain ⟨i, ei, rfl⟩ := map_some' h
      exact plain (sE_var ok c.1.1 (by simpa using c.1.2) (by simpa using c.2) ei) (fun _ => rfl) (fun _ _ _ z => nomatch z)
    · cases h
  · obtain ⟨es, ee, rfl⟩ := map_some' h
    exact plain (sE_lst (ih.es X sk _ es ok ee).1) (fun _ => rfl) (fun _ _ _ z => nomatch z)
  · obtain ⟨es, ee, rfl⟩ := map_some' h
    exact plain (sE_tup (ih.es X sk _ es ok ee).1) (fun _ => rfl) (fun _ _ _ z => nomatch z)
  · split at h
    · split at h
      · rename_i a b ea eb
        cases h
        exact plain (sE_bin (ih.e X sk _ a ok ea).1 (ih.e X sk _ b ok eb).1) (fun _ => rfl) (fun _ _ _ z => nomatch z)
      · cases h
    · cases h
  · obtain ⟨a, ea, rfl⟩ := map_some' h
    exact plain (sE_neg (ih.e X sk _ a ok ea).1) (fun _ => rfl) (fun _ _ _ z => nomatch z)
  · obtain ⟨a, ea, rfl⟩ := map_some' h
    exact ⟨sE_not (ih.e X sk _ a ok ea).1, sT_not (ih.e X sk _ a ok ea).2.1, noB fun _ _ _ z => nomatch z⟩
  · rename_i op a pos
    obtain ⟨p1, p2, p3⟩ := ih.e X sk a e' ok h
    have w : PW X (.BoolOp op [a] pos) (tT X.K Φ e') := by
      cases op
      · exact pw_and1 p2
      · exact pw_or1 p2
    exact ⟨pe_one p1, w.pt, fun _ => w⟩
  · rename_i op a b r pos
    split at h
    · rename_i a' b' ea eb
      obtain ⟨p1, p2, _⟩ := ih.e X sk _ a' ok ea
      obtain ⟨q1, _, q3⟩ := ih.e X sk _ b' ok eb
      have q3 := q3 ⟨_, _, _, rfl⟩
      cases op
      · cases h
        exact ⟨sE_and p1 q1, (sW_and p2 q3).pt, fun _ => sW_and p2 q3⟩
      · cases h
        exact ⟨sE_or p1 q1, (sW_or p2 q3).pt, fun _ => sW_or p2 q3⟩
    · cases h
  · split at h
    · rename_i hb
      split at h
      · rename_i a b ea eb
        cases h
        exact ⟨sE_cmp ok hb (ih.e X sk _ a ok ea).1 (ih.e X sk _ b ok eb).1, sT_cmp ok hb (ih.e X sk _ a ok ea).1 (ih.e X sk _ b ok eb).1, noB fun _ _ _ z => nomatch z⟩
      · cases h
    · cases h
  · split at h
    · rename_i hbc
      rw [Bool.and_eq_true] at hbc
      split at h
      · rename_i a b c ea eb ec
        cases h
        exact ⟨sE_chn ok hbc.2 (ih.e X sk _ a ok ea).1 (ih.e X sk _ b ok eb).1 (ih.e X sk _ c ok ec).1, sT_chn ok hbc.2 (ih.e X sk _ a ok ea).1 (ih.e X sk _ b ok eb).1 (ih.e X sk _ c ok ec).1, noB fun _ _ _ z => nomatch z⟩
      · cases h
    · cases h
  · obtain ⟨a, ea, rfl⟩ := map_some' h
    exact plain (sE_bck (ih.e X sk _ a ok ea).1) (fun _ => rfl) (fun _ _ _ z => nomatch z)
  · split at h
    · rename_i a lo hi ea el eh
      cases h
      exact plain (sE_sli (ih.e X sk _ a ok ea).1 (ih.o X sk _ lo ok el) (ih.o X sk _ hi ok eh)) (fun _ => rfl) (fun _ _ _ z => nomatch z)
    · cases h
  · split at h
    · rename_i hi
      split at h
      · rename_i a i ea ei
        cases h
        exact plain (sE_idx hi (ih.e X sk _ a ok ea).1 (ih.e X sk _ i ok ei).1) (fun _ => rfl) (fun _ _ _ z => nomatch z)
      · cases h
    · cases h
  · split at h
    · rename_i hg
      split at h
      · rename_i hx
        subst hx
        split at h
        · split at h
          · rename_i c
            rw [Bool.and_eq_true, Bool.and_eq_true] at c
            split at h
            · rename_i a f ea ef
              cases h
              exact plain (sE_isi ok ef hg c.1.1 c.1.2 (ih.e X sk _ a ok ea).1) (fun _ => rfl) (fun _ _ _ z => nomatch z)
            · cases h
          · cases h
        · cases h
      · split at h
        · rename_i f ef
          obtain ⟨es, ee, rfl⟩ := map_some' h
          obtain ⟨pa, al⟩ := ih.es X sk _ es ok ee
          exact plain (sE_blt ok ef hg rfl al pa) (fun _ => rfl) (fun _ _ _ z => nomatch z)
        · split at h
          · rename_i f es ef ee
            split at h
            · cases h
            · rename_i c
              cases h
              obtain ⟨pa, al⟩ := ih.es X sk _ es ok ee
              rw [Bool.or_eq_true, not_or] at c
              exact plain (sE_call ok hg ef (by simpa using c.2) (fun z => c.1 (by rw [z]; rfl)) al pa) (fun _ => rfl) (fun _ _ _ z => nomatch z)
          · cases h
    · cases h
  · split at h
    · rename_i own ik it t c e eo ei et ef ee
      split at h
      · rename_i cc
        cases h
        rw [Bool.and_eq_true, Bool.and_eq_true] at cc
        exact plain (sE_lc ok ih ei et ef ee cc.1.1 cc.1.2 cc.2) (fun _ => rfl) (fun _ _ _ z => nomatch z)
      · cases h
    · cases h
  · split at h
    · rename_i own ik it t c ik2 it2 t2 c2 e eo ei et ef ei2 et2 ef2 ee
      split at h
      · rename_i cc
        cases h
        rw [Bool.and_eq_true, Bool.and_eq_true, Bool.and_eq_true, Bool.and_eq_true] at cc
        exact plain (sE_lc2 ok ih ei et ef ei2 et2 ef2 ee cc.1.1.1.1 cc.1.1.1.2 cc.1.1.2 cc.1.2 cc.2) (fun _ => rfl) (fun _ _ _ z => nomatch z)
      · cases h
    · cases h
  · cases h
theorem snd (T : Tx) (Φ : PhiT) : ∀ n, Snd T Φ n
  | 0 => snd0 T Φ
  | n + 1 => by
    have ih := snd T Φ n
    refine ⟨sndE T Φ n ih, fun X sk es es' ok h => ?_, fun X sk o es' ok h => ?_, fun X sk es e' ok h => ?_, fun X sk tg e p ok h => ?_⟩
    · unfold trEs at h
      split at h
      · cases h; exact ⟨sA_nil, rfl⟩
      · split at h
        · rename_i ha
          split at h
          · rename_i a r ea er
            cases h
            obtain ⟨p, al⟩ := ih.es X sk _ r ok er
            exact ⟨sA_cons ha (ih.e X sk _ a ok ea).1 p, by rw [List.all_cons, ha, al]; rfl⟩
          · cases h
        · cases h
    · unfold trO at h
      split at h
      · cases h; exact sO_none
      · obtain ⟨a, ea, rfl⟩ := map_some' h
        exact sO_some (ih.e X sk _ a ok ea).1
    · unfold trIf at h
      split at h
      · cases h; exact sF_nil
      · exact pts_one (ih.e X sk _ e' ok h).2.1
      · cases h
    · have val : ∀ {e : Expr} {p : Itk × Es}, ((trE T n sk e).map fun a => (Itk.val, Es.cons a .nil)) = some p → PI X tg e (tI X.K Φ p.1 p.2) := fun {e p} z => by
        obtain ⟨a, ea, rfl⟩ := map_some' z
        exact sI_val (ih.e X sk _ a ok ea).1
      unfold trIt at h
      split at h
      · rename_i x p0 args pos
        split at h
        · rename_i c
          rw [Bool.and_eq_true] at c
          obtain ⟨hg, hx⟩ := c
          have hx : x = ("range" : Str) := by simpa using hx
          subst hx
          split at h
          · split at h
            · rename_i ha
              obtain ⟨a, ea, rfl⟩ := map_some' h
              exact sI_rng1 ok hg ha (ih.e X sk _ a ok ea).1
            · cases h
          · split at h
            · rename_i hab
              rw [Bool.and_eq_true] at hab
              split at h
              · rename_i a b ea eb
                cases h
                exact sI_rng2 ok hg hab.1 hab.2 (ih.e X sk _ a ok ea).1 (ih.e X sk _ b ok eb).1
              · cases h
            · cases h
          · cases h
        · split at h
          · rename_i c
            rw [Bool.and_eq_true] at c
            obtain ⟨hg, hx⟩ := c
            have hx : x = ("reversed" : Str) := by simpa using hx
            subst hx
            split at h
            · split at h
              · rename_i ha
                obtain ⟨a, ea, rfl⟩ := map_some' h
                exact sI_rev ok hg ha (ih.e X sk _ a ok ea).1
              · cases h
            · cases h
          · exact val h
      · exact val h
end PD

/-! PD11: the state between statements: what each name owns (F), what values in the air own (Gs). -/
namespace PD
open PySem L2

/-- what may be shared at all: the entry's shared part, and what is new since -/
def Bs (S0 : Addr → Prop) (H0 : Hp) (F0 : List Addr) (a : Addr) : Prop := S0 a ∨ H0 a = none ∨ a ∈ F0
def Sh (S0 : Addr → Prop) (H0 : Hp) (F0 : List Addr) (F : Nat → List Addr) (Gs : List Addr) (a : Addr) : Prop := Bs S0 H0 F0 a ∧ (∀ i, a ∉ F i) ∧ a ∉ Gs
structure SR (K : PySem.W.Frag) (S0 : Addr → Prop) (H0 : Hp) (F0 : List Addr) (σ : St) (H : Hp) (nv : Nv) (F : Nat → List Addr) (Gs : List Addr) : Prop where
  len : σ.length = nv.length
  val : ∀ i d k, nv[i]? = some (some (d, k)) → ∃ v, σ[i]? = some (some v) ∧ Ow K (Sh S0 H0 F0 F Gs) H k v d (F i)
  non : ∀ i, (∀ d k, nv[i]? ≠ some (some (d, k))) → F i = []
  nd : ∀ i, (F i).Nodup
  dj : ∀ i j a, a ∈ F i → a ∈ F j → i = j
  gn : Gs.Nodup
  gd : ∀ i a, a ∈ F i → a ∉ Gs
  ga : ∀ a ∈ Gs, H0 a = none ∧ ∃ o, H a = some o ∧ ¬ Fix o
  fr : ∀ a o, H0 a = some o → a ∉ F0 → H a = some o
  fx : ∀ a o, H0 a = some o → Fix o → H a = some o
  al : ∀ a, H a = none → H0 a = none
  ow : ∀ i a, a ∈ F i → H0 a = none ∨ a ∈ F0
/-- from one state to a later one -/
structure Lt (Sh1 : Addr → Prop) (H1 : Hp) (Sh2 : Addr → Prop) (H2 : Hp) : Prop where
  sh : ∀ a o, H1 a = some o → Sh1 a → Sh2 a
  kp : ∀ a o, H1 a = some o → Sh1 a ∨ Fix o → H2 a = some o
  al : ∀ a, H2 a = none → H1 a = none
theorem Lt.refl (S : Addr → Prop) (H : Hp) : Lt S H S H := ⟨fun _ _ _ s => s, fun _ _ e _ => e, fun _ n => n⟩
theorem Lt.trans {S1 S2 S3 : Addr → Prop} {H1 H2 H3 : Hp} (a : Lt S1 H1 S2 H2) (b : Lt S2 H2 S3 H3) : Lt S1 H1 S3 H3 :=
  ⟨fun x o e s => b.sh x o (a.kp x o e (.inl s)) (a.sh x o e s), fun x o e s => b.kp x o (a.kp x o e s) (s.imp (a.sh x o e) id), fun x n => a.al x (b.al x n)⟩
theorem Lt.same {S1 S2 : Addr → Prop} {H1 H2 : Hp} (e : Same H1 H2) (h : ∀ a o, H1 a = some o → S1 a → S2 a) : Lt S1 H1 S2 H2 := ⟨h, fun a o q _ => e a o q, fun _ n => e.free n⟩

section
variable {K : PySem.W.Frag} {S0 : Addr → Prop} {H0 H H' : Hp} {F0 Gs : List Addr} {σ : St} {nv : Nv} {F : Nat → List Addr}
theorem SR.there (h : SR K S0 H0 F0 σ H nv F Gs) {i : Nat} {a : Addr} (m : a ∈ F i) : ∃ o, H a = some o ∧ ¬ Fix o := by
  by_cases c : ∃ d k, nv[i]? = some (some (d, k))
  · obtain ⟨d, k, e⟩ := c
    obtain ⟨v, _, o⟩ := h.val i d k e
    exact o.there a m
  · rw [h.non i fun d k e => c ⟨d, k, e⟩] at m
    exact (List.not_mem_nil m).elim
theorem SR.shared0 (h : SR K S0 H0 F0 σ H nv F Gs) {i : Nat} {d : D} (e : nv[i]? = some (some (d, 0))) : F i = [] := by
  obtain ⟨v, _, o⟩ := h.val i d 0 e
  exact o.zero
/-- reading the names vs: the others' own, and what is in the air, stand apart -/
def Sv (S0 : Addr → Prop) (H0 : Hp) (F0 : List Addr) (F : Nat → List Addr) (Gs : List Addr) (vs : List Nat) (a : Addr) : Prop := Bs S0 H0 F0 a ∧ (∀ i, i ∉ vs → a ∉ F i) ∧ a ∉ Gs
theorem SR.all (h : SR K S0 H0 F0 σ H nv F Gs) (vs : List Nat) : All H (Sv S0 H0 F0 F Gs vs) := by
  refine fun a n => ⟨.inr (.inl (h.al a n)), fun i _ m => ?_, fun m => ?_⟩
  · obtain ⟨o, q, _⟩ := h.there m
    rw [n] at q; cases q
  · obtain ⟨_, o, q, _⟩ := h.ga a m
    rw [n] at q; cases q
theorem SR.se (h : SR K S0 H0 F0 σ H nv F Gs) (vs : List Nat) : SE K (Sv S0 H0 F0 F Gs vs) H σ nv vs := ⟨h.len, fun i m d k e => by
  obtain ⟨v, e1, o⟩ := h.val i d k e
  exact ⟨v, e1, o.forget (fun a s => ⟨s.1, fun j _ => s.2.1 j, s.2.2⟩) fun a ma => ⟨(h.ow i a ma).elim (fun z => .inr (.inl z)) (fun z => .inr (.inr z)), fun j nj mj => nj ((h.dj i j a ma mj) ▸ m), h.gd i a ma⟩⟩⟩
def emp (vs : List Nat) (F : Nat → List Addr) : Nat → List Addr := fun i => if i ∈ vs then [] else F i
theorem emp_mem {vs : List Nat} {F : Nat → List Addr} {i : Nat} {a : Addr} (m : a ∈ emp vs F i) : i ∉ vs ∧ a ∈ F i := by
  unfold emp at m
  by_cases c : i ∈ vs
  · rw [if_pos c] at m; exact (List.not_mem_nil m).elim
  · rw [if_neg c] at m; exact ⟨c, m⟩
theorem emp_pos {vs : List Nat} {F : Nat → List Addr} {i : Nat} (c : i ∈ vs) : emp vs F i = [] := if_pos c
theorem emp_neg {vs : List Nat} {F : Nat → List Addr} {i : Nat} (c : i ∉ vs) : emp vs F i = F i := if_neg c
def one (i : Nat) (G : List Addr) (F : Nat → List Addr) : Nat → List Addr := fun j => if j = i then G else F j
theorem one_mem {i : Nat} {G : List Addr} {F : Nat → List Addr} {j : Nat} {a : Addr} (m : a ∈ one i G F j) : (j = i ∧ a ∈ G) ∨ (j ≠ i ∧ a ∈ F j) := by
  unfold one at m
  by_cases c : j = i
  · rw [if_pos c] at m; exact .inl ⟨c, m⟩
  · rw [if_neg c] at m; exact .inr ⟨c, m⟩
theorem one_pos {i : Nat} {G : List Addr} {F : Nat → List Addr} : one i G F i = G := if_pos rfl
theorem one_neg {i : Nat} {G : List Addr} {F : Nat → List Addr} {j : Nat} (c : j ≠ i) : one i G F j = F j := if_neg c
/-- names that no longer own -/
theorem SR.forgetF (h : SR K S0 H0 F0 σ H nv F Gs) (vs : List Nat) (nv' : Nv) (hl : nv'.length = nv.length) (hin : ∀ i ∈ vs, ∀ d k, nv'[i]? = some (some (d, k)) → k = 0 ∧ ∃ k', nv[i]? = some (some (d, k'))) (hout : ∀ i, i ∉ vs → nv'[i]? = nv[i]?) :
    SR K S0 H0 F0 σ H nv' (emp vs F) Gs := by
  have sh : ∀ a, Sh S0 H0 F0 F Gs a → Sh S0 H0 F0 (emp vs F) Gs a := fun a s => ⟨s.1, fun i m => s.2.1 i (emp_mem m).2, s.2.2⟩
  refine ⟨h.len.trans hl.symm, fun i d k e => ?_, fun i hn => ?_, fun i => ?_, fun i j a m1 m2 => h.dj i j a (emp_mem m1).2 (emp_mem m2).2, h.gn, fun i a m => h.gd i a (emp_mem m).2, h.ga, h.fr, h.fx, h.al, fun i a m => h.ow i a (emp_mem m).2⟩
  · by_cases c : i ∈ vs
    · obtain ⟨rfl, k', e'⟩ := hin i c d k e
      obtain ⟨v, e1, o⟩ := h.val i d k' e'
      refine ⟨v, e1, ?_⟩
      rw [emp_pos c]
      exact o.forget sh fun a ma => ⟨(h.ow i a ma).elim (fun z => .inr (.inl z)) (fun z => .inr (.inr z)), fun j mj => (emp_mem mj).1 ((h.dj i j a ma (emp_mem mj).2) ▸ c), h.gd i a ma⟩
    · rw [hout i c] at e
      obtain ⟨v, e1, o⟩ := h.val i d k e
      refine ⟨v, e1, ?_⟩
      rw [emp_neg c]
      exact o.mono (fun a _ _ s => sh a s) (fun _ _ q _ => q) fun _ _ => rfl
  · by_cases c : i ∈ vs
    · exact emp_pos c
    · rw [emp_neg c]
      exact h.non i fun d k e => hn d k ((hout i c).trans e)
  · by_cases c : i ∈ vs
    · rw [emp_pos c]; exact List.nodup_nil
    · rw [emp_neg c]; exact h.nd i
theorem demote_len : ∀ (vs : List Nat) (σ : Nv), (demote σ vs).length = σ.length
  | [], _ => rfl
  | i :: is, σ => by
    unfold demote
    rw [demote_len is]
    split
    · rw [List.length_set]
    · rfl
theorem demote_out {i : Nat} : ∀ (vs : List Nat) (σ : Nv), i ∉ vs → (demote σ vs)[i]? = σ[i]?
  | [], _, _ => rfl
  | j :: is, σ, h => by
    unfold demote
    rw [demote_out is _ fun m => h (List.mem_cons_of_mem _ m)]
    split
    · rw [List.getElem?_set_ne fun e => h (by rw [e]; exact List.mem_cons_self)]
    · rfl
theorem demote_in {i : Nat} {d : D} {k : Nat} : ∀ (vs : List Nat) (σ : Nv), (demote σ vs)[i]? = some (some (d, k)) → (∃ k', σ[i]? = some (some (d, k'))) ∧ (i ∈ vs → k = 0)
  | [], σ, h => ⟨⟨k, h⟩, fun m => (List.not_mem_nil m).elim⟩
  | j :: is, σ, h => by
    unfold demote at h
    have ih := demote_in is _ h
    obtain ⟨⟨k', e⟩, z⟩ := ih
    by_cases c : j = i
    · subst c
      split at e
      · rename_i d0 k0 e0
        have hj : j < σ.length := (List.getElem?_eq_some_iff.mp e0).1
        rw [List.getElem?_set_self hj] at e
        cases e
        refine ⟨⟨k0, e0⟩, fun _ => ?_⟩
        by_cases m : j ∈ is
        · exact z m
        · rw [demote_out is _ m] at h
          split at h
          · rename_i d1 k1 e1
            rw [e0] at e1
            cases e1
            rw [List.getElem?_set_self hj] at h
            cases h
            rfl
          · rename_i hno
            exact absurd e0 (hno d k0)
      · rename_i hno
        exact absurd e (hno d k')
    · have e' : σ[i]? = some (some (d, k')) := by
        split at e
        · rw [List.getElem?_set_ne c] at e; exact e
        · exact e
      exact ⟨⟨k', e'⟩, fun m => z ((List.mem_cons.mp m).resolve_left fun q => c q.symm)⟩
theorem SR.demote (h : SR K S0 H0 F0 σ H nv F Gs) (vs : List Nat) : SR K S0 H0 F0 σ H (PD.demote nv vs) (emp vs F) Gs :=
  h.forgetF vs _ (demote_len vs nv) (fun i m d k e => let ⟨a, b⟩ := demote_in vs nv e; ⟨b m, a⟩) fun i n => demote_out vs nv n
/-- the heap grows; the new value owns G -/
theorem SR.grow (h : SR K S0 H0 F0 σ H nv F Gs) (e : Same H H') {G : List Addr} (nd : G.Nodup) (f : ∀ a ∈ G, H a = none) (t : ∀ a ∈ G, ∃ o, H' a = some o ∧ ¬ Fix o) : SR K S0 H0 F0 σ H' nv F (Gs ++ G) := by
  refine ⟨h.len, fun i d k q => ?_, h.non, h.nd, h.dj, List.nodup_append.mpr ⟨h.gn, nd, fun a m b n z => ?_⟩, fun i a m n => ?_, fun a m => ?_, fun a o q n => e a o (h.fr a o q n), fun a o q n => e a o (h.fx a o q n), fun a n => h.al a (e.free n), h.ow⟩
  · obtain ⟨v, e1, o⟩ := h.val i d k q
    have hS : ∀ a o, H a = some o → Sh S0 H0 F0 F Gs a → Sh S0 H0 F0 F (Gs ++ G) a := fun a u z s => ⟨s.1, s.2.1, fun m => (List.mem_append.mp m).elim s.2.2 fun m => by rw [f a m] at z; cases z⟩
    refine ⟨v, e1, o.mono hS (fun a u z _ => e a u z) fun a m => ?_⟩
    obtain ⟨u, z, _⟩ := o.there a m
    rw [z, e a u z]
  · subst z
    obtain ⟨_, o, q, _⟩ := h.ga a m
    rw [f a n] at q; cases q
  · rcases List.mem_append.mp n with n | n
    · exact h.gd i a m n
    · obtain ⟨o, q, _⟩ := h.there m
      rw [f a n] at q; cases q
  · rcases List.mem_append.mp m with m | m
    · obtain ⟨z, o, q, nf⟩ := h.ga a m
      exact ⟨z, o, e a o q, nf⟩
    · exact ⟨h.al a (f a m), t a m⟩
/-- an expression is evaluated: its value hangs in the air -/
theorem SR.ev {Φ : PhiT} {e : E} {d : D} {k : Nat} {Q : VK} (h : SR K S0 H0 F0 σ H nv F Gs) (ev : evalE Φ e nv = some (d, k))
    (q : ∀ v H' G F', SR K S0 H0 F0 σ H' (esc nv (vars e) d k) F' (Gs ++ G) → Same H H' → Lt (Sh S0 H0 F0 F Gs) H (Sh S0 H0 F0 F' (Gs ++ G)) H' → (∀ i a, a ∈ F' i → a ∈ F i) → Ow K (Sh S0 H0 F0 F' (Gs ++ G)) H' k v d G → Q v H') : tE K Φ e σ H Q := by
  refine ⟨Sv S0 H0 F0 F Gs (vars e), nv, d, k, h.all _, h.se _, ev, fun v H' G e1 nd f o => ?_⟩
  have g := h.grow e1 nd f fun a m => o.there a m
  have newsh : ∀ {F' : Nat → List Addr}, (∀ i a, a ∈ F' i → a ∈ F i) → Lt (Sh S0 H0 F0 F Gs) H (Sh S0 H0 F0 F' (Gs ++ G)) H' := fun {F'} sub => Lt.same e1 fun a u z s => ⟨s.1, fun i m => s.2.1 i (sub i a m), fun m => (List.mem_append.mp m).elim s.2.2 fun m => by rw [f a m] at z; cases z⟩
  unfold esc at q
  by_cases c : (vars e).any (ownd nv) = true
  · rw [if_pos c] at q
    by_cases c2 : cov k d = true
    · rw [if_pos c2] at q
      exact q v H' G F g e1 (newsh fun _ _ m => m) (fun _ _ m => m) (o.cover c2 _)
    · rw [if_neg c2] at q
      have g' := g.demote (vars e)
      have hS : ∀ a o, H' a = some o → (Sv S0 H0 F0 F Gs (vars e) a ∧ a ∉ G) → Sh S0 H0 F0 (emp (vars e) F) (Gs ++ G) a := fun a u z s => ⟨s.1.1, fun i m => s.1.2.1 i (emp_mem m).1 (emp_mem m).2, fun m => (List.mem_append.mp m).elim s.1.2.2 s.2⟩
      exact q v H' G _ g' e1 (newsh fun i a m => (emp_mem m).2) (fun i a m => (emp_mem m).2) (o.mono hS (fun _ _ z _ => z) fun _ _ => rfl)
  · rw [if_neg c] at q
    have nil : ∀ i ∈ vars e, F i = [] := fun i ci => by
      by_cases cc : ∃ d k, nv[i]? = some (some (d, k))
      · obtain ⟨d', k', ee⟩ := cc
        have hk : k' = 0 := by
          have nn : ownd nv i ≠ true := fun w => c (List.any_eq_true.mpr ⟨i, ci, w⟩)
          unfold ownd at nn
          rw [ee] at nn
          by_cases z0 : k' = 0
          · exact z0
          · exact absurd (decide_eq_true z0) nn
        subst hk
        exact h.shared0 ee
      · exact h.non i fun d k e => cc ⟨d, k, e⟩
    have hS : ∀ a o, H' a = some o → (Sv S0 H0 F0 F Gs (vars e) a ∧ a ∉ G) → Sh S0 H0 F0 F (Gs ++ G) a := fun a u z s => ⟨s.1.1, fun i m => by
      by_cases ci : i ∈ vars e
      · rw [nil i ci] at m
        exact (List.not_mem_nil m).elim
      · exact s.1.2.1 i ci m, fun m => (List.mem_append.mp m).elim s.1.2.2 s.2⟩
    exact q v H' G F g e1 (newsh fun _ _ m => m) (fun _ _ m => m) (o.mono hS (fun _ _ z _ => z) fun _ _ => rfl)
/-- what hangs in the air falls: it is shared -/
theorem SR.drop (h : SR K S0 H0 F0 σ H nv F Gs) {Gs' : List Addr} (sub : ∀ a ∈ Gs', a ∈ Gs) (nd : Gs'.Nodup) : SR K S0 H0 F0 σ H nv F Gs' :=
  ⟨h.len, fun i d k q => let ⟨v, e1, o⟩ := h.val i d k q; ⟨v, e1, o.mono (fun a _ _ s => ⟨s.1, s.2.1, fun m => s.2.2 (sub a m)⟩) (fun _ _ z _ => z) fun _ _ => rfl⟩, h.non, h.nd, h.dj, nd, fun i a m n => h.gd i a m (sub a n), fun a m => h.ga a (sub a m), h.fr, h.fx, h.al, h.ow⟩
/-- a value is stored at a name -/
theorem SR.set (h : SR K S0 H0 F0 σ H nv F Gs) {i : Nat} {v : V} {d : D} {k ow : Nat} {G Gs' : List Addr} (o : Ow K (Sh S0 H0 F0 F Gs) H k v d G) (hk : ow ≤ k) (hG : ∀ a ∈ G, a ∈ Gs) (nG : G.Nodup) (sub : ∀ a ∈ Gs', a ∈ Gs) (nd : Gs'.Nodup) (dis : ∀ a ∈ G, a ∉ Gs') :
    ∃ F', SR K S0 H0 F0 (σ.set i (some v)) H (nv.set i (some (d, ow))) F' Gs' ∧ (∀ a, Sh S0 H0 F0 F Gs a → Sh S0 H0 F0 F' Gs' a) ∧ (∀ j a, a ∈ F' j → a ∈ F j ∨ a ∈ G) := by
  by_cases hi : i < nv.length
  · obtain ⟨G', sl, q⟩ := o.lower hk nG
    have fne : ∀ a ∈ G', ∀ j, a ∉ F j := fun a m j n => h.gd j a n (hG a (sl.subset m))
    have sh : ∀ a, Sh S0 H0 F0 F Gs a → Sh S0 H0 F0 (one i G' F) Gs' a := fun a s => ⟨s.1, fun j m => (one_mem m).elim (fun m => s.2.2 (hG a (sl.subset m.2))) fun m => s.2.1 j m.2, fun m => s.2.2 (sub a m)⟩
    refine ⟨one i G' F, ⟨by rw [List.length_set, List.length_set]; exact h.len, fun j e l qj => ?_, fun j hn => ?_, fun j => ?_, fun j l a m1 m2 => ?_, nd, fun j a m n => ?_, fun a m => h.ga a (sub a m), h.fr, h.fx, h.al, fun j a m => ?_⟩, sh, fun j a m => ?_⟩
    · by_cases c : j = i
      · subst c
        rw [List.getElem?_set_self hi] at qj
        cases qj
        refine ⟨v, List.getElem?_set_self (by rw [h.len]; exact hi), ?_⟩
        rw [one_pos]
        exact q _ sh fun a m n => ⟨.inr (.inl (h.ga a (hG a m)).1), fun l ml => (one_mem ml).elim (fun z => n z.2) fun z => h.gd l a z.2 (hG a m), dis a m⟩
      · rw [List.getElem?_set_ne (Ne.symm c)] at qj
        obtain ⟨w, e1, o1⟩ := h.val j e l qj
        refine ⟨w, by rw [List.getElem?_set_ne (Ne.symm c)]; exact e1, ?_⟩
        rw [one_neg c]
        exact o1.mono (fun a _ _ s => sh a s) (fun _ _ z _ => z) fun _ _ => rfl
    · by_cases c : j = i
      · subst c
        exact absurd (List.getElem?_set_self hi) (hn d ow)
      · rw [one_neg c]
        exact h.non j fun e l z => hn e l (by rw [List.getElem?_set_ne (Ne.symm c)]; exact z)
    · by_cases c : j = i
      · rw [c, one_pos]; exact sl.nodup nG
      · rw [one_neg c]; exact h.nd j
    · rcases one_mem m1 with ⟨c1, m1⟩ | ⟨c1, m1⟩
      · rcases one_mem m2 with ⟨c2, m2⟩ | ⟨c2, m2⟩
        · rw [c1, c2]
        · exact absurd m2 (fne a m1 l)
      · rcases one_mem m2 with ⟨c2, m2⟩ | ⟨c2, m2⟩
        · exact absurd m1 (fne a m2 j)
        · exact h.dj j l a m1 m2
    · rcases one_mem m with ⟨c, m⟩ | ⟨c, m⟩
      · exact dis a (sl.subset m) n
      · exact h.gd j a m (sub a n)
    · rcases one_mem m with ⟨c, m⟩ | ⟨c, m⟩
      · exact .inl (h.ga a (hG a (sl.subset m))).1
      · exact h.ow j a m
    · rcases one_mem m with ⟨c, m⟩ | ⟨c, m⟩
      · exact .inr (sl.subset m)
      · exact .inl m
  · have e1 : nv.set i (some (d, ow)) = nv := List.set_eq_of_length_le (by omega)
    have e2 : σ.set i (some v) = σ := List.set_eq_of_length_le (by rw [h.len]; omega)
    rw [e1, e2]
    exact ⟨F, h.drop sub nd, fun a s => ⟨s.1, s.2.1, fun m => s.2.2 (sub a m)⟩, fun j a m => .inl m⟩
end
end PD

/-! PD12: places that are changed. -/
namespace PD
open PySem L2
section
variable {X : Cx} {T : Tx} {sk : Sk} {Φ : PhiT} {K : PySem.W.Frag} {S S' : Addr → Prop} {H H' : Hp}

/-- from v along the places r to w -/
def NavD (H : Hp) : List D → V → V → Prop
  | [], v, w => v = w
  | d :: r, v, w => ∃ a xs i u, d = .int i ∧ v = .ref a ∧ (H a = some (.lst xs) ∨ H a = some (.tup xs)) ∧ L2.atI xs i = some u ∧ NavD H r u w
theorem NavD.same (e : Same H H') : ∀ {r : List D} {v w : V}, NavD H r v w → NavD H' r v w
  | [], _, _, h => h
  | d :: r, v, w, ⟨a, xs, i, u, h1, h2, h3, h4, h5⟩ => ⟨a, xs, i, u, h1, h2, h3.imp (e _ _) (e _ _), h4, NavD.same e h5⟩
theorem NavD.det : ∀ {r : List D} {v w w' : V}, NavD H r v w → NavD H r v w' → w = w'
  | [], _, _, _, h, h' => by
    have h : _ = _ := h
    have h' : _ = _ := h'
    rw [← h, ← h']
  | d :: r, v, w, w', ⟨a, xs, i, u, h1, h2, h3, h4, h5⟩, ⟨a', xs', i', u', h1', h2', h3', h4', h5'⟩ => by
    subst h1 h2
    cases h1'
    cases h2'
    have e : xs = xs' := by
      rcases h3 with h3 | h3
      · rcases h3' with h3' | h3'
        · rw [h3] at h3'; cases h3'; rfl
        · rw [h3] at h3'; cases h3'
      · rcases h3' with h3' | h3'
        · rw [h3] at h3'; cases h3'
        · rw [h3] at h3'; cases h3'; rfl
    subst e
    rw [h4] at h4'
    cases h4'
    exact NavD.det h5 h5'
theorem NavD.append : ∀ {r r' : List D} {v w : V}, NavD H (r ++ r') v w ↔ ∃ u, NavD H r v u ∧ NavD H r' u w
  | [], r', v, w => ⟨fun h => ⟨v, rfl, h⟩, fun ⟨u, h1, h2⟩ => by
    have h1 : v = u := h1
    rw [h1]; exact h2⟩
  | d :: r, r', v, w => ⟨fun ⟨a, xs, i, u, h1, h2, h3, h4, h5⟩ => by
      obtain ⟨z, z1, z2⟩ := NavD.append.mp h5
      exact ⟨z, ⟨a, xs, i, u, h1, h2, h3, h4, z1⟩, z2⟩, fun ⟨z, ⟨a, xs, i, u, h1, h2, h3, h4, z1⟩, z2⟩ => ⟨a, xs, i, u, h1, h2, h3, h4, NavD.append.mpr ⟨z, z1, z2⟩⟩⟩

def pvars : Pth → List Nat
  | .var _ => []
  | .idx p e => pvars p ++ vars e
def tP (K : PySem.W.Frag) (Φ : PhiT) (p : Pth) : TE := fun σ H Q => ∃ S nv r v w, All H S ∧ SE K S H σ nv (pvars p) ∧ pthD Φ nv p = some r ∧ σ[p.root]? = some (some v) ∧ NavD H r v w ∧ ∀ H', Same H H' → Q w H'
theorem trP_sound (ok : XOk X T sk Φ) (n : Nat) : ∀ {e : Expr} {p : Pth}, trP T n sk e = some p → PE X e (tP X.K Φ p) ∧ (∀ m, attributeBase e m X.env (eval e X.env) = eval e X.env)
  | .Name x pos, p, h => by
    unfold trP at h
    split at h
    · rename_i c
      rw [Bool.and_eq_true, Bool.and_eq_true] at c
      obtain ⟨i, ei, rfl⟩ := map_some' h
      refine ⟨(pe_var (ok.ix ei) (ok.vis c.1.1) (by simpa using c.1.2) (by simpa using c.2)).weak fun σ H Q ⟨S, nv, r, v, w, hA, hs, ep, ev, nv', q⟩ => ?_, fun _ => rfl⟩
      cases ep
      have nv' : v = w := nv'
      subst nv'
      exact ⟨v, ev, q H (Same.refl H)⟩
    · cases h
  | .Subscript a i pos, p, h => by
    unfold trP at h
    split at h
    · rename_i hi
      split at h
      · rename_i p' i' ep ei
        cases h
        refine ⟨(pe_ix ix_seq (trP_sound ok n ep).1 ((snd T Φ n).e X sk i i' ok ei).1 (plainIx hi)).weak fun σ H Q ⟨S, nv, r, v, w, hA, hs, er, ev, nav, q⟩ => ?_, fun _ => rfl⟩
        unfold pthD at er
        split at er
        · rename_i r' d k er' ed
          cases er
          obtain ⟨u, n1, a', xs, j, u2, hd, hu, ha, hat, n2⟩ := NavD.append.mp nav
          have n2 : u2 = w := n2
          subst n2 hd hu
          refine ⟨S, nv, r', v, _, hA, SE.left hs, er', ev, n1, fun H1 e1 => ?_⟩
          refine tE_one (Same.all e1 hA) ((SE.right hs).same e1) ed fun y H2 e2 A2 o2 => ?_
          cases o2.intI
          have e12 := e1.trans e2
          rcases ha with ha | ha
          · exact .inl ⟨a', xs, j, _, rfl, rfl, SqL.of (e12 _ _ ha), hat, q H2 e12⟩
          · exact .inr (.inl ⟨a', xs, j, _, rfl, rfl, SqT.of (e12 _ _ ha), hat, q H2 e12⟩)
        · cases er
      · cases h
    · cases h
  | .BoolOp .., _, h => nomatch h
  | .NamedExpr .., _, h => nomatch h
  | .BinOp .., _, h => nomatch h
  | .UnaryOp .., _, h => nomatch h
  | .Lambda .., _, h => nomatch h
  | .IfExp .., _, h => nomatch h
  | .Dict .., _, h => nomatch h
  | .Set .., _, h => nomatch h
  | .ListComp .., _, h => nomatch h
  | .SetComp .., _, h => nomatch h
  | .DictComp .., _, h => nomatch h
  | .GeneratorExp .., _, h => nomatch h
  | .Await .., _, h => nomatch h
  | .Yield .., _, h => nomatch h
  | .YieldFrom .., _, h => nomatch h
  | .Compare .., _, h => nomatch h
  | .Call .., _, h => nomatch h
  | .FormattedValue .., _, h => nomatch h
  | .JoinedStr .., _, h => nomatch h
  | .Constant .., _, h => nomatch h
  | .Attribute .., _, h => nomatch h
  | .Starred .., _, h => nomatch h
  | .List .., _, h => nomatch h
  | .Tuple .., _, h => nomatch h
  | .Slice .., _, h => nomatch h

/-- one item of many, and the others kept -/
theorem Ows.at' {k : Nat} : ∀ {vs : List V} {ds : List D} {F : List Addr} {j : Nat} {x : D}, Ows K S H k vs ds F → ds[j]? = some x → ∃ A Fj B u, F = A ++ Fj ++ B ∧ vs[j]? = some u ∧ Ow K S H k u x Fj ∧
    ∀ (S' : Addr → Prop) (H' : Hp) (y : D) (u' : V) (Fj' : List Addr), Ow K S' H' k u' y Fj' → (∀ a o, H a = some o → S a → S' a) → (∀ a o, H a = some o → S a ∨ Fix o → H' a = some o) → (∀ a ∈ A ++ B, H' a = H a) → Ows K S' H' k (vs.set j u') (ds.set j y) (A ++ Fj' ++ B)
  | _, _, _, j, x, .nil _, e => by simp at e
  | _, _, _, 0, x, .cons (v := v) (vs := vs) (d := d) (ds := ds) (F := F) (G := G) h r, e => by
    have e' : d = x := Option.some.inj e
    subst e'
    refine ⟨[], F, G, v, by simp, rfl, h, fun S' H' y u' Fj' o hS hH hF => ?_⟩
    show Ows K S' H' k (u' :: vs) (y :: ds) ([] ++ Fj' ++ G)
    rw [List.nil_append]
    exact .cons o (r.mono hS hH fun a m => hF a (by simpa using m))
  | _, _, _, j + 1, x, .cons (v := v) (vs := vs) (d := d) (ds := ds) (F := F) (G := G) h r, e => by
    obtain ⟨A, Fj, B, u, rfl, e1, o1, q⟩ := r.at' (j := j) (x := x) (by simpa using e)
    refine ⟨F ++ A, Fj, B, u, by simp [List.append_assoc], by simpa using e1, o1, fun S' H' y u' Fj' o hS hH hF => ?_⟩
    have z := q S' H' y u' Fj' o hS hH fun a m => hF a (by
      rcases List.mem_append.mp m with m | m
      · exact List.mem_append_left _ (List.mem_append_right _ m)
      · exact List.mem_append_right _ m)
    show Ows K S' H' k (v :: vs.set j u') (d :: ds.set j y) (F ++ A ++ Fj' ++ B)
    have e2 : F ++ A ++ Fj' ++ B = F ++ (A ++ Fj' ++ B) := by simp [List.append_assoc]
    rw [e2]
    exact .cons (h.mono hS hH fun a m => hF a (List.mem_append_left _ (List.mem_append_left _ m))) z
theorem atI_of {α : Type} {xs : List α} {i : Int} {j : Nat} {x : α} (h : L2.ixN xs.length i = some j) (e : xs[j]? = some x) : L2.atI xs i = some x := by
  unfold L2.atI
  rw [h]
  exact e
theorem set_same {α : Type} {xs : List α} {j : Nat} {x : α} (e : xs[j]? = some x) : xs.set j x = xs := by
  obtain ⟨h, e'⟩ := List.getElem?_eq_some_iff.mp e
  rw [← e']
  exact List.set_getElem_self h
/-- the place that is changed, and what it is to be changed there -/
theorem chg_ok {f : D → Nat → Option D} : ∀ (r : List D) {d d' : D} {k : Nat} {v : V} {F : List Addr}, Ow K S H k v d F → chg f r d k = some d' → ∃ kn dn dn' vn A Fn B, F = A ++ Fn ++ B ∧ kn ≠ 0 ∧ f dn kn = some dn' ∧ Ow K S H kn vn dn Fn ∧ NavD H r v vn ∧
    ∀ (S' : Addr → Prop) (H' : Hp) (Fn' : List Addr), Ow K S' H' kn vn dn' Fn' → (∀ a o, H a = some o → S a → S' a) → (∀ a o, H a = some o → S a ∨ Fix o → H' a = some o) → (∀ a ∈ A ++ B, H' a = H a) → Ow K S' H' k v d' (A ++ Fn' ++ B)
  | [], d, d', k, v, F, o, e => by
    unfold chg at e
    by_cases c : k = 0
    · rw [if_pos c] at e; cases e
    · rw [if_neg c] at e
      exact ⟨k, d, d', v, [], F, [], by simp, c, e, o, rfl, fun S' H' Fn' o' _ _ _ => by simpa using o'⟩
  | i :: r, d, d', k, v, F, o, e => by
    cases o with
    | @tup k a xs ds F ha rs =>
      unfold chg at e
      split at e
      · rename_i ii
        split at e
        · rename_i j ej
          split at e
          · rename_i x ex
            split at e
            · rename_i y ey
              cases e
              obtain ⟨A, Fj, B, u, rfl, e1, o1, q⟩ := rs.at' ex
              obtain ⟨kn, dn, dn', vn, A2, Fn, B2, rfl, hk, hf, on, nav, q2⟩ := chg_ok r o1 ey
              refine ⟨kn, dn, dn', vn, A ++ A2, Fn, B2 ++ B, by simp [List.append_assoc], hk, hf, on, ⟨a, xs, ii, u, rfl, rfl, .inr ha, atI_of (by rw [rs.length]; exact ej) e1, nav⟩, fun S' H' Fn' o' hS hH hF => ?_⟩
              have z := q S' H' y u (A2 ++ Fn' ++ B2) (q2 S' H' Fn' o' hS hH fun b m => hF b (by simp only [List.mem_append] at m ⊢; rcases m with m | m <;> simp [m])) hS hH fun b m => hF b (by simp only [List.mem_append] at m ⊢; rcases m with m | m <;> simp [m])
              rw [set_same e1] at z
              have e2 : A ++ A2 ++ Fn' ++ (B2 ++ B) = A ++ (A2 ++ Fn' ++ B2) ++ B := by simp [List.append_assoc]
              rw [e2]
              exact .tup (hH _ _ ha (.inr trivial)) z
            · cases e
          · cases e
        · cases e
      · cases e
    | @lsk k a xs ds F hk0 ha rs =>
      unfold chg at e
      rw [if_neg hk0] at e
      split at e
      · rename_i ii
        split at e
        · rename_i j ej
          split at e
          · rename_i x ex
            split at e
            · rename_i y ey
              cases e
              obtain ⟨A, Fj, B, u, rfl, e1, o1, q⟩ := rs.at' ex
              obtain ⟨kn, dn, dn', vn, A2, Fn, B2, rfl, hk, hf, on, nav, q2⟩ := chg_ok r o1 ey
              refine ⟨kn, dn, dn', vn, a :: (A ++ A2), Fn, B2 ++ B, by simp [List.append_assoc], hk, hf, on, ⟨a, xs, ii, u, rfl, rfl, .inl ha, atI_of (by rw [rs.length]; exact ej) e1, nav⟩, fun S' H' Fn' o' hS hH hF => ?_⟩
              have z := q S' H' y u (A2 ++ Fn' ++ B2) (q2 S' H' Fn' o' hS hH fun b m => hF b (by simp only [List.mem_append, List.mem_cons] at m ⊢; rcases m with m | m <;> simp [m])) hS hH fun b m => hF b (by simp only [List.mem_append, List.mem_cons] at m ⊢; rcases m with m | m <;> simp [m])
              rw [set_same e1] at z
              have e2 : a :: (A ++ A2) ++ Fn' ++ (B2 ++ B) = a :: (A ++ (A2 ++ Fn' ++ B2) ++ B) := by simp [List.append_assoc]
              rw [e2]
              exact .lsk hk0 ((hF a (by simp)).trans ha) z
            · cases e
          · cases e
        · cases e
      · cases e
    | ls0 ha s rs =>
      unfold chg at e
      rw [if_pos rfl] at e
      cases e
    | _ => exact nomatch e
end

section
variable {K : PySem.W.Frag} {S0 : Addr → Prop} {H0 H H' : Hp} {F0 Gs : List Addr} {σ : St} {nv : Nv} {F : Nat → List Addr}
/-- the state behind a change at a place -/
theorem SR.mut (h : SR K S0 H0 F0 σ H nv F Gs) {i : Nat} {d d' : D} {k : Nat} {r : List D} {f : D → Nat → Option D} (e : nv[i]? = some (some (d, k))) (c : chg f r d k = some d') :
    ∃ v kn dn dn' vn Fn, σ[i]? = some (some v) ∧ kn ≠ 0 ∧ f dn kn = some dn' ∧ Ow K (Sh S0 H0 F0 F Gs) H kn vn dn Fn ∧ (∀ a ∈ Fn, a ∈ F i) ∧ Fn.Nodup ∧ NavD H r v vn ∧
      ∀ (H' : Hp) (Fn' Gs' : List Addr), (∀ a ∈ Gs', a ∈ Gs) → Gs'.Nodup → Fn'.Nodup → (∀ a ∈ Fn', (a ∈ Fn ∨ a ∈ Gs) ∧ a ∉ Gs') → (∀ a, a ∉ Fn → H' a = H a) → (∀ a ∈ Fn, ∃ o, H' a = some o ∧ ¬ Fix o) →
        (∀ S' : Addr → Prop, (∀ a, Sh S0 H0 F0 F Gs a → S' a) → (∀ a ∈ Fn, a ∉ Fn' → S' a) → (∀ a ∈ Gs, a ∉ Fn' → a ∉ Gs' → S' a) → Ow K S' H' kn vn dn' Fn') →
        ∃ F', SR K S0 H0 F0 σ H' (nv.set i (some (d', k))) F' Gs' ∧ Lt (Sh S0 H0 F0 F Gs) H (Sh S0 H0 F0 F' Gs') H' ∧ (∀ j a, a ∈ F' j → a ∈ F j ∨ a ∈ Gs) := by
  obtain ⟨v, ev, o⟩ := h.val i d k e
  obtain ⟨kn, dn, dn', vn, A, Fn, B, eF, hk, hf, on, nav, q⟩ := chg_ok r o c
  have nd := h.nd i
  rw [eF] at nd
  obtain ⟨nAF, nB, dAB⟩ := List.nodup_append.mp nd
  obtain ⟨nA, nF, dAF⟩ := List.nodup_append.mp nAF
  have hi : i < nv.length := (List.getElem?_eq_some_iff.mp e).1
  have inF : ∀ a ∈ Fn, a ∈ F i := fun a m => by rw [eF]; simp [m]
  have inA : ∀ a ∈ A ++ B, a ∈ F i := fun a m => by
    rw [eF]
    simp only [List.mem_append] at m ⊢
    rcases m with m | m <;> simp [m]
  have nAB : ∀ a ∈ A ++ B, a ∉ Fn := fun a m n => by
    rcases List.mem_append.mp m with m | m
    · exact dAF a m a n rfl
    · exact dAB a (List.mem_append_right _ n) a m rfl
  refine ⟨v, kn, dn, dn', vn, Fn, ev, hk, hf, on, inF, nF, nav, fun H' Fn' Gs' sub ng nF' hF' hH hFn ho => ?_⟩
  have memN : ∀ {a}, a ∈ A ++ Fn' ++ B → a ∈ F i ∨ a ∈ Gs := fun {a} m => by
    simp only [List.mem_append] at m
    rcases m with (m | m) | m
    · exact .inl (inA a (by simp [m]))
    · exact (hF' a m).1.imp (inF a) id
    · exact .inl (inA a (by simp [m]))
  have shF : ∀ a, Sh S0 H0 F0 F Gs a → a ∉ Fn := fun a s m => s.2.1 i (inF a m)
  have sh : ∀ a, Sh S0 H0 F0 F Gs a → Sh S0 H0 F0 (one i (A ++ Fn' ++ B) F) Gs' a := fun a s => ⟨s.1, fun j m => by
    rcases one_mem m with ⟨_, m⟩ | ⟨_, m⟩
    · exact (memN m).elim (s.2.1 i) s.2.2
    · exact s.2.1 j m, fun m => s.2.2 (sub a m)⟩
  have fixF : ∀ a o, H a = some o → Fix o → a ∉ Fn := fun a o z f m => by
    obtain ⟨u, w, nf⟩ := on.there a m
    rw [w] at z; cases z; exact nf f
  have kp : ∀ a o, H a = some o → Sh S0 H0 F0 F Gs a ∨ Fix o → H' a = some o := fun a o z s => (hH a (s.elim (shF a) (fixF a o z))).trans z
  have dropSh : ∀ a, (a ∈ Fn ∨ a ∈ Gs) → a ∉ Fn' → a ∉ Gs' → Sh S0 H0 F0 (one i (A ++ Fn' ++ B) F) Gs' a := fun a m n g => ⟨by
      rcases m with m | m
      · exact (h.ow i a (inF a m)).elim (fun z => .inr (.inl z)) fun z => .inr (.inr z)
      · exact .inr (.inl (h.ga a m).1), fun j mj => by
      rcases one_mem mj with ⟨_, mj⟩ | ⟨cj, mj⟩
      · simp only [List.mem_append] at mj
        rcases m with m | m
        · rcases mj with (mj | mj) | mj
          · exact nAB a (by simp [mj]) m
          · exact n mj
          · exact nAB a (by simp [mj]) m
        · rcases mj with (mj | mj) | mj
          · exact h.gd i a (inA a (by simp [mj])) m
          · exact n mj
          · exact h.gd i a (inA a (by simp [mj])) m
      · rcases m with m | m
        · exact cj (h.dj j i a mj (inF a m))
        · exact h.gd j a mj m, g⟩
  have onew := q _ H' Fn' (ho (Sh S0 H0 F0 (one i (A ++ Fn' ++ B) F) Gs') sh (fun a m n => dropSh a (.inl m) n fun g => h.gd i a (inF a m) (sub a g)) (fun a m n g => dropSh a (.inr m) n g)) (fun a _ _ s => sh a s) kp fun a m => hH a (nAB a m)
  have alH : ∀ a, H' a = none → H a = none := fun a n => by
    by_cases m : a ∈ Fn
    · obtain ⟨o, z, _⟩ := hFn a m
      rw [n] at z; cases z
    · rw [← hH a m]; exact n
  refine ⟨one i (A ++ Fn' ++ B) F, ⟨by rw [List.length_set]; exact h.len, fun j d2 k2 ej => ?_, fun j hn => ?_, fun j => ?_, fun j l a m1 m2 => ?_, ng, fun j a m g => ?_, fun a m => ?_, fun a o z n => ?_, fun a o z f => ?_, fun a n => h.al a (alH a n), fun j a m => ?_⟩, ⟨fun a _ _ s => sh a s, kp, alH⟩, fun j a m => ?_⟩
  · by_cases cj : j = i
    · subst cj
      rw [List.getElem?_set_self hi] at ej
      cases ej
      refine ⟨v, ev, ?_⟩
      rw [one_pos]
      exact onew
    · rw [List.getElem?_set_ne (Ne.symm cj)] at ej
      obtain ⟨w, e1, o1⟩ := h.val j d2 k2 ej
      refine ⟨w, e1, ?_⟩
      rw [one_neg cj]
      exact o1.mono (fun a _ _ s => sh a s) kp fun a m => hH a fun n => cj (h.dj j i a m (inF a n))
  · by_cases cj : j = i
    · subst cj
      exact absurd (List.getElem?_set_self hi) (hn d' k)
    · rw [one_neg cj]
      exact h.non j fun d2 k2 z => hn d2 k2 (by rw [List.getElem?_set_ne (Ne.symm cj)]; exact z)
  · by_cases cj : j = i
    · rw [cj, one_pos]
      refine List.nodup_append.mpr ⟨List.nodup_append.mpr ⟨nA, nF', fun a m b n z => ?_⟩, nB, fun a m b n z => ?_⟩
      · subst z
        rcases (hF' a n).1 with w | w
        · exact dAF a m a w rfl
        · exact h.gd i a (inA a (by simp [m])) w
      · subst z
        rcases List.mem_append.mp m with m | m
        · exact dAB a (List.mem_append_left _ m) a n rfl
        · rcases (hF' a m).1 with w | w
          · exact dAB a (List.mem_append_right _ w) a n rfl
          · exact h.gd i a (inA a (by simp [n])) w
    · rw [one_neg cj]; exact h.nd j
  · rcases one_mem m1 with ⟨c1, m1⟩ | ⟨c1, m1⟩
    · rcases one_mem m2 with ⟨c2, m2⟩ | ⟨c2, m2⟩
      · rw [c1, c2]
      · rcases memN m1 with m1 | m1
        · exact absurd (h.dj l i a m2 m1) c2
        · exact absurd m1 (h.gd l a m2)
    · rcases one_mem m2 with ⟨c2, m2⟩ | ⟨c2, m2⟩
      · rcases memN m2 with m2 | m2
        · exact absurd (h.dj j i a m1 m2) c1
        · exact absurd m2 (h.gd j a m1)
      · exact h.dj j l a m1 m2
  · rcases one_mem m with ⟨c1, m⟩ | ⟨c1, m⟩
    · simp only [List.mem_append] at m
      rcases m with (m | m) | m
      · exact h.gd i a (inA a (by simp [m])) (sub a g)
      · exact (hF' a m).2 g
      · exact h.gd i a (inA a (by simp [m])) (sub a g)
    · exact h.gd j a m (sub a g)
  · obtain ⟨z, o, w, nf⟩ := h.ga a (sub a m)
    exact ⟨z, o, (hH a fun n => h.gd i a (inF a n) (sub a m)).trans w, nf⟩
  · have w := h.fr a o z n
    refine (hH a fun m => ?_).trans w
    rcases h.ow i a (inF a m) with q | q
    · rw [q] at z; cases z
    · exact n q
  · have w := h.fx a o z f
    exact (hH a (fixF a o w f)).trans w
  · rcases one_mem m with ⟨c1, m⟩ | ⟨c1, m⟩
    · rcases memN m with m | m
      · exact h.ow i a m
      · exact .inl (h.ga a m).1
    · exact h.ow j a m
  · rcases one_mem m with ⟨c1, m⟩ | ⟨c1, m⟩
    · rw [c1]; exact memN m
    · exact .inl m
end
end PD

/-! PD13: statements. -/
namespace PD
open PySem L2
section
variable {X : Cx} {T : Tx} {sk : Sk} {Φ : PhiT} {K : PySem.W.Frag} {S0 : Addr → Prop} {H0 H H' : Hp} {F0 Gs : List Addr} {σ : St} {nv : Nv} {F : Nat → List Addr} {own : List Nat} {ret : Nat}

def Fin (K : PySem.W.Frag) (S0 : Addr → Prop) (H0 : Hp) (F0 : List Addr) (F : Nat → List Addr) (H : Hp) (D : Ends) : Out → Prop
  | .nx nv' => ∀ σ' H' F', SR K S0 H0 F0 σ' H' nv' F' [] → Lt (Sh S0 H0 F0 F []) H (Sh S0 H0 F0 F' []) H' → D.nx σ' H'
  | .bk nv' => ∀ σ' H' F', SR K S0 H0 F0 σ' H' nv' F' [] → Lt (Sh S0 H0 F0 F []) H (Sh S0 H0 F0 F' []) H' → D.bk σ' H'
  | .ct nv' => ∀ σ' H' F', SR K S0 H0 F0 σ' H' nv' F' [] → Lt (Sh S0 H0 F0 F []) H (Sh S0 H0 F0 F' []) H' → D.ct σ' H'
  | .rt _ d k => ∀ (v : V) (H' : Hp) (G : List Addr), (∀ a o, H0 a = some o → a ∉ F0 → H' a = some o) → G.Nodup → (∀ a ∈ G, H0 a = none ∨ a ∈ F0) → Ow K (fun a => Bs S0 H0 F0 a ∧ a ∉ G) H' k v d G → D.rt v H'
theorem Fin.lt {F' : Nat → List Addr} {D : Ends} {o : Out} (h : Fin K S0 H0 F0 F H D o) (l : Lt (Sh S0 H0 F0 F []) H (Sh S0 H0 F0 F' []) H') : Fin K S0 H0 F0 F' H' D o := by
  cases o with
  | nx nv' => exact fun σ2 H2 F2 s l2 => h σ2 H2 F2 s (l.trans l2)
  | bk nv' => exact fun σ2 H2 F2 s l2 => h σ2 H2 F2 s (l.trans l2)
  | ct nv' => exact fun σ2 H2 F2 s l2 => h σ2 H2 F2 s (l.trans l2)
  | rt nv' d k => exact h
def tS (K : PySem.W.Frag) (Φ : PhiT) (own : List Nat) (ret : Nat) (S0 : Addr → Prop) (H0 : Hp) (F0 : List Addr) (s : S) : TS := fun D σ H =>
  ∃ nv F o, SR K S0 H0 F0 σ H nv F [] ∧ exec Φ own ret s nv = some o ∧ Fin K S0 H0 F0 F H D o

theorem sS_skip {pos : Pos} : PS X (.Pass pos) (tS X.K Φ own ret S0 H0 F0 .skip) := ps_pass.weak fun D σ H ⟨nv, F, o, s, e, f⟩ => by
  cases e
  exact f σ H F s (Lt.refl _ _)
theorem sS_brk {pos : Pos} : PS X (.Break pos) (tS X.K Φ own ret S0 H0 F0 .brk) := ps_break.weak fun D σ H ⟨nv, F, o, s, e, f⟩ => by
  cases e
  exact f σ H F s (Lt.refl _ _)
theorem sS_cnt {pos : Pos} : PS X (.Continue pos) (tS X.K Φ own ret S0 H0 F0 .cnt) := ps_continue.weak fun D σ H ⟨nv, F, o, s, e, f⟩ => by
  cases e
  exact f σ H F s (Lt.refl _ _)
theorem sSs_nil : PSs X [] (tS X.K Φ own ret S0 H0 F0 .skip) := pss_nil.weak fun D σ H ⟨nv, F, o, s, e, f⟩ => by
  cases e
  exact f σ H F s (Lt.refl _ _)
theorem sSs_cons {st : Stmt} {r : List Stmt} {a b : S} (h1 : PS X st (tS X.K Φ own ret S0 H0 F0 a)) (h2 : PSs X r (tS X.K Φ own ret S0 H0 F0 b)) : PSs X (st :: r) (tS X.K Φ own ret S0 H0 F0 (.seq a b)) :=
  (pss_cons h1 h2).weak fun D σ H ⟨nv, F, o, s, e, f⟩ => by
    unfold exec at e
    split at e
    · rename_i nv1 e1
      exact ⟨nv, F, .nx nv1, s, e1, fun σ' H' F' s' l => ⟨nv1, F', o, s', e, f.lt l⟩⟩
    · rename_i hno
      cases o with
      | nx nv1 => exact absurd e (hno nv1)
      | bk nv1 => exact ⟨nv, F, .bk nv1, s, e, f⟩
      | ct nv1 => exact ⟨nv, F, .ct nv1, s, e, f⟩
      | rt nv1 d k => exact ⟨nv, F, .rt nv1 d k, s, e, f⟩
theorem SR.still (h : SR K S0 H0 F0 σ H nv F Gs) (e : Same H H') : SR K S0 H0 F0 σ H' nv F Gs := by
  have z := h.grow (G := []) e List.nodup_nil (fun _ m => (List.not_mem_nil m).elim) (fun _ m => (List.not_mem_nil m).elim)
  rw [List.append_nil] at z
  exact z
theorem sS_ite {c : Expr} {a b : List Stmt} {c' : E} {a' b' : S} {pos : Pos} (hc : PT X c (tT X.K Φ c')) (ha : PSs X a (tS X.K Φ own ret S0 H0 F0 a')) (hb : PSs X b (tS X.K Φ own ret S0 H0 F0 b')) : PS X (.If c a b pos) (tS X.K Φ own ret S0 H0 F0 (.ite c' a' b')) :=
  (ps_if hc ha hb).weak fun D σ H ⟨nv, F, o, s, e, f⟩ => by
    unfold exec condE at e
    split at e
    · rename_i t et
      split at et
      · rename_i d k ed
        refine ⟨_, nv, d, k, true, s.all (vars c'), s.se _, ed, et, fun H1 e1 => iteT ⟨nv, F, o, s.still e1, e, f.lt (Lt.same e1 fun _ _ _ z => z)⟩⟩
      · cases et
    · rename_i t et
      split at et
      · rename_i d k ed
        refine ⟨_, nv, d, k, false, s.all (vars c'), s.se _, ed, et, fun H1 e1 => iteF ⟨nv, F, o, s.still e1, e, f.lt (Lt.same e1 fun _ _ _ z => z)⟩⟩
      · cases et
    · cases e
theorem ow_ret {k : Nat} {v : V} {d : D} {G : List Addr} (o : Ow K (Sh S0 H0 F0 F Gs) H k v d G) (hG : ∀ a, Sh S0 H0 F0 F Gs a → a ∉ G) : Ow K (fun a => Bs S0 H0 F0 a ∧ a ∉ G) H k v d G :=
  o.mono (fun a _ _ s => ⟨s.1, hG a s⟩) (fun _ _ z _ => z) fun _ _ => rfl
/-- given back at a lesser depth -/
theorem Fin.give {En : Ends} {k : Nat} {d : D} {v : V} {G : List Addr} {nv' : Nv} {H1 : Hp} (f : Fin K S0 H0 F0 F H En (.rt nv' d ret)) (o : Ow K (fun a => Bs S0 H0 F0 a ∧ a ∉ G) H1 k v d G) (hk : ret ≤ k) (nd : G.Nodup) (hG : ∀ a ∈ G, H0 a = none ∨ a ∈ F0) (fr : ∀ a o, H0 a = some o → a ∉ F0 → H1 a = some o) : En.rt v H1 := by
  obtain ⟨G', sl, q⟩ := o.lower hk nd
  exact f v H1 G' fr (sl.nodup nd) (fun a m => hG a (sl.subset m)) (q _ (fun a s => ⟨s.1, fun m => s.2 (sl.subset m)⟩) fun a m n => ⟨(hG a m).elim (fun z => .inr (.inl z)) fun z => .inr (.inr z), n⟩)
theorem sS_ret {e : Expr} {e' : E} {pos : Pos} (he : PE X e (tE X.K Φ e')) : PS X (.Return (some e) pos) (tS X.K Φ own ret S0 H0 F0 (.ret e')) :=
  (ps_ret he).weak fun D σ H ⟨nv, F, o, s, e, f⟩ => by
    unfold exec at e
    split at e
    · rename_i d k ed
      split at e
      · rename_i hk
        cases e
        refine s.ev ed fun v H1 G F1 s1 e1 l1 sub o1 => ?_
        have gs : ([] ++ G) = G := List.nil_append G
        rw [gs] at s1 o1
        exact Fin.give f (ow_ret o1 fun a z => z.2.2) hk s1.gn (fun a m => .inl (s1.ga a m).1) s1.fr
      · cases e
    · cases e
theorem sS_retv (ok : XOk X T sk Φ) {x : Str} {i : Nat} {p pos : Pos} (h1 : isVis sk.sc x = true) (h2 : (x == ("__debug__" : Str)) = false) (h3 : (x == ("__classdict__" : Str)) = false) (hi : ixOf T.N x = some i) : PS X (.Return (some (.Name x p)) pos) (tS X.K Φ own ret S0 H0 F0 (.retv i)) :=
  (ps_ret (pe_var (ok.ix hi) (ok.vis h1) h2 h3)).weak fun D σ H ⟨nv, F, o, s, e, f⟩ => by
    unfold exec at e
    split at e
    · rename_i d k ed
      split at e
      · rename_i hk
        cases e
        obtain ⟨v, ev, o⟩ := s.val i d k ed
        exact ⟨v, ev, Fin.give f (ow_ret o.frk fun a z => z.2.1 i) hk (s.nd i) (fun a m => s.ow i a m) s.fr⟩
      · cases e
    · cases e
theorem sS_retN {pos : Pos} : PS X (.Return none pos) (tS X.K Φ own ret S0 H0 F0 .retN) := ps_retN.weak fun D σ H ⟨nv, F, o, s, e, f⟩ => by
  cases e
  exact f .non H [] s.fr List.nodup_nil (fun _ m => (List.not_mem_nil m).elim) (.non ret)
/-- a tuple's parts, by the values that the names hold -/
def tR : List RT → TA
  | [] => tNil
  | .c .non :: r => tCons (tC .non) (tR r)
  | .c (.bl b) :: r => tCons (tC (.bl b)) (tR r)
  | .c (.int i) :: r => tCons (tC (.int i)) (tR r)
  | .c (.str x) :: r => tCons (tC (.str x)) (tR r)
  | .c _ :: r => fun _ _ _ => False
  | .v i :: r => tCons (tVar i) (tR r)
theorem sR_tr (ok : XOk X T sk Φ) : ∀ {es : List Expr} {rs : List RT}, trR T sk es = some rs → PA X es (tR rs)
  | [], rs, h => by
    cases h
    exact pa_nil
  | e :: es, rs, h => by
    unfold trR at h
    split at h
    · rename_i z; cases z
    · rename_i z; cases z; obtain ⟨q, eq, rfl⟩ := map_some' h; exact pa_cons pe_non (sR_tr ok eq)
    · rename_i z; cases z; obtain ⟨q, eq, rfl⟩ := map_some' h; exact pa_cons pe_bl (sR_tr ok eq)
    · rename_i z; cases z; obtain ⟨q, eq, rfl⟩ := map_some' h; exact pa_cons pe_int (sR_tr ok eq)
    · rename_i z; cases z; obtain ⟨q, eq, rfl⟩ := map_some' h; exact pa_cons pe_str (sR_tr ok eq)
    · rename_i z; cases z
      split at h
      · rename_i c
        rw [Bool.and_eq_true, Bool.and_eq_true] at c
        split at h
        · rename_i i q ei eq
          cases h
          exact pa_cons (pe_var (ok.ix ei) (ok.vis c.1.1) (by simpa using c.1.2) (by simpa using c.2)) (sR_tr ok eq)
        · cases h
      · cases h
    · cases h
theorem mvR_read (s : SR K S0 H0 F0 σ H nv F Gs) {Q : List V → Hp → Prop} : ∀ {rs : List RT} {r : List (D × Nat)}, mvR rs nv = some r → (RT.slots rs).Nodup → (∀ vs G, OwA K (Sh S0 H0 F0 F Gs) H vs r G → G.Nodup → (∀ a ∈ G, ∃ i ∈ RT.slots rs, a ∈ F i) → Q vs H) → tR rs σ H Q
  | [], r, e, _, q => by
    cases e
    exact q [] [] .nil List.nodup_nil fun _ m => (List.not_mem_nil m).elim
  | .c d :: rs, r, e, nd, q => by
    unfold mvR at e
    split at e
    · rename_i hf
      split at e
      · rename_i q' eq
        cases e
        have go : ∀ v : V, Ow K (Sh S0 H0 F0 F Gs) H 8 v d [] → tR rs σ H fun vs H1 => Q (v :: vs) H1 := fun v o => mvR_read s (Q := fun vs H1 => Q (v :: vs) H1) eq nd fun vs G oa ng hG => q (v :: vs) ([] ++ G) (.cons o oa) (by simpa using ng) (fun a m => hG a (by simpa using m))
        cases d with
        | non => exact go .non (.non 8)
        | bl b => exact go (.bl b) (.bl 8 b)
        | int i => exact go (.int i) (.int 8 i)
        | str x => exact go (.str x) (.str 8 x)
        | _ => cases hf
      · cases e
    · cases e
  | .v i :: rs, r, e, nd, q => by
    unfold mvR at e
    split at e
    · rename_i d k ed
      split at e
      · rename_i q' eq
        cases e
        obtain ⟨n1, n2⟩ := List.nodup_cons.mp nd
        obtain ⟨v, ev, o⟩ := s.val i d k ed
        refine ⟨v, ev, mvR_read s (Q := fun vs H1 => Q (v :: vs) H1) eq n2 fun vs G oa ng hG => q (v :: vs) (F i ++ G) (.cons o.frk oa) (List.nodup_append.mpr ⟨s.nd i, ng, fun a m b n z => ?_⟩) fun a m => ?_⟩
        · subst z
          obtain ⟨j, mj, aj⟩ := hG a n
          exact n1 ((s.dj i j a m aj) ▸ mj)
        · rcases List.mem_append.mp m with m | m
          · exact ⟨i, List.mem_cons_self, m⟩
          · obtain ⟨j, mj, aj⟩ := hG a m
            exact ⟨j, List.mem_cons_of_mem _ mj, aj⟩
      · cases e
    · cases e
end
end PD

/-! PD14: assignments, changes, loops. -/
namespace PD
open PySem L2
section
variable {X : Cx} {T : Tx} {sk : Sk} {Φ : PhiT} {K : PySem.W.Frag} {S0 : Addr → Prop} {H0 H H' : Hp} {F0 Gs : List Addr} {σ : St} {nv : Nv} {F : Nat → List Addr} {own : List Nat} {ret : Nat}

theorem sS_rett (ok : XOk X T sk Φ) {es : List Expr} {rs : List RT} {n : Nat} {p pos : Pos} (h : trR T sk es = some rs) : PS X (.Return (some (.Tuple es n p)) pos) (tS X.K Φ own ret S0 H0 F0 (.rett rs)) :=
  (ps_ret (pe_tup (sR_tr ok h))).weak fun En σ H ⟨nv, F, o, s, e, f⟩ => by
    unfold exec at e
    split at e
    · rename_i r er
      split at e
      · rename_i c
        cases e
        rw [Bool.and_eq_true, Bool.and_eq_true] at c
        have hk : ret ≤ minK r := of_decide_eq_true c.2
        refine mvR_read s er (of_decide_eq_true c.1.1) fun vs G oa ng hG => ⟨by rw [oa.length]; exact small_le c.1.2, fun p hp => ?_⟩
        obtain ⟨G', sl, q⟩ := oa.lower hk ng
        have o' := q (fun a => Bs S0 H0 F0 a ∧ a ∉ G') (fun a z => ⟨z.1, fun m => by
          obtain ⟨j, _, mj⟩ := hG a (sl.subset m)
          exact z.2.1 j mj⟩) fun a m n => ⟨by
          obtain ⟨j, _, mj⟩ := hG a m
          exact (s.ow j a mj).elim (fun z => .inr (.inl z)) fun z => .inr (.inr z), n⟩
        refine f (.ref p) (upd H p (.tup vs)) G' (fun a o z n => same_new hp _ a o (s.fr a o z n)) (sl.nodup ng) (fun a m => ?_) (.tup upd_same (o'.same (same_new hp _)))
        obtain ⟨j, _, mj⟩ := hG a (sl.subset m)
        exact s.ow j a mj
      · cases e
    · cases e

/-- a value in the air, stored at a target -/
theorem T_read {t : Tg} {d : D} {k : Nat} {v : V} {nv' : Nv} (s : SR K S0 H0 F0 σ H nv F Gs) (o : Ow K (Sh S0 H0 F0 F Gs) H k v d Gs) (e : setT own t d k nv = some nv') {Q : St → Hp → Prop}
    (q : ∀ σ' F', SR K S0 H0 F0 σ' H nv' F' [] → (∀ a, Sh S0 H0 F0 F Gs a → Sh S0 H0 F0 F' [] a) → Q σ' H) : gOf K t v σ H Q := by
  have setV_inv : ∀ {i : Nat} {d : D} {k : Nat} {nv nv' : Nv}, setV own i d k nv = some nv' → own.getD i 0 ≤ k ∧ nv' = nv.set i (some (d, own.getD i 0)) := fun {i d k nv nv'} h => by
    unfold setV at h
    split at h
    · rename_i c
      exact ⟨c, (Option.some.inj h).symm⟩
    · cases h
  cases t with
  | one i =>
    obtain ⟨hk, rfl⟩ := setV_inv (show setV own i d k nv = some nv' from e)
    obtain ⟨F', s', sh, _⟩ := s.set (Gs' := []) o hk (fun a m => m) s.gn (fun _ m => (List.not_mem_nil m).elim) List.nodup_nil (fun _ _ => List.not_mem_nil)
    exact q _ F' s' sh
  | many is =>
    cases d with
    | tup ds =>
      have e : (if is.length = ds.length then setT.go own k is ds nv else none) = some nv' := e
      by_cases c : is.length = ds.length
      · rw [if_pos c] at e
        cases o with
        | tup ha rs =>
          rename_i a xs
          refine ⟨a, xs, rfl, SqT.of ha, by rw [rs.length, c], ?_⟩
          have key : ∀ (is : List Nat) (ds : List D) (xs : List V) (σ : St) (nv nv' : Nv) (F : Nat → List Addr) (Gs : List Addr), is.length = ds.length → SR K S0 H0 F0 σ H nv F Gs → Ows K (Sh S0 H0 F0 F Gs) H k xs ds Gs → setT.go own k is ds nv = some nv' →
              (∀ σ' F', SR K S0 H0 F0 σ' H nv' F' [] → (∀ a, Sh S0 H0 F0 F Gs a → Sh S0 H0 F0 F' [] a) → Q σ' H) → gNames is xs σ H Q := by
            intro is
            induction is with
            | nil =>
              intro ds xs σ nv nv' F Gs l s rs e q
              cases ds with
              | nil =>
                cases rs
                cases e
                exact ⟨rfl, q σ F s fun _ z => z⟩
              | cons _ _ => cases l
            | cons i is ih =>
              intro ds xs σ nv nv' F Gs l s rs e q
              cases ds with
              | nil => cases l
              | cons d ds =>
                cases rs with
                | cons h1 h2 =>
                  rename_i x xs F1 G1
                  unfold setT.go at e
                  split at e
                  · rename_i nv1 e1
                    obtain ⟨hk, rfl⟩ := setV_inv e1
                    obtain ⟨n1, n2, n3⟩ := List.nodup_append.mp s.gn
                    obtain ⟨F', s', sh, _⟩ := s.set (Gs' := G1) h1.frk hk (fun a m => List.mem_append_left _ m) n1 (fun a m => List.mem_append_right _ m) n2 (fun a m n => n3 a m a n rfl)
                    refine ⟨x, xs, rfl, ih ds xs _ _ nv' F' G1 (by simpa using l) s' (h2.mono (fun a _ _ z => sh a z) (fun _ _ z _ => z) fun _ _ => rfl) e fun σ2 F2 s2 sh2 => q σ2 F2 s2 fun a z => sh2 a (sh a z)⟩
                  · cases e
          exact key is ds xs σ nv nv' F Gs c s rs e q
      · rw [if_neg c] at e
        cases e
    | _ => exact nomatch e
theorem asg_read {t : Tg} {e : E} {En : Ends} (h : tS K Φ own ret S0 H0 F0 (.asg t e) En σ H) : tE K Φ e σ H fun x H1 => gOf K t x σ H1 En.nx := by
  obtain ⟨nv, F, o, s, e1, f⟩ := h
  unfold exec at e1
  split at e1
  · rename_i d k ed
    split at e1
    · rename_i nv1 es
      cases e1
      refine s.ev ed fun v H1 G F1 s1 e1 l1 sub o1 => ?_
      have gs : ([] ++ G) = G := List.nil_append G
      rw [gs] at s1 o1 l1
      exact T_read s1 o1 es fun σ' F' s' sh => f σ' H1 F' s' (l1.trans (Lt.same (Same.refl _) fun a _ _ z => sh a z))
    · cases e1
  · cases e1

/-! ### which store a comprehension's value goes by -/
theorem sw_no {e : Expr} {t : Option Expr} {l : Nat} {env : PySem.Env} (h : isComp e = false) : swapsWith e t l env = pure false := by
  cases e <;> first | rfl | cases h
theorem sw_lc {elt : Expr} {gs : List Comprehension} {scope : Scope} {pc py : Pos} {y : Str} {l : Nat} {env : PySem.Env} :
    swapsWith (.ListComp elt gs scope pc) (some (.Name y py)) l env = pure (env.blockKind == .function && env.kindOf y == some .local && py.line == pc.line && !(scope.names.any fun (n, k) => n == y && (k == .local || k == .cell))) := by
  unfold swapsWith
  rfl
theorem sS_set (ok : XOk X T sk Φ) {x : Str} {i : Nat} {e : Expr} {e' : E} {p pos : Pos} (hs : isStore sk x = true) (hi : ixOf T.N x = some i) (he : PE X e (tE X.K Φ e')) (hsw : swapsWith e (some (.Name x p)) pos.line X.env = pure false) :
    PS X (.Assign [.Name x p] e pos) (tS X.K Φ own ret S0 H0 F0 (.asg (.one i) e')) := by
  obtain ⟨l1, l2⟩ := ok.store hs
  exact (ps_set ok.ndX (ok.ix hi) l1 he hsw l2).weak fun En σ H h => asg_read h
theorem sS_many (ok : XOk X T sk Φ) {ts : List Expr} {is : List Nat} {e : Expr} {e' : E} {n : Nat} {p pos : Pos} (ht : trNames T sk ts = some is) (he : PE X e (tE X.K Φ e')) (hsw : swapsWithSole [.Tuple ts n p] e pos.line X.env = pure false) (hw : swappedStores [.Tuple ts n p] e X.env = pure none) :
    PS X (.Assign [.Tuple ts n p] e pos) (tS X.K Φ own ret S0 H0 F0 (.asg (.many is) e')) := by
  obtain ⟨h1, h2, h3⟩ := sG_names ok ht
  exact (ps_asg he (pg_tup ok.calm h1 h2 h3) hsw hw).weak fun En σ H h => asg_read h
theorem par_read {i j : Nat} {a b : E} {En : Ends} (h : tS K Φ own ret S0 H0 F0 (.par i j a b) En σ H) : tPar i j (tCons (tE K Φ a) (tCons (tE K Φ b) tNil)) En σ H := by
  obtain ⟨nv, F, o, s, e1, f⟩ := h
  unfold exec at e1
  split at e1
  · rename_i d k ed
    split at e1
    · rename_i d2 l ed2
      split at e1
      · rename_i nv1 es1
        split at e1
        · rename_i nv2 es2
          cases e1
          refine s.ev ed fun v H1 G1 F1 s1 e1 l1 sub1 o1 => ?_
          refine s1.ev ed2 fun w H2 G2 F2 s2 e2 l2 sub2 o2 => ⟨v, w, rfl, ?_⟩
          have g1 : ([] ++ G1) = G1 := List.nil_append G1
          rw [g1] at s1 o1 l1 s2 o2 l2
          obtain ⟨n1, n2, n3⟩ := List.nodup_append.mp s2.gn
          have o1' : Ow K (Sh S0 H0 F0 F2 (G1 ++ G2)) H2 k v d G1 := o1.mono l2.sh l2.kp fun a m => by
            obtain ⟨_, u, z, _⟩ := s1.ga a m
            rw [z, e2 a u z]
          unfold setV at es1
          split at es1
          · rename_i hk
            cases es1
            obtain ⟨F3, s3, sh3, _⟩ := s2.set (i := i) (Gs' := G2) o1' hk (fun a m => List.mem_append_left _ m) n1 (fun a m => List.mem_append_right _ m) n2 (fun a m n => n3 a m a n rfl)
            unfold setV at es2
            split at es2
            · rename_i hl
              cases es2
              obtain ⟨F4, s4, sh4, _⟩ := s3.set (i := j) (Gs' := []) (o2.mono (fun a _ _ z => sh3 a z) (fun _ _ z _ => z) fun _ _ => rfl) hl (fun a m => m) n2 (fun _ m => (List.not_mem_nil m).elim) List.nodup_nil (fun _ _ => List.not_mem_nil)
              exact f _ H2 F4 s4 ((l1.trans l2).trans (Lt.same (Same.refl _) fun a _ _ z => sh4 a (sh3 a z)))
            · cases es2
          · cases es1
        · cases e1
      · cases e1
    · cases e1
  · cases e1
end
end PD

/-! PD15: append, pop, a[i] = v. -/
namespace PD
open PySem L2
section
variable {X : Cx} {T : Tx} {sk : Sk} {Φ : PhiT} {K : PySem.W.Frag} {S0 : Addr → Prop} {H0 H H' : Hp} {F0 Gs : List Addr} {σ : St} {nv : Nv} {F : Nat → List Addr} {own : List Nat} {ret : Nat}

theorem Ow.lowerH {S : Addr → Prop} {k k' : Nat} {v : V} {d : D} {G : List Addr} (o : Ow K S H k v d G) (hk : k' ≤ k) (nd : G.Nodup) : ∃ G', G'.Sublist G ∧ ∀ (S' : Addr → Prop) (H' : Hp), (∀ a, S a → S' a) → (∀ a ∈ G, a ∉ G' → S' a) → (∀ a o, H a = some o → S a ∨ Fix o → H' a = some o) → (∀ a ∈ G, H' a = H a) → Ow K S' H' k' v d G' := by
  obtain ⟨G', sl, q⟩ := o.lower hk nd
  refine ⟨G', sl, fun S' H' h1 h2 h3 h4 => ?_⟩
  have z := q (fun a => S a ∨ (a ∈ G ∧ a ∉ G')) (fun a s => .inl s) fun a m n => .inr ⟨m, n⟩
  refine z.mono (fun a _ _ s => s.elim (h1 a) fun s => h2 a s.1 s.2) (fun a o e s => ?_) fun a m => h4 a (sl.subset m)
  rcases s with (s | s) | s
  · exact h3 a o e (.inl s)
  · rw [h4 a s.1]; exact e
  · exact h3 a o e (.inr s)
/-- a change of a list at a place -/
theorem SR.lst (s : SR K S0 H0 F0 σ H nv F Gs) {i : Nat} {d d' : D} {k : Nat} {r : List D} {f : D → Nat → Option D} (e : nv[i]? = some (some (d, k))) (c : chg f r d k = some d') (hf : ∀ x k y, f x k = some y → ∃ ds ds', x = .lst ds ∧ y = .lst ds') :
    ∃ v a kn xs ds ds' Fx, σ[i]? = some (some v) ∧ NavD H r v (.ref a) ∧ H a = some (.lst xs) ∧ kn ≠ 0 ∧ f (.lst ds) kn = some (.lst ds') ∧ Ows K (Sh S0 H0 F0 F Gs) H (dn kn) xs ds Fx ∧ (a :: Fx).Nodup ∧ (∀ b ∈ a :: Fx, b ∈ F i) ∧
      ∀ (xs' : List V) (Fx' Gs' : List Addr), (∀ b ∈ Gs', b ∈ Gs) → Gs'.Nodup → Fx'.Nodup → (∀ b ∈ Fx', (b ∈ Fx ∨ b ∈ Gs) ∧ b ∉ Gs') →
        (∀ (S' : Addr → Prop) (H' : Hp), (∀ b, Sh S0 H0 F0 F Gs b → S' b) → (∀ b ∈ Fx, b ∉ Fx' → S' b) → (∀ b ∈ Gs, b ∉ Fx' → b ∉ Gs' → S' b) → (∀ b o, H b = some o → Sh S0 H0 F0 F Gs b ∨ Fix o → H' b = some o) → (∀ b, b ≠ a → H' b = H b) → Ows K S' H' (dn kn) xs' ds' Fx') →
        ∃ F', SR K S0 H0 F0 σ (upd H a (.lst xs')) (nv.set i (some (d', k))) F' Gs' ∧ Lt (Sh S0 H0 F0 F Gs) H (Sh S0 H0 F0 F' Gs') (upd H a (.lst xs')) ∧ (∀ j a, a ∈ F' j → a ∈ F j ∨ a ∈ Gs) := by
  obtain ⟨v, kn, dn', dn2, vn, Fn, ev, hk, hfd, on, inF, nF, nav, q⟩ := s.mut e c
  obtain ⟨ds, ds', rfl, rfl⟩ := hf _ _ _ hfd
  cases on with
  | ls0 h _ _ => exact absurd rfl hk
  | @lsk _ a xs _ Fx _ ha rs =>
    refine ⟨v, a, kn, xs, ds, ds', Fx, ev, nav, ha, hk, hfd, rs, nF, inF, fun xs' Fx' Gs' sub ng nFx hFx ho => ?_⟩
    obtain ⟨naFx, _⟩ := List.nodup_cons.mp nF
    have aG : a ∉ Gs := s.gd i a (inF a List.mem_cons_self)
    have na : a ∉ Fx' := fun m => (hFx a m).1.elim naFx aG
    have ne : ∀ b, b ≠ a → upd H a (.lst xs') b = H b := fun b h => upd_ne h
    have kp : ∀ b o, H b = some o → Sh S0 H0 F0 F Gs b ∨ Fix o → upd H a (.lst xs') b = some o := fun b o z w => by
      rw [upd_ne]
      · exact z
      · rcases w with w | w
        · exact fun y => w.2.1 i (by rw [y]; exact inF a List.mem_cons_self)
        · exact fun y => by rw [y, ha] at z; cases z; exact w
    refine q (upd H a (.lst xs')) (a :: Fx') Gs' sub ng (List.nodup_cons.mpr ⟨na, nFx⟩) (fun b m => ?_) (fun b n => ne b fun y => n (by rw [y]; exact List.mem_cons_self)) (fun b m => ?_) fun S' h1 h2 h3 => .lsk hk upd_same (ho S' _ h1 (fun b m n => ?_) (fun b m n g => h3 b m (fun z => ?_) g) kp ne)
    · rcases List.mem_cons.mp m with y | m
      · exact ⟨.inl (by rw [y]; exact List.mem_cons_self), fun g => by rw [y] at g; exact aG (sub a g)⟩
      · exact ⟨(hFx b m).1.imp (List.mem_cons_of_mem _) id, (hFx b m).2⟩
    · rcases List.mem_cons.mp m with y | m
      · rw [y, upd_same]; exact ⟨_, rfl, id⟩
      · rw [upd_ne fun y => naFx (by rw [← y]; exact m)]
        exact rs.there b m
    · refine h2 b (List.mem_cons_of_mem _ m) fun z => ?_
      rcases List.mem_cons.mp z with y | z
      · exact naFx (by rw [← y]; exact m)
      · exact n z
    · rcases List.mem_cons.mp z with y | z
      · exact aG (by rw [← y]; exact m)
      · exact n z
/-- the way to a place is there before it is changed -/
theorem nav_of {S : Addr → Prop} {f : D → Nat → Option D} : ∀ (r : List D) {d d' : D} {k k2 : Nat} {v : V} {G : List Addr}, Ow K S H k v d G → chg f r d k2 = some d' → ∃ w kn dn dn' k3 G3, NavD H r v w ∧ f dn kn = some dn' ∧ Ow K S H k3 w dn G3
  | [], d, d', k, k2, v, G, o, e => by
    unfold chg at e
    split at e
    · cases e
    · exact ⟨v, k2, d, d', k, G, rfl, e, o⟩
  | i :: r, d, d', k, k2, v, G, o, e => by
    have core : ∀ {k : Nat} {a : Addr} {xs : List V} {ds : List D} {G : List Addr} {x : D} {ii : Int} {j : Nat} {k2 : Nat} {y : D}, (H a = some (.lst xs) ∨ H a = some (.tup xs)) → Ows K S H k xs ds G → L2.ixN ds.length ii = some j → ds[j]? = some x → chg f r x k2 = some y → ∃ w kn dn dn' k3 G3, NavD H (.int ii :: r) (.ref a) w ∧ f dn kn = some dn' ∧ Ow K S H k3 w dn G3 :=
      fun {k a xs ds G x ii j k2 y} ha rs ej ex ey => by
        obtain ⟨u, G', e1, o1, _⟩ := rs.get ex
        obtain ⟨w, kn, dn, dn', k3, G3, nav, hf, on⟩ := nav_of r o1 ey
        exact ⟨w, kn, dn, dn', k3, G3, ⟨a, xs, ii, u, rfl, rfl, ha, atI_of (by rw [rs.length]; exact ej) e1, nav⟩, hf, on⟩
    cases o with
    | tup ha rs =>
      unfold chg at e
      split at e
      · split at e
        · rename_i j ej
          split at e
          · rename_i x ex
            split at e
            · rename_i y ey
              exact core (.inr ha) rs ej ex ey
            · cases e
          · cases e
        · cases e
      · cases e
    | ls0 ha _ rs =>
      unfold chg at e
      split at e
      · cases e
      · split at e
        · split at e
          · rename_i j ej
            split at e
            · rename_i x ex
              split at e
              · rename_i y ey
                exact core (.inl ha) rs ej ex ey
              · cases e
            · cases e
          · cases e
        · cases e
    | lsk _ ha rs =>
      unfold chg at e
      split at e
      · cases e
      · split at e
        · split at e
          · rename_i j ej
            split at e
            · rename_i x ex
              split at e
              · rename_i y ey
                exact core (.inl ha) rs ej ex ey
              · cases e
            · cases e
          · cases e
        · cases e
    | _ => exact nomatch e
theorem esc_in {vs : List Nat} {x d : D} {k k1 : Nat} {i : Nat} (h : (esc nv vs d k)[i]? = some (some (x, k1))) : ∃ k', nv[i]? = some (some (x, k')) := by
  unfold esc at h
  split at h
  · split at h
    · exact ⟨k1, h⟩
    · exact (demote_in vs nv h).1
  · exact ⟨k1, h⟩
theorem chgR_inv {r : List D} {i : Nat} {f : D → Nat → Option D} {nv nv' : Nv} (h : chgR r i f nv = some nv') : ∃ d k d', nv[i]? = some (some (d, k)) ∧ chg f r d k = some d' ∧ nv' = nv.set i (some (d', k)) := by
  unfold chgR at h
  split at h
  · rename_i d k e
    split at h
    · rename_i d' e'
      exact ⟨d, k, d', e, e', (Option.some.inj h).symm⟩
    · cases h
  · cases h
theorem Ow.lstA {k : Nat} {S : Addr → Prop} {v : V} {ds : List D} {G : List Addr} (h : Ow K S H k v (.lst ds) G) : ∃ a xs, v = .ref a ∧ H a = some (.lst xs) := by
  cases h with
  | ls0 h _ _ => exact ⟨_, _, rfl, h⟩
  | lsk _ h _ => exact ⟨_, _, rfl, h⟩
/-- the way to a list that is to be changed, read -/
theorem path_read {p : Pth} {r : List D} {f : D → Nat → Option D} {d d' : D} {k k' : Nat} {Q : V → Hp → Prop} (s : SR K S0 H0 F0 σ H nv F Gs) (ep : pthD Φ nv p = some r) (ed : nv[p.root]? = some (some (d, k'))) (c : chg f r d k = some d') (hf : ∀ x k y, f x k = some y → ∃ ds ds', x = .lst ds ∧ y = .lst ds')
    (q : ∀ v a xs H1, Same H H1 → σ[p.root]? = some (some v) → NavD H1 r v (.ref a) → H1 a = some (.lst xs) → Q (.ref a) H1) : tP K Φ p σ H Q := by
  obtain ⟨v, ev, o⟩ := s.val _ _ _ ed
  obtain ⟨w, kn, dn', dn2, k3, G3, nav, hfd, on⟩ := nav_of r o c
  obtain ⟨ds, ds', rfl, rfl⟩ := hf _ _ _ hfd
  obtain ⟨a, xs, rfl, ha⟩ := on.lstA
  exact ⟨Sv S0 H0 F0 F Gs (pvars p), nv, r, v, _, s.all _, s.se _, ep, ev, nav, fun H1 e1 => q v a xs H1 e1 ev (nav.same e1) (e1 _ _ ha)⟩
theorem appD_inv {x z y : D} {kx k : Nat} (h : appD x kx z k = some y) : ∃ ds, z = .lst ds ∧ ds.length < sizeLine ∧ dn k ≤ kx ∧ y = .lst (ds ++ [x]) := by
  cases z with
  | lst xs =>
    have h : (if xs.length < sizeLine ∧ dn k ≤ kx then some (D.lst (xs ++ [x])) else none) = some y := h
    by_cases c : xs.length < sizeLine ∧ dn k ≤ kx
    · rw [if_pos c] at h
      exact ⟨xs, rfl, c.1, c.2, (Option.some.inj h).symm⟩
    · rw [if_neg c] at h
      cases h
  | _ => exact nomatch h
theorem putD_inv {i x z y : D} {kx k : Nat} (h : putD i x kx z k = some y) : ∃ ds n j, z = .lst ds ∧ i = .int n ∧ L2.ixN ds.length n = some j ∧ dn k ≤ kx ∧ y = .lst (ds.set j x) := by
  cases z with
  | lst xs =>
    cases i with
    | int n =>
      have h : (match L2.ixN xs.length n with | some j => if dn k ≤ kx then some (D.lst (xs.set j x)) else none | none => none) = some y := h
      cases q : L2.ixN xs.length n with
      | none => rw [q] at h; cases h
      | some j =>
        rw [q] at h
        have h : (if dn k ≤ kx then some (D.lst (xs.set j x)) else none) = some y := h
        by_cases c : dn k ≤ kx
        · rw [if_pos c] at h
          exact ⟨xs, n, j, rfl, rfl, q, c, (Option.some.inj h).symm⟩
        · rw [if_neg c] at h
          cases h
    | _ => exact nomatch h
  | _ => exact nomatch h
theorem popD_inv {z y : D} {k : Nat} (h : popD z k = some y) : ∃ ds, z = .lst ds ∧ ds ≠ [] ∧ y = .lst ds.dropLast := by
  cases z with
  | lst xs =>
    cases xs with
    | nil => exact nomatch h
    | cons x xs => exact ⟨x :: xs, rfl, List.cons_ne_nil _ _, (Option.some.inj h).symm⟩
  | _ => exact nomatch h

theorem app_read {p : Pth} {e : E} {En : Ends} (h : tS K Φ own ret S0 H0 F0 (.app p e) En σ H) : tP K Φ p σ H fun x H1 => tyV K "list" x H1 ∧ tE K Φ e σ H1 fun y H2 => rAppend x [y] H2 fun _ H3 => En.nx σ H3 := by
  obtain ⟨nv, F, o, s, e1, f⟩ := h
  unfold exec at e1
  split at e1
  · rename_i r er
    split at e1
    · rename_i d k ed
      split at e1
      · rename_i nv1 ec
        cases e1
        obtain ⟨d0, k0, d1, en, hc, rfl⟩ := chgR_inv ec
        obtain ⟨k', en'⟩ := esc_in en
        have hf : ∀ x k1 y, appD d k x k1 = some y → ∃ ds ds', x = .lst ds ∧ y = .lst ds' := fun x k1 y z => let ⟨ds, a, _, _, b⟩ := appD_inv z; ⟨ds, _, a, b⟩
        refine path_read s er en' hc hf fun v a xs H1 e1 ev nav ha => ⟨.inl ⟨rfl, xs, SqL.of ha⟩, ?_⟩
        refine (s.still e1).ev ed fun y H2 G F1 s1 e2 l1 sub o1 => ?_
        have gs : ([] ++ G) = G := List.nil_append G
        rw [gs] at s1 o1 l1
        obtain ⟨v2, a2, kn, xs2, ds, ds', Fx, ev2, nav2, ha2, hk, hfd, rs, nF, inF, fin⟩ := s1.lst en hc hf
        rw [ev] at ev2
        cases ev2
        have z := NavD.det (nav.same e2) nav2
        cases z
        obtain ⟨ds2, z1, z2, z3, z4⟩ := appD_inv hfd
        cases z1
        cases z4
        obtain ⟨naFx, nFx⟩ := List.nodup_cons.mp nF
        obtain ⟨G', sl, q⟩ := o1.lowerH z3 s1.gn
        have disj : ∀ b ∈ Fx, b ∉ G := fun b m n => s1.gd _ b (inF b (List.mem_cons_of_mem _ m)) n
        refine ⟨a, xs2, y, rfl, rfl, ha2, by rw [rs.length]; exact z2, ?_⟩
        have new : ∀ (S' : Addr → Prop) (H' : Hp), (∀ b, Sh S0 H0 F0 F1 G b → S' b) → (∀ b ∈ Fx, b ∉ Fx ++ G' → S' b) → (∀ b ∈ G, b ∉ Fx ++ G' → b ∉ ([] : List Addr) → S' b) → (∀ b o, H2 b = some o → Sh S0 H0 F0 F1 G b ∨ Fix o → H' b = some o) → (∀ b, b ≠ a → H' b = H2 b) → Ows K S' H' (dn kn) (xs2 ++ [y]) (ds ++ [d]) (Fx ++ G') := fun S' H' h1 h2 h3 h4 h5 =>
          Ows.snoc (q S' H' h1 (fun b m n => h3 b m (fun w => (List.mem_append.mp w).elim (fun w => disj b w m) n) List.not_mem_nil) h4 fun b m => h5 b fun w => s1.gd _ a (inF a List.mem_cons_self) (by rw [← w]; exact m))
            (rs.mono (fun b _ _ z => h1 b z) h4 fun b m => h5 b fun w => naFx (by rw [← w]; exact m))
        obtain ⟨F2, s2, l2, _⟩ := fin (xs2 ++ [y]) (Fx ++ G') [] (fun _ m => (List.not_mem_nil m).elim) List.nodup_nil (List.nodup_append.mpr ⟨nFx, sl.nodup s1.gn, fun b m c n w => disj b m (by rw [w]; exact sl.subset n)⟩)
          (fun b m => ⟨(List.mem_append.mp m).imp id fun n => sl.subset n, List.not_mem_nil⟩) new
        exact f σ _ F2 s2 ((Lt.same e1 fun _ _ _ z => z).trans (l1.trans l2))
      · cases e1
    · cases e1
  · cases e1
theorem Ows.last {S : Addr → Prop} {k : Nat} : ∀ {vs : List V} {ds : List D} {G : List Addr}, Ows K S H k vs ds G → ds ≠ [] → ∃ A B, G = A ++ B ∧ ∀ (S' : Addr → Prop) (H' : Hp), (∀ b, S b → S' b) → (∀ b o, H b = some o → S b ∨ Fix o → H' b = some o) → (∀ b ∈ A, H' b = H b) → Ows K S' H' k vs.dropLast ds.dropLast A
  | _, _, _, .nil _, h => absurd rfl h
  | _, _, _, .cons (v := v) (vs := vs) (d := d) (ds := ds) (F := F) (G := G) h r, _ => by
    cases r with
    | nil => exact ⟨[], F ++ [], rfl, fun S' H' _ _ _ => .nil k⟩
    | @cons _ v2 vs2 d2 ds2 F2 G2 h2 r2 =>
      have r' : Ows K S H k (v2 :: vs2) (d2 :: ds2) (F2 ++ G2) := .cons h2 r2
      obtain ⟨A, B, e, q⟩ := r'.last (List.cons_ne_nil _ _)
      refine ⟨F ++ A, B, by rw [e, List.append_assoc], fun S' H' hS hH hA => ?_⟩
      exact .cons (h.mono (fun b _ _ s => hS b s) hH fun b m => hA b (List.mem_append_left _ m)) (q S' H' hS hH fun b m => hA b (List.mem_append_right _ m))
theorem pop_read {p : Pth} {En : Ends} (h : tS K Φ own ret S0 H0 F0 (.pop none p) En σ H) : tP K Φ p σ H fun x H1 => tyV K "list" x H1 ∧ rPop x [] H1 fun _ H3 => En.nx σ H3 := by
  obtain ⟨nv, F, o, s, e1, f⟩ := h
  unfold exec at e1
  simp only at e1
  split at e1
  · rename_i r er
    split at e1
    · rename_i nv1 ec
      cases e1
      obtain ⟨d0, k0, d1, en, hc, rfl⟩ := chgR_inv ec
      have hf : ∀ x k1 y, popD x k1 = some y → ∃ ds ds', x = .lst ds ∧ y = .lst ds' := fun x k1 y z => let ⟨ds, a, _, b⟩ := popD_inv z; ⟨ds, _, a, b⟩
      refine path_read s er en hc hf fun v a xs H1 e1 ev nav ha => ⟨.inl ⟨rfl, xs, SqL.of ha⟩, ?_⟩
      have s1 := s.still e1
      obtain ⟨v2, a2, kn, xs2, ds, ds', Fx, ev2, nav2, ha2, hk, hfd, rs, nF, inF, fin⟩ := s1.lst en hc hf
      rw [ev] at ev2
      cases ev2
      have z := NavD.det nav nav2
      cases z
      obtain ⟨ds2, z1, z2, z4⟩ := popD_inv hfd
      cases z1
      cases z4
      obtain ⟨naFx, nFx⟩ := List.nodup_cons.mp nF
      obtain ⟨A, B, rfl, q⟩ := rs.last z2
      obtain ⟨nA, _, _⟩ := List.nodup_append.mp nFx
      have hx : xs2.length - 1 < xs2.length := by
        have := rs.length
        have : 0 < ds.length := List.length_pos_iff.mpr z2
        omega
      refine ⟨a, xs2, xs2[xs2.length - 1], rfl, rfl, ha2, List.getElem?_eq_getElem hx, ?_⟩
      obtain ⟨F2, s2, l2, _⟩ := fin xs2.dropLast A [] (fun _ m => (List.not_mem_nil m).elim) List.nodup_nil nA (fun b m => ⟨.inl (List.mem_append_left _ m), List.not_mem_nil⟩)
        (fun S' H' h1 h2 h3 h4 h5 => q S' H' h1 h4 fun b m => h5 b fun w => naFx (by rw [← w]; exact List.mem_append_left _ m))
      exact f σ _ F2 s2 ((Lt.same e1 fun _ _ _ z => z).trans l2)
    · cases e1
  · cases e1
/-- one store at a place: v in the air (owned Gv, the rest Gr stays in the air) -/
theorem put_core {p : Pth} {i : E} {r : List D} {dx : D} {kx : Nat} {x : D} {kd : Nat} {v : V} {nv' : Nv} {Gv Gr : List Addr} {Q : Hp → Prop} (s : SR K S0 H0 F0 σ H nv F (Gv ++ Gr)) (o : Ow K (Sh S0 H0 F0 F (Gv ++ Gr)) H kd v dx Gv)
    (er : pthD Φ nv p = some r) (ei : evalE Φ i nv = some (x, kx)) (ec : chgR r p.root (putD x dx kd) nv = some nv')
    (q : ∀ H' F', SR K S0 H0 F0 σ H' nv' F' Gr → Lt (Sh S0 H0 F0 F (Gv ++ Gr)) H (Sh S0 H0 F0 F' Gr) H' → (∀ a ∈ Gr, H' a = H a) → Q H') : tP K Φ p σ H fun ov H1 => tE K Φ i σ H1 fun iv H2 => rSetL ov iv v H2 Q := by
  obtain ⟨d0, k0, d1, en, hc, rfl⟩ := chgR_inv ec
  have hf : ∀ z k1 y, putD x dx kd z k1 = some y → ∃ ds ds', z = .lst ds ∧ y = .lst ds' := fun z k1 y w => let ⟨ds, _, _, a, _, _, _, b⟩ := putD_inv w; ⟨ds, _, a, b⟩
  refine path_read s er en hc hf fun v0 a xs H1 e1 ev nav ha => ?_
  refine tE_one (Same.all e1 (s.all (vars i))) ((s.se (vars i)).same e1) ei fun iv H2 e2 A2 o2 => ?_
  have e12 := e1.trans e2
  have s1 := s.still e12
  obtain ⟨v2, a2, kn, xs2, ds, ds', Fx, ev2, nav2, ha2, hk, hfd, rs, nF, inF, fin⟩ := s1.lst en hc hf
  rw [ev] at ev2
  cases ev2
  have z := NavD.det (nav.same e2) nav2
  cases z
  obtain ⟨ds2, n, j, z1, z2, z3, z4, z5⟩ := putD_inv hfd
  cases z1
  cases z5
  subst z2
  cases o2.intI
  obtain ⟨naFx, nFx⟩ := List.nodup_cons.mp nF
  obtain ⟨gnv, gnr, gd⟩ := List.nodup_append.mp s1.gn
  have hj : j < ds.length := (ixN_seq z3).2.1
  obtain ⟨A, Fj, B, u, rfl, eu, ou, qa⟩ := rs.at' (List.getElem?_eq_getElem hj)
  have o1 : Ow K (Sh S0 H0 F0 F (Gv ++ Gr)) H2 kd v dx Gv := o.same e12
  obtain ⟨G', sl, ql⟩ := o1.lowerH z4 gnv
  have disj : ∀ b ∈ A ++ Fj ++ B, b ∉ Gv ++ Gr := fun b m n => s1.gd _ b (inF b (List.mem_cons_of_mem _ m)) n
  have inAB : ∀ b ∈ A ++ B, b ∈ A ++ Fj ++ B := fun b m => by
    simp only [List.mem_append] at m ⊢
    rcases m with m | m <;> simp [m]
  obtain ⟨nAF, nB, dAB⟩ := List.nodup_append.mp nFx
  obtain ⟨nA, nFj, dAF⟩ := List.nodup_append.mp nAF
  have memN : ∀ {b}, b ∈ A ++ G' ++ B → b ∈ A ++ B ∨ b ∈ G' := fun {b} m => by
    simp only [List.mem_append] at m ⊢
    rcases m with (m | m) | m <;> simp [m]
  refine ⟨a, xs2, n, j, rfl, rfl, ha2, by rw [rs.length]; exact z3, ?_⟩
  have new : ∀ (S' : Addr → Prop) (H' : Hp), (∀ b, Sh S0 H0 F0 F (Gv ++ Gr) b → S' b) → (∀ b ∈ A ++ Fj ++ B, b ∉ A ++ G' ++ B → S' b) → (∀ b ∈ Gv ++ Gr, b ∉ A ++ G' ++ B → b ∉ Gr → S' b) → (∀ b o, H2 b = some o → Sh S0 H0 F0 F (Gv ++ Gr) b ∨ Fix o → H' b = some o) → (∀ b, b ≠ a → H' b = H2 b) → Ows K S' H' (dn kn) (xs2.set j v) (ds.set j dx) (A ++ G' ++ B) := fun S' H' h1 h2 h3 h4 h5 =>
    qa S' H' dx v G' (ql S' H' h1 (fun b m n => h3 b (List.mem_append_left _ m) (fun w => (memN w).elim (fun w => disj b (inAB b w) (List.mem_append_left _ m)) n) fun w => gd b m b w rfl) h4 fun b m => h5 b fun w => s1.gd _ a (inF a List.mem_cons_self) (by rw [← w]; exact List.mem_append_left _ m))
      (fun b _ _ z => h1 b z) h4 fun b m => h5 b fun w => naFx (by rw [← w]; exact inAB b m)
  obtain ⟨F2, s2, l2, _⟩ := fin (xs2.set j v) (A ++ G' ++ B) Gr (fun b m => List.mem_append_right _ m) gnr
    (List.nodup_append.mpr ⟨List.nodup_append.mpr ⟨nA, sl.nodup gnv, fun b m c n w => disj b (by simp [m]) (by rw [w]; exact List.mem_append_left _ (sl.subset n))⟩, nB, fun b m c n w => by
      rcases List.mem_append.mp m with m | m
      · exact dAB b (List.mem_append_left _ m) c n w
      · exact disj c (by simp [n]) (by rw [← w]; exact List.mem_append_left _ (sl.subset m))⟩)
    (fun b m => (memN m).elim (fun m => ⟨.inl (inAB b m), fun w => disj b (inAB b m) (List.mem_append_right _ w)⟩) fun m => ⟨.inr (List.mem_append_left _ (sl.subset m)), fun w => gd b (sl.subset m) b w rfl⟩) new
  refine q _ F2 s2 ((Lt.same e12 fun _ _ _ z => z).trans l2) fun b m => ?_
  rw [upd_ne fun w => s1.gd _ a (inF a List.mem_cons_self) (by rw [← w]; exact List.mem_append_right _ m)]
  obtain ⟨_, u2, w, _⟩ := s.ga b (List.mem_append_right _ m)
  rw [w, e12 b u2 w]
theorem put_read {p : Pth} {i e : E} {En : Ends} (h : tS K Φ own ret S0 H0 F0 (.put p i e) En σ H) : tE K Φ e σ H fun v H1 => tP K Φ p σ H1 fun ov H2 => tE K Φ i σ H2 fun iv H3 => rSetL ov iv v H3 fun H4 => En.nx σ H4 := by
  obtain ⟨nv, F, o, s, e1, f⟩ := h
  unfold exec at e1
  split at e1
  · rename_i d k ed
    split at e1
    · rename_i r er
      split at e1
      · rename_i x kx ei
        split at e1
        · rename_i nv1 ec
          cases e1
          refine s.ev ed fun v H1 G F1 s1 e2 l1 sub o1 => ?_
          have gs : ([] ++ G) = G ++ [] := by simp
          rw [gs] at s1 o1 l1
          exact put_core s1 o1 er ei ec fun H' F' s2 l2 _ => f σ H' F' s2 (l1.trans l2)
        · cases e1
      · cases e1
    · cases e1
  · cases e1
theorem put2_read {p q : Pth} {i j e : E} {En : Ends} (h : tS K Φ own ret S0 H0 F0 (.put2 p i q j e) En σ H) : tE K Φ e σ H fun v H1 => gTup K 2 (gCons (gSub (tP K Φ p) (tE K Φ i) rSetL) (gCons (gSub (tP K Φ q) (tE K Φ j) rSetL) gNil)) v σ H1 En.nx := by
  obtain ⟨nv, F, o, s, e1, f⟩ := h
  unfold exec at e1
  split at e1
  · rename_i d d' k ed
    split at e1
    · rename_i r er
      split at e1
      · rename_i x kx ei
        split at e1
        · rename_i nv1 ec
          split at e1
          · rename_i r' er'
            split at e1
            · rename_i y ky ej
              split at e1
              · rename_i nv2 ec2
                cases e1
                refine s.ev ed fun v H1 G F1 s1 e2 l1 sub o1 => ?_
                have gs : ([] ++ G) = G := List.nil_append G
                rw [gs] at s1 o1 l1
                cases o1 with
                | @tup _ a xs _ _ ha rs =>
                  cases rs with
                  | @cons _ v1 vs1 _ _ G1 G2' h1 r1 =>
                    cases r1 with
                    | @cons _ v2 vs2 _ _ G2 G3 h2 r2 =>
                      cases r2
                      rw [List.append_nil] at s1 h1 h2 l1
                      refine ⟨a, [v1, v2], rfl, SqT.of ha, rfl, v1, [v2], rfl, ?_⟩
                      refine put_core s1 h1 er ei ec fun H2 F2 s2 l2 keep => ?_
                      refine ⟨v2, [], rfl, ?_⟩
                      have gs2 : G2 = G2 ++ [] := by simp
                      have h2' : Ow K (Sh S0 H0 F0 F2 G2) H2 k v2 d' G2 := h2.mono l2.sh l2.kp keep
                      rw [gs2] at s2 l2
                      refine put_core s2 (by rw [← gs2]; exact h2') er' ej ec2 fun H3 F3 s3 l3 _ => ?_
                      have l23 := l2.trans l3
                      rw [List.append_nil] at l23
                      exact ⟨rfl, f σ H3 F3 s3 (l1.trans l23)⟩
              · cases e1
            · cases e1
          · cases e1
        · cases e1
      · cases e1
    · cases e1
  · cases e1
end
end PD

/-! PD16: loops; the statements, assembled. -/
namespace PD
open PySem L2
section
variable {X : Cx} {T : Tx} {sk : Sk} {Φ : PhiT} {K : PySem.W.Frag} {S0 : Addr → Prop} {H0 H H' : Hp} {F0 Gs : List Addr} {σ : St} {nv : Nv} {F : Nat → List Addr} {own : List Nat} {ret : Nat}

theorem SR.esc0 (s : SR K S0 H0 F0 σ H nv F Gs) (vs : List Nat) : ∃ F', SR K S0 H0 F0 σ H (PD.esc0 nv vs) F' Gs ∧ (∀ a, Sv S0 H0 F0 F Gs vs a → Sh S0 H0 F0 F' Gs a) ∧ (∀ a, Sh S0 H0 F0 F Gs a → Sh S0 H0 F0 F' Gs a) := by
  unfold PD.esc0
  by_cases c : vs.any (ownd nv) = true
  · rw [if_pos c]
    exact ⟨emp vs F, s.demote vs, fun a z => ⟨z.1, fun i m => z.2.1 i (emp_mem m).1 (emp_mem m).2, z.2.2⟩, fun a z => ⟨z.1, fun i m => z.2.1 i (emp_mem m).2, z.2.2⟩⟩
  · rw [if_neg c]
    refine ⟨F, s, fun a z => ⟨z.1, fun i m => ?_, z.2.2⟩, fun a z => z⟩
    by_cases ci : i ∈ vs
    · have e : F i = [] := by
        by_cases cc : ∃ d k, nv[i]? = some (some (d, k))
        · obtain ⟨d', k', ee⟩ := cc
          have hk : k' = 0 := by
            have nn : ownd nv i ≠ true := fun w => c (List.any_eq_true.mpr ⟨i, ci, w⟩)
            unfold ownd at nn
            rw [ee] at nn
            by_cases z0 : k' = 0
            · exact z0
            · exact absurd (decide_eq_true z0) nn
          subst hk
          exact s.shared0 ee
        · exact s.non i fun d k e => cc ⟨d, k, e⟩
      rw [e] at m
      exact (List.not_mem_nil m).elim
    · exact z.2.1 i ci m
theorem forL_cons {body : Nv → Option Out} {bnd : D → Nv → Option Nv} {d : D} {ds : List D} {nv : Nv} {o : Out} (h : forL body bnd (d :: ds) nv = some o) : ∃ nv1 ob, bnd d nv = some nv1 ∧ body nv1 = some ob ∧ (match ob with
    | .nx nv2 => forL body bnd ds nv2 = some o
    | .ct nv2 => forL body bnd ds nv2 = some o
    | .bk nv2 => o = .nx nv2
    | .rt nv2 d k => o = .rt nv2 d k) := by
  unfold forL at h
  split at h
  · cases h
  · rename_i nv1 e1
    split at h
    · rename_i nv2 e2; exact ⟨nv1, _, e1, e2, h⟩
    · rename_i nv2 e2; exact ⟨nv1, _, e1, e2, h⟩
    · rename_i nv2 e2; exact ⟨nv1, _, e1, e2, (Option.some.inj h).symm⟩
    · rename_i nv2 d k e2; exact ⟨nv1, _, e1, e2, (Option.some.inj h).symm⟩
    · cases h
/-- the end of a body's turn -/
theorem turn_fin {En : Ends} {ob o : Out} {F1 : Nat → List Addr} {H1 : Hp} {N : St → Hp → Prop} {P : Nv → Prop} (f : Fin K S0 H0 F0 F H En o) (l : Lt (Sh S0 H0 F0 F []) H (Sh S0 H0 F0 F1 []) H1)
    (hb : match ob with | .nx nv2 => P nv2 | .ct nv2 => P nv2 | .bk nv2 => o = .nx nv2 | .rt nv2 d k => o = .rt nv2 d k)
    (n : ∀ nv2 σ2 H2 F2, P nv2 → SR K S0 H0 F0 σ2 H2 nv2 F2 [] → Lt (Sh S0 H0 F0 F1 []) H1 (Sh S0 H0 F0 F2 []) H2 → N σ2 H2) : Fin K S0 H0 F0 F1 H1 { En with nx := N, ct := N, bk := En.nx } ob := by
  cases ob with
  | nx nv2 => exact fun σ2 H2 F2 s l2 => n nv2 σ2 H2 F2 hb s l2
  | ct nv2 => exact fun σ2 H2 F2 s l2 => n nv2 σ2 H2 F2 hb s l2
  | bk nv2 =>
    have hb : o = .nx nv2 := hb
    subst hb
    exact fun σ2 H2 F2 s l2 => f σ2 H2 F2 s (l.trans l2)
  | rt nv2 d k =>
    have hb : o = .rt nv2 d k := hb
    subst hb
    exact f
theorem for_read {t : Tg} {ik : Itk} {it : Es} {b : S} {En : Ends} (h : tS K Φ own ret S0 H0 F0 (.fr t ik it b) En σ H) : tFor (tI K Φ ik it) (gOf K t) (tS K Φ own ret S0 H0 F0 b) En σ H := by
  obtain ⟨nv, F, o, s, e, f⟩ := h
  unfold exec at e
  split at e
  · rename_i r er
    split at e
    · rename_i ds ei
      refine ⟨Sv S0 H0 F0 F [] (varsS it), nv, r, ds, s.all _, s.se _, er, ei, fun J H1 vs e1 go => ?_⟩
      -- the names behind the source
      obtain ⟨F1, s1, hv, hsh⟩ : ∃ F1, SR K S0 H0 F0 σ H1 (if isRng ik then nv else PD.esc0 nv (varsS it)) F1 [] ∧ (isRng ik = true ∨ ∀ a, Sv S0 H0 F0 F [] (varsS it) a → Sh S0 H0 F0 F1 [] a) ∧ (∀ a, Sh S0 H0 F0 F [] a → Sh S0 H0 F0 F1 [] a) := by
        by_cases c : isRng ik = true
        · rw [if_pos c]
          exact ⟨F, s.still e1, .inl c, fun a z => z⟩
        · rw [if_neg c]
          obtain ⟨F1, s1, h1, h2⟩ := (s.still e1).esc0 (varsS it)
          exact ⟨F1, s1, .inr h1, h2⟩
      obtain ⟨g, o0⟩ := go (Sh S0 H0 F0 F1 []) hv
      have l1 : Lt (Sh S0 H0 F0 F []) H (Sh S0 H0 F0 F1 []) H1 := Lt.same e1 fun a _ _ z => hsh a z
      let W : Nat → Nat → St → Hp → Prop := fun i m σ' H' => m = ds.length - i ∧ i ≤ ds.length ∧ ∃ nv' F', SR K S0 H0 F0 σ' H' nv' F' [] ∧ Lt (Sh S0 H0 F0 F1 []) H1 (Sh S0 H0 F0 F' []) H' ∧ forL (exec Φ own ret b) (fun d σ => setT own t d (fr d 0) σ) (ds.drop i) nv' = some o
      refine ⟨W, ⟨ds.length, rfl, Nat.zero_le _, _, F1, s1, Lt.refl _ _, e⟩, fun i m σ' H' ⟨em, hi, nv', F', s', l', ef⟩ => ?_⟩
      by_cases hlt : i < ds.length
      · rw [drop_of hlt] at ef
        obtain ⟨nv2, ob, eb, ebody, hob⟩ := forL_cons ef
        refine .inr ⟨g.go H' l'.kp i (by rw [o0.length]; exact hlt), W (i + 1) (ds.length - (i + 1)), fun σ2 H2 n => ⟨ds.length - (i + 1), by omega, n⟩, fun x H3 y => ?_⟩
        obtain ⟨rfl, gx⟩ := g.yld H' l'.kp i x H3 y
        have gx := gx (by rw [o0.length]; exact hlt)
        obtain ⟨x', gx', ox⟩ := o0.get0 (List.getElem?_eq_getElem hlt)
        rw [gx] at gx'
        cases gx'
        have ox' : Ow K (Sh S0 H0 F0 F' []) H3 (fr ds[i] 0) x ds[i] [] := (ox.mono l'.sh l'.kp fun _ m => (List.not_mem_nil m).elim).frk
        refine T_read s' ox' eb fun σ2 F2 s2 sh2 => ⟨nv2, F2, ob, s2, ebody, ?_⟩
        have l2 : Lt (Sh S0 H0 F0 F1 []) H1 (Sh S0 H0 F0 F2 []) H3 := l'.trans (Lt.same (Same.refl _) fun a _ _ z => sh2 a z)
        exact turn_fin (P := fun nv3 => forL (exec Φ own ret b) (fun d σ => setT own t d (fr d 0) σ) (ds.drop (i + 1)) nv3 = some o) f (l1.trans l2) hob fun nv3 σ3 H4 F3 ef3 s3 l3 => ⟨rfl, hlt, nv3, F3, s3, l2.trans l3, ef3⟩
      · have ee : i = ds.length := by omega
        subst ee
        rw [List.drop_length] at ef
        cases ef
        exact .inl ⟨g.stop H' l'.kp _ (by rw [o0.length]; exact Nat.le_refl _), f σ' H' F' s' (l1.trans l')⟩
    · cases e
  · cases e
theorem whl_succ {cond : Nv → Option Bool} {body : Nv → Option Out} {n : Nat} {nv : Nv} {o : Out} (h : whlL cond body (n + 1) nv = some o) : (cond nv = some false ∧ o = .nx nv) ∨ (cond nv = some true ∧ ∃ ob, body nv = some ob ∧ (match ob with
    | .nx nv2 => whlL cond body n nv2 = some o
    | .ct nv2 => whlL cond body n nv2 = some o
    | .bk nv2 => o = .nx nv2
    | .rt nv2 d k => o = .rt nv2 d k)) := by
  unfold whlL at h
  split at h
  · rename_i ec
    right
    split at h
    · rename_i nv2 e2; exact ⟨ec, _, e2, h⟩
    · rename_i nv2 e2; exact ⟨ec, _, e2, h⟩
    · rename_i nv2 e2; exact ⟨ec, _, e2, (Option.some.inj h).symm⟩
    · rename_i nv2 d k e2; exact ⟨ec, _, e2, (Option.some.inj h).symm⟩
    · cases h
  · rename_i ec
    exact .inl ⟨ec, (Option.some.inj h).symm⟩
  · cases h
theorem whl_read {c : E} {b : S} {En : Ends} (h : tS K Φ own ret S0 H0 F0 (.whl c b) En σ H) : tWhile (tT K Φ c) (tS K Φ own ret S0 H0 F0 b) En σ H := by
  obtain ⟨nv, F, o, s, e, f⟩ := h
  have e : whlL (condE Φ c) (exec Φ own ret b) FUEL nv = some o := e
  let W : Nat → St → Hp → Prop := fun m σ' H' => ∃ nv' F', SR K S0 H0 F0 σ' H' nv' F' [] ∧ Lt (Sh S0 H0 F0 F []) H (Sh S0 H0 F0 F' []) H' ∧ whlL (condE Φ c) (exec Φ own ret b) m nv' = some o
  refine ⟨W, ⟨FUEL, nv, F, s, Lt.refl _ _, e⟩, fun m σ' H' ⟨nv', F', s', l', ef⟩ => ?_⟩
  cases m with
  | zero => cases ef
  | succ n =>
    have condr : ∀ {b : Bool}, condE Φ c nv' = some b → ∀ {Q : Bool → Hp → Prop}, (∀ H2, Same H' H2 → Q b H2) → tT K Φ c σ' H' Q := fun {b} eb {Q} q => by
      unfold condE at eb
      split at eb
      · rename_i d k ed
        exact ⟨_, nv', d, k, b, s'.all (vars c), s'.se _, ed, eb, q⟩
      · cases eb
    rcases whl_succ ef with ⟨ec, rfl⟩ | ⟨ec, ob, eb, hob⟩
    · exact condr ec fun H2 e2 => iteF (f σ' H2 F' (s'.still e2) (l'.trans (Lt.same e2 fun _ _ _ z => z)))
    · refine condr ec fun H2 e2 => iteT ?_
      have l2 : Lt (Sh S0 H0 F0 F []) H (Sh S0 H0 F0 F' []) H2 := l'.trans (Lt.same e2 fun _ _ _ z => z)
      refine ⟨W n, fun σ3 H3 n3 => ⟨n, Nat.lt_succ_self n, n3⟩, nv', F', ob, s'.still e2, eb, ?_⟩
      exact turn_fin (P := fun nv3 => whlL (condE Φ c) (exec Φ own ret b) n nv3 = some o) f l2 hob fun nv3 σ3 H4 F3 ef3 s3 l3 => ⟨nv3, F3, s3, l2.trans l3, ef3⟩
end
end PD

/-! PD17: the statements, assembled. -/
namespace PD
open PySem L2

theorem blockK {env : PySem.Env} (h : env.scope.kind = .function) : env.blockKind = .function := by
  unfold Env.blockKind
  rw [h]
  rfl
theorem noStar {e : Expr} (h : okArg e = true) : (match e with | .Starred .. => true | _ => false) = false := by
  cases e <;> first | rfl | cases h
theorem swp_par {env : PySem.Env} {x y : Str} {px py pt pt2 : Pos} {kt k2 : Nat} {a b : Expr} (hk : env.scope.kind = .function) (hx : env.scope.names.lookup x = some .local) (hy : env.scope.names.lookup y = some .local) (hl : (px.line == py.line) = true) (hn : x ≠ y)
    (ha : okArg a = true) (hb : okArg b = true) (hf : [a, b].all (foldedForSure 8) = false) (hc : [a, b].all (constantsAlone 8) = false) :
    swappedStores [.Tuple [.Name x px, .Name y py] kt pt] (.Tuple [a, b] k2 pt2) env = pure (some [x, y]) := by
  have kx : env.kindOf x = some .local := hx
  have ky : env.kindOf y = some .local := hy
  have hl' : (py.line == px.line) = true := by rw [beq_iff_eq] at hl ⊢; exact hl.symm
  have e1 : (x == y) = false := by rw [beq_eq_false_iff_ne]; exact hn
  have e2 : (y == x) = false := by rw [beq_eq_false_iff_ne]; exact Ne.symm hn
  unfold swappedStores
  simp only [blockK hk, List.any_cons, List.any_nil, noStar ha, noStar hb, Expr.pos, List.head?_cons, Option.map_some, Option.getD_some, List.filterMap_cons, List.filterMap_nil, kx, ky, hl', beq_self_eq_true, Bool.and_self, hf, hc]
  simp [List.eraseDups, List.eraseDupsBy, List.eraseDupsBy.loop, e1, e2]
  intro h
  exfalso
  rcases h with h | h
  · cases a <;> first | (cases h; done) | (cases ha; done)
  · cases b <;> first | (cases h; done) | (cases hb; done)
theorem swp_cell {env : PySem.Env} {x y : Str} {px py pt pt2 : Pos} {kt k2 : Nat} {a b : Expr} (hk : env.scope.kind = .function) (h : env.scope.names.lookup x = some .cell ∨ env.scope.names.lookup y = some .cell) (ha : okArg a = true) (hb : okArg b = true) :
    swappedStores [.Tuple [.Name x px, .Name y py] kt pt] (.Tuple [a, b] k2 pt2) env = pure none := by
  unfold swappedStores
  simp only [blockK hk, List.any_cons, List.any_nil, noStar ha, noStar hb, Expr.pos, List.head?_cons, Option.map_some, Option.getD_some, List.filterMap_cons, List.filterMap_nil]
  rcases h with h | h
  · have kx : (env.kindOf x == some NameKind.local) = false := by
      have z : env.kindOf x = some .cell := h
      rw [z]; rfl
    simp only [kx, Bool.false_and]
    by_cases c : env.kindOf y = some NameKind.local
    · by_cases c2 : py.line = px.line
      · simp [c, c2]
      · simp [c, c2]
    · simp [c]
  · have ky : (env.kindOf y == some NameKind.local) = false := by
      have z : env.kindOf y = some .cell := h
      rw [z]; rfl
    simp only [ky, Bool.false_and]
    by_cases c : env.kindOf x = some NameKind.local
    · simp [c]
    · simp [c]
theorem swp_sub {env : PySem.Env} {o i o2 i2 : Expr} {p p2 pt pt2 : Pos} {kt k2 : Nat} {a b : Expr} (hk : env.scope.kind = .function) (ha : okArg a = true) (hb : okArg b = true) :
    swappedStores [.Tuple [.Subscript o i p, .Subscript o2 i2 p2] kt pt] (.Tuple [a, b] k2 pt2) env = pure none := by
  unfold swappedStores
  simp only [blockK hk, List.any_cons, List.any_nil, noStar ha, noStar hb, Expr.pos, List.head?_cons, Option.map_some, Option.getD_some, List.filterMap_cons, List.filterMap_nil]
  simp
theorem swp_no {env : PySem.Env} {ts : List Expr} {n : Nat} {p : Pos} {e : Expr} (h : ∀ es k q, e ≠ .Tuple es k q) : swappedStores [.Tuple ts n p] e env = pure none := by
  cases e <;> first | rfl | exact absurd rfl (h _ _ _)

theorem of_not {b : Bool} (h : (!b) = true) : b = false := by cases b <;> first | rfl | cases h
theorem sws_no {t e : Expr} {l : Nat} {env : PySem.Env} (h : isComp e = false) : swapsWithSole [t] e l env = pure false := sw_no h
theorem sG_sub {X : Cx} {o i : Expr} {to ti : TE} {t : TSet} {pos : Pos} (ho : PE X o to) (hi : PE X i ti) (hs : PSet X t) (h : okIx i = true) : PG X (.Subscript o i pos) (gSub to ti t) := by
  cases i <;> first | exact pg_sub ho hi hs | cases h
structure SndS (T : Tx) (Φ : PhiT) (n : Nat) : Prop where
  s : ∀ (X : Cx) (sk : Sk) (st : Stmt) (s' : S) (own : List Nat) (ret : Nat) (S0 : Addr → Prop) (H0 : Hp) (F0 : List Addr), XOk X T sk Φ → X.env.scope.kind = .function → X.xe = (fun _ _ => False) → trS T n sk st = some s' → PS X st (tS X.K Φ own ret S0 H0 F0 s')
  ss : ∀ (X : Cx) (sk : Sk) (st : List Stmt) (s' : S) (own : List Nat) (ret : Nat) (S0 : Addr → Prop) (H0 : Hp) (F0 : List Addr), XOk X T sk Φ → X.env.scope.kind = .function → X.xe = (fun _ _ => False) → trSs T n sk st = some s' → PSs X st (tS X.K Φ own ret S0 H0 F0 s')
theorem lc_swap {X : Cx} {T : Tx} {sk : Sk} {Φ : PhiT} (ok : XOk X T sk Φ) (hk : X.env.scope.kind = .function) {elt : Expr} {gs : List Comprehension} {scope : Scope} {pc p : Pos} {x : Str} {l : Nat} (hs : isStore sk x = true) (hl : (p.line == pc.line) = true) :
    swapsWith (.ListComp elt gs scope pc) (some (.Name x p)) l X.env = pure false ∨ (swapsWith (.ListComp elt gs scope pc) (some (.Name x p)) l X.env = pure true ∧ X.env.scope.names.lookup x = some .local) := by
  rw [sw_lc]
  have kb : (X.env.blockKind == ScopeKind.function) = true := by rw [blockK hk]; rfl
  rw [kb, hl]
  by_cases c : X.env.scope.names.lookup x = some .local
  · have kx : (X.env.kindOf x == some NameKind.local) = true := by
      have z : X.env.kindOf x = some .local := c
      rw [z]; rfl
    rw [kx]
    cases q : (scope.names.any fun (n, k) => n == x && (k == .local || k == .cell))
    · exact .inr ⟨rfl, c⟩
    · exact .inl rfl
  · have kx : (X.env.kindOf x == some NameKind.local) = false := by
      rw [beq_eq_false_iff_ne]
      exact c
    rw [kx]
    exact .inl rfl
theorem sS_lc {X : Cx} {T : Tx} {sk : Sk} {Φ : PhiT} {n : Nat} (ok : XOk X T sk Φ) (hk : X.env.scope.kind = .function) {x : Str} {i : Nat} {elt : Expr} {gs : List Comprehension} {scope : Scope} {pc p pos : Pos} {e' : E} {own : List Nat} {ret : Nat} {S0 : Addr → Prop} {H0 : Hp} {F0 : List Addr}
    (hs : isStore sk x = true) (hi : ixOf T.N x = some i) (he : trE T n sk (.ListComp elt gs scope pc) = some e') (hl : (p.line == pc.line) = true) : PS X (.Assign [.Name x p] (.ListComp elt gs scope pc) pos) (tS X.K Φ own ret S0 H0 F0 (.asg (.one i) e')) := by
  rcases lc_swap (l := pos.line) ok hk (gs := gs) (elt := elt) (scope := scope) hs hl with hsw | ⟨hsw, hx⟩
  · exact sS_set ok hs hi ((snd T Φ n).e X sk _ e' ok he).1 hsw
  · cases n with
    | zero => unfold trE at he; cases he
    | succ n =>
      have ih := snd T Φ n
      unfold trE at he
      split at he <;> first | (rename_i z; cases z; done) | skip
      all_goals first | (rename_i z _; cases z; done) | skip
      · rename_i elt' tg iter ifs scope' pc' z
        cases z
        split at he
        · rename_i ow ik it t c e eo ei et ef ee
          split at he
          · rename_i cc
            cases he
            rw [Bool.and_eq_true, Bool.and_eq_true] at cc
            exact (ps_setLc ok.calm ok.ndX (ok.ix hi) hx hsw (ih.i X sk tg iter (ik, it) ok ei) (blkOk_by (by rw [ok.N, ok.sc]; exact cc.1.1)) (fun s H C cl fp => sG (ok.blk s H scope cl C fp) et) (fun s H C cl fp => ih.f _ _ ifs c (ok.blk s H scope cl C fp) ef)
              (fun s H C cl fp => (ih.e _ _ elt e (ok.blk s H scope cl C fp) ee).1) (noSet cc.1.2)).weak fun En σ H h => lc_read (tgIn_mem cc.2) (asg_read h)
          · cases he
        · cases he
      · rename_i elt' tg iter ifs tg2 iter2 ifs2 scope' pc' z
        cases z
        split at he
        · rename_i ow ik it t c ik2 it2 t2 c2 e eo ei et ef ei2 et2 ef2 ee
          split at he
          · rename_i cc
            cases he
            rw [Bool.and_eq_true, Bool.and_eq_true, Bool.and_eq_true, Bool.and_eq_true] at cc
            exact (ps_setLc2 (vs1 := tgs t2) ok.calm ok.ndX (ok.ix hi) hx hsw (ih.i X sk tg iter (ik, it) ok ei) (blkOk_by (by rw [ok.N, ok.sc]; exact cc.1.1.1.1)) (tgIn_mem cc.2) (fun s H C cl fp => sG (ok.blk s H scope cl C fp) et) (fun s H C cl fp => ih.f _ _ ifs c (ok.blk s H scope cl C fp) ef)
              (fun s H C cl fp => ih.i _ _ tg2 iter2 (ik2, it2) (ok.blk s H scope cl C fp) ei2) (fun s H C cl fp => sG (ok.blk s H scope cl C fp) et2) (fun s H C cl fp => ih.f _ _ ifs2 c2 (ok.blk s H scope cl C fp) ef2)
              (fun s H C cl fp => (ih.e _ _ elt e (ok.blk s H scope cl C fp) ee).1) (noSet cc.1.1.1.2) fun env => noSet cc.1.1.2).weak fun En σ H h => lc2_read (tgIn_mem cc.1.2) (fun _ m => m) (tgIn_mem cc.2) (asg_read h)
          · cases he
        · cases he
      · cases he

theorem isComp_lc {e : Expr} {e' : E} {T : Tx} {n : Nat} {sk : Sk} (he : trE T n sk e = some e') (h : isComp e = true) : ∃ elt gs sc pc, e = .ListComp elt gs sc pc := by
  cases n with
  | zero => unfold trE at he; cases he
  | succ n =>
    cases e <;> first | exact ⟨_, _, _, _, rfl⟩ | (cases h; done) | (unfold trE at he; cases he; done)
theorem snds0 (T : Tx) (Φ : PhiT) : SndS T Φ 0 := by
  refine ⟨fun X sk st s' own ret S0 H0 F0 ok hk hx h => ?_, fun X sk st s' own ret S0 H0 F0 ok hk hx h => ?_⟩
  · unfold trS at h; cases h
  · unfold trSs at h; cases h
theorem never_of {X : Cx} (hx : X.xe = fun _ _ => False) : PassesOwn (model X.prog X.w) X.A X.env X.xe := by
  rw [hx]
  exact PassesOwn.never
theorem sndS (T : Tx) (Φ : PhiT) (n : Nat) (ih : SndS T Φ n) (X : Cx) (sk : Sk) (st : Stmt) (s' : S) (own : List Nat) (ret : Nat) (S0 : Addr → Prop) (H0 : Hp) (F0 : List Addr) (ok : XOk X T sk Φ) (hk : X.env.scope.kind = .function) (hx : X.xe = fun _ _ => False) (h : trS T (n + 1) sk st = some s') :
    PS X st (tS X.K Φ own ret S0 H0 F0 s') := by
  have pe : ∀ {e : Expr} {e' : E}, trE T n sk e = some e' → PE X e (tE X.K Φ e') := fun he => ((snd T Φ n).e X sk _ _ ok he).1
  have pt : ∀ {e : Expr} {e' : E}, trE T n sk e = some e' → PT X e (tT X.K Φ e') := fun he => ((snd T Φ n).e X sk _ _ ok he).2.1
  unfold trS at h
  split at h
  · cases h; exact sS_skip
  · cases h; exact sS_brk
  · cases h; exact sS_cnt
  · cases h; exact sS_retN
  · split at h
    · rename_i c
      rw [Bool.and_eq_true, Bool.and_eq_true] at c
      obtain ⟨i, ei, rfl⟩ := map_some' h
      exact sS_retv ok c.1.1 (by simpa using c.1.2) (by simpa using c.2) ei
    · cases h
  · split at h
    · rename_i rs er
      cases h
      exact sS_rett ok er
    · obtain ⟨es, ee, rfl⟩ := map_some' h
      exact sS_ret (sE_tup ((snd T Φ n).es X sk _ es ok ee).1)
  · obtain ⟨e, ee, rfl⟩ := map_some' h
    exact sS_ret (pe ee)
  · split at h
    · rename_i c a b ec ea eb
      cases h
      exact sS_ite (pt ec) (ih.ss X sk _ a own ret S0 H0 F0 ok hk hx ea) (ih.ss X sk _ b own ret S0 H0 F0 ok hk hx eb)
    · cases h
  · split at h
    · rename_i c b ec eb
      cases h
      exact (ps_while (never_of hx) (pt ec) (ih.ss X sk _ b own ret S0 H0 F0 ok hk hx eb)).weak fun En σ H z => whl_read z
    · cases h
  · split at h
    · rename_i t ik it b et ei eb
      split at h
      · rename_i hs
        cases h
        exact (ps_for (never_of hx) ok.calm ((snd T Φ n).i X sk _ _ (ik, it) ok ei) (sG ok et) (ih.ss X sk _ b own ret S0 H0 F0 ok hk hx eb) (noSet hs)).weak fun En σ H z => for_read z
      · cases h
    · cases h
  · split at h
    · rename_i hline
      split at h
      · rename_i hm
        subst hm
        split at h
        · split at h
          · rename_i ha
            split at h
            · rename_i p e ep ee
              cases h
              obtain ⟨pp, pb⟩ := trP_sound ok n ep
              exact (ps_expr (pe_bm PySem.F.plainAttrs_list PySem.F.slot_list_append PySem.F.type_list_append mt_append pp (pa_cons (pe ee) pa_nil (star_of ha)) (pb _) (by rw [star_of ha]; rfl) hline (star_of ha) rfl)).weak fun En σ H z => app_read z
            · cases h
          · cases h
        · cases h
      · split at h
        · rename_i hm
          subst hm
          split at h
          · obtain ⟨p, ep, rfl⟩ := map_some' h
            obtain ⟨pp, pb⟩ := trP_sound ok n ep
            exact (ps_expr (pe_bm0 PySem.F.plainAttrs_list PySem.F.slot_list_pop PySem.F.type_list_pop mt_pop pp (pb _) hline)).weak fun En σ H z => pop_read z
          · cases h
        · cases h
    · cases h
  · rename_i x p e pos
    split at h
    · rename_i hs
      split at h
      · rename_i i e' ei ee
        by_cases hc : (isComp e && !(p.line == compLine e)) = true
        · rw [if_pos hc] at h; cases h
        · rw [if_neg hc] at h
          cases h
          cases q : isComp e with
          | false => exact sS_set ok hs ei (pe ee) (sw_no q)
          | true =>
            obtain ⟨elt, gs, sc, pc, rfl⟩ := isComp_lc ee q
            have hl : (p.line == pc.line) = true := by
              cases w : (p.line == pc.line) with
              | true => rfl
              | false =>
                exfalso
                apply hc
                have w' : (p.line == compLine (.ListComp elt gs sc pc)) = false := w
                rw [w', q]
                rfl
            exact sS_lc ok hk hs ei ee hl
      · cases h
    · cases h
  · split at h
    · rename_i hc
      rw [Bool.and_eq_true] at hc
      split at h
      · rename_i p i e ep ei ee
        cases h
        obtain ⟨pp, _⟩ := trP_sound ok n ep
        exact (ps_asg (pe ee) (sG_sub pp (pe ei) set_list hc.1) (sws_no (of_not hc.2)) rfl).weak fun En σ H z => put_read z
      · cases h
    · cases h
  · rename_i x px y py kt pt' a b k2 pt2 pos
    split at h
    · rename_i hs
      rw [Bool.and_eq_true] at hs
      split at h
      · rename_i i j a' b' ei ej ea eb
        split at h
        · cases h
        · rename_i hij
          have hxy : x ≠ y := fun z => by
            subst z
            rw [ei] at ej
            exact hij (Option.some.inj ej)
          split at h
          · rename_i hl
            rw [Bool.and_eq_true, Bool.and_eq_true] at hl
            split at h
            · rename_i hf
              cases h
              rw [Bool.and_eq_true, Bool.and_eq_true, Bool.and_eq_true] at hf
              have lx : X.env.scope.names.lookup x = some .local := by rw [ok.sc]; simpa using hl.1.1
              have ly : X.env.scope.names.lookup y = some .local := by rw [ok.sc]; simpa using hl.1.2
              have f1 : [a, b].all (foldedForSure 8) = false := of_not hf.1.1.1
              have f2 : [a, b].all (constantsAlone 8) = false := of_not hf.1.1.2
              exact (ps_par ok.calm ok.ndX (ok.ix ei) (ok.ix ej) hij lx ly (pa_cons (pe ea) (pa_cons (pe eb) pa_nil (star_of hf.2)) (star_of hf.1.2)) (swp_par hk lx ly hl.2 hxy hf.1.2 hf.2 f1 f2)).weak fun En σ H z => par_read z
            · cases h
          · split at h
            · rename_i hc
              cases h
              rw [Bool.and_eq_true, Bool.and_eq_true, Bool.or_eq_true] at hc
              have lc : X.env.scope.names.lookup x = some .cell ∨ X.env.scope.names.lookup y = some .cell := by
                rw [ok.sc]
                exact hc.2.imp (fun z => by simpa using z) fun z => by simpa using z
              exact sS_many ok (ts := [.Name x px, .Name y py]) (by unfold trNames; rw [if_pos hs.1, ei]; unfold trNames; rw [if_pos hs.2, ej]; rfl) (sE_tup (sA_cons hc.1.1 (pe ea) (sA_cons hc.1.2 (pe eb) sA_nil))) (sws_no rfl) (swp_cell hk lc hc.1.1 hc.1.2)
            · cases h
      · cases h
    · cases h
  · split at h
    · rename_i hc
      rw [Bool.and_eq_true, Bool.and_eq_true, Bool.and_eq_true] at hc
      split at h
      · rename_i p i q j a b ep ei eq ej ea eb
        cases h
        obtain ⟨pp, _⟩ := trP_sound ok n ep
        obtain ⟨pq, _⟩ := trP_sound ok n eq
        exact (ps_asg (sE_tup (sA_cons hc.1.2 (pe ea) (sA_cons hc.2 (pe eb) sA_nil))) (pg_tup (n := 2) ok.calm (pgs_cons (sG_sub pp (pe ei) set_list hc.1.1.1) (pgs_cons (sG_sub pq (pe ej) set_list hc.1.1.2) pgs_nil)) rfl rfl) (sws_no rfl) (swp_sub hk hc.1.2 hc.2)).weak fun En σ H z => put2_read z
      · cases h
    · cases h
  · split at h
    · cases h
    · rename_i hnt
      split at h
      · cases h
      · rename_i hc
        split at h
        · rename_i is e et ee
          cases h
          exact sS_many ok et (pe ee) (sws_no (by simpa using hc)) (swp_no fun es k p z => hnt es k p z)
        · cases h
  · cases h
theorem snds (T : Tx) (Φ : PhiT) : ∀ n, SndS T Φ n
  | 0 => snds0 T Φ
  | n + 1 => by
    have ih := snds T Φ n
    refine ⟨sndS T Φ n ih, fun X sk st s' own ret S0 H0 F0 ok hk hx h => ?_⟩
    unfold trSs at h
    split at h
    · cases h; exact sSs_nil
    · split at h
      · rename_i a b ea eb
        cases h
        exact sSs_cons (ih.s X sk _ a own ret S0 H0 F0 ok hk hx ea) (ih.ss X sk _ b own ret S0 H0 F0 ok hk hx eb)
      · cases h
end PD

/-! PD18: defs, programs, laws. -/
namespace PD
open PySem L2

/-- a def of the text: its parts, its names by slot, its parameters, what it is in the small language -/
structure Df where
  name : Str
  args : Arguments
  body : List Stmt
  scope : Scope
  N : List Str
  ps : List Str
  fn : Fn
structure Df.Good (fns : List Str) (rets : List Nat) (d : Df) : Prop where
  tr : trSs ⟨d.N, fns, rets⟩ 300 ⟨d.scope, fun _ => true⟩ d.body = some d.fn.body
  np : d.fn.np = d.ps.length
  ns : d.fn.ns = d.N.length
  sc : FnScope d.N d.ps d.scope

section
variable {P : Program} {w : World} {K : PySem.W.Frag} {mg : Str → Option Value} {base : Heap}
theorem Ows.get1 {S : Addr → Prop} {H : Hp} {vs : List V} {ds : List D} {i : Nat} {d : D} (h : Ows K S H 0 vs ds []) (e : ds[i]? = some d) : ∃ v, vs[i]? = some v ∧ Ow K S H 0 v d [] := h.get0 e
theorem start_get {N : List Str} {vs : List V} {i : Nat} {v : V} (h : vs[i]? = some v) : (L2.start N vs)[i]? = some (some v) := by
  unfold L2.start
  have hi : i < vs.length := (List.getElem?_eq_some_iff.mp h).1
  rw [List.getElem?_append_left (by rw [List.length_map]; exact hi), List.getElem?_map, h]
  rfl
theorem SR.start {S : Addr → Prop} {H : Hp} {vs : List V} {ds : List D} {N : List Str} {fn : Fn} (hs : fn.ns = N.length) (hl : ds.length = fn.np) (hn : fn.np ≤ fn.ns) (o : Ows K S H 0 vs ds []) :
    SR K S H [] (L2.start N vs) H (ds.map (fun d => some (d, 0)) ++ List.replicate (fn.ns - fn.np) none) (fun _ => []) [] := by
  have l := o.length
  refine ⟨?_, fun i d k e => ?_, fun _ _ => rfl, fun _ => List.nodup_nil, fun _ _ _ m => (List.not_mem_nil m).elim, List.nodup_nil, fun _ _ m => (List.not_mem_nil m).elim, fun _ m => (List.not_mem_nil m).elim, fun _ _ e _ => e, fun _ _ e _ => e, fun _ n => n, fun _ _ m => (List.not_mem_nil m).elim⟩
  · unfold L2.start
    rw [List.length_append, List.length_append, List.length_map, List.length_map, List.length_replicate, List.length_replicate, l, hl, hs]
  · by_cases c : i < ds.length
    · rw [List.getElem?_append_left (by rw [List.length_map]; exact c), List.getElem?_map] at e
      cases q : ds[i]? with
      | none => rw [q] at e; cases e
      | some d' =>
        rw [q] at e
        cases e
        obtain ⟨v, ev, ov⟩ := o.get0 q
        exact ⟨v, start_get ev, ov.mono (fun a _ _ s => ⟨.inl s, fun _ => List.not_mem_nil, List.not_mem_nil⟩) (fun _ _ z _ => z) fun _ _ => rfl⟩
    · rw [List.getElem?_append_right (by rw [List.length_map]; omega)] at e
      rw [List.getElem?_replicate] at e
      split at e <;> cases e
/-- what is known of the defs of a program, at k calls -/
def Fns (P : Program) (w : World) (K : PySem.W.Frag) (mg : Str → Option Value) (base : Heap) (fns : List Str) (Φ : PhiT) (k : Nat) : Prop :=
  ∀ (i : Nat) (x : Str), ixOf fns x = some i → ∃ f fd ps, FnOk P w K mg base CX0 k f fd ps (spD K (Φ i)) ∧ mg x = some (.ref f) ∧ PySem.W.keepIn K (.ref f) = true ∧ Binds K fd ps []
theorem fn_ok {fns : List Str} {rets : List Nat} {d : Df} {f : Addr} {fd : FuncData} {k : Nat} {Φ : PhiT} (F : FunD K d.name d.name d.args d.body d.scope [] [] f fd) (g : d.Good fns rets) (hb : ∀ x ∈ bltNames, mg x = none) (hf : Fns P w K mg base fns Φ k) :
    FnOk P w K mg base CX0 (k + 1) f fd d.ps (spD K fun ds => runF Φ d.fn ds) := by
  have hlen : ∀ {ds : List D} {r}, runF Φ d.fn ds = some r → ds.length = d.fn.np := fun {ds r} e => by
    unfold runF at e
    split at e
    · assumption
    · cases e
  refine F.ok g.sc (fun vs H Q E h => ?_) (fun cdv A outer s H vs Q E hr h => ?_)
  · obtain ⟨S, ds, r, k', d', hA, o, e, q⟩ := h
    rw [o.length, hlen e, g.np]
  · have hX : XOk (cxOf CX0 P w K mg base d.N d.name d.scope f cdv A outer s H E).nox ⟨d.N, fns, rets⟩ ⟨d.scope, fun _ => true⟩ Φ :=
      ⟨rfl, g.sc.nd, rfl, rfl, rfl, hb, fun i x hi => by
        obtain ⟨f', fd', ps, h1, h2, h3, h4⟩ := hf i x hi
        exact ⟨f', fd', ps, k, h1, h2, h3, h4, hr⟩, by
        have := hr.un
        show (A.deeper (PyProof.Rows.envOfC d.name d.scope s.heap.objs.size f cdv)).units + 65 < cLine
        omega⟩
    obtain ⟨S, ds, r, k', d', hA, o, e, q⟩ := h
    refine ⟨_, PSs.nox ((snds ⟨d.N, fns, rets⟩ Φ 300).ss _ ⟨d.scope, fun _ => true⟩ d.body d.fn.body d.fn.own d.fn.ret S H [] hX g.sc.kind rfl g.tr), ?_⟩
    have e : runF Φ d.fn ds = some (r, k', d') := e
    unfold runF at e
    split at e
    · rename_i hl
      have hn : d.fn.np ≤ d.fn.ns := by
        rw [g.np, g.ns, ← g.sc.pre]
        exact Nat.le_trans (by rw [List.length_take]; exact Nat.min_le_left _ _) (by
          have := congrArg List.length g.sc.pre
          rw [List.length_take] at this
          omega)
      have st : SR K S H [] (L2.start d.N vs) H (ds.map (fun d => some (d, 0)) ++ List.replicate (d.fn.ns - d.fn.np) none) (fun _ => []) [] := SR.start g.ns hl hn o
      have bsS : ∀ a, Bs S H [] a → S a := fun a z => z.elim id fun z => z.elim (hA a) fun z => (List.not_mem_nil z).elim
      split at e
      · rename_i nv' ee
        cases e
        exact ⟨_, _, _, st, ee, fun σ' H' F' s' _ => q .non H' [] (fun a o z => s'.fr a o z List.not_mem_nil) List.nodup_nil (fun _ m => (List.not_mem_nil m).elim) (.non _)⟩
      · rename_i nv' d1 k1 ee
        cases e
        exact ⟨_, _, _, st, ee, fun v H' G fr nd hG o' => q v H' G (fun a o z => fr a o z List.not_mem_nil) nd (fun a m => (hG a m).elim id fun z => (List.not_mem_nil z).elim) (o'.mono (fun a _ _ z => ⟨bsS a z.1, z.2⟩) (fun _ _ z _ => z) fun _ _ => rfl)⟩
      · cases e
    · cases e
/-- a program: its defs by number -/
structure Prg where
  fns : List Str
  rets : List Nat
  dfs : List Df
  nd : fns.Nodup
  nm : dfs.map Df.name = fns
  ok : ∀ d ∈ dfs, d.Good fns rets
def Prg.fs (p : Prg) : List Fn := p.dfs.map Df.fn
/-- what the top has left of a def -/
def DfAt (K : PySem.W.Frag) (mg : Str → Option Value) (d : Df) : Prop := ∃ f fd, FunD K d.name d.name d.args d.body d.scope [] [] f fd ∧ mg d.name = some (.ref f) ∧ Binds K fd d.ps []
theorem Prg.all (p : Prg) (hb : ∀ x ∈ bltNames, mg x = none) (h : ∀ d ∈ p.dfs, DfAt K mg d) : ∀ n, Fns P w K mg base p.fns (Phi p.fs n) n
  | 0 => fun i x hi => by
    have hx : p.fns[i]? = some x := ixOf_get hi
    rw [← p.nm, List.getElem?_map] at hx
    cases q : p.dfs[i]? with
    | none => rw [q] at hx; cases hx
    | some d =>
      rw [q] at hx
      cases hx
      obtain ⟨f, fd, F, hm, hB⟩ := h d (List.mem_of_getElem? q)
      refine ⟨f, fd, d.ps, ?_, hm, F.kp, hB⟩
      have no : ∀ vs H Q E, ¬ spD K (Phi p.fs 0 i) vs H Q E := fun vs H Q E ⟨S, ds, d, k, d', _, _, e, _⟩ => nomatch e
      exact ⟨fun vs H Q E h => absurd h (no vs H Q E), fun A outer s H args us vs Q E _ _ _ _ h => absurd h (no vs H Q E)⟩
  | n + 1 => fun i x hi => by
    have ih := p.all hb h n
    have hx : p.fns[i]? = some x := ixOf_get hi
    rw [← p.nm, List.getElem?_map] at hx
    cases q : p.dfs[i]? with
    | none => rw [q] at hx; cases hx
    | some d =>
      rw [q] at hx
      cases hx
      obtain ⟨f, fd, F, hm, hB⟩ := h d (List.mem_of_getElem? q)
      have e : (fun ds => runF (Phi p.fs n) d.fn ds) = Phi p.fs (n + 1) i := by
        funext ds
        show _ = (match p.fs[i]? with | some fn => runF (Phi p.fs n) fn ds | none => none)
        unfold Prg.fs
        rw [List.getElem?_map, q]
        rfl
      refine ⟨f, fd, d.ps, ?_, hm, F.kp, hB⟩
      rw [← e]
      exact fn_ok F (p.ok d (List.mem_of_getElem? q)) hb ih
/-- the law's def, by its number -/
theorem Prg.law (p : Prg) (hb : ∀ x ∈ bltNames, mg x = none) (h : ∀ d ∈ p.dfs, DfAt K mg d) {n i : Nat} {x : Str} (hi : ixOf p.fns x = some i) {f : Addr} (hm : mg x = some (.ref f)) {fd : FuncData} {d : Df} (hd : p.dfs[i]? = some d) (F : FunD K d.name d.name d.args d.body d.scope [] [] f fd) :
    FnOk P w K mg base CX0 (n + 1) f fd d.ps (spD K (Phi p.fs (n + 1) i)) := by
  have e : (fun ds => runF (Phi p.fs n) d.fn ds) = Phi p.fs (n + 1) i := by
    funext ds
    show _ = (match p.fs[i]? with | some fn => runF (Phi p.fs n) fn ds | none => none)
    unfold Prg.fs
    rw [List.getElem?_map, hd]
    rfl
  rw [← e]
  exact fn_ok F (p.ok d (List.mem_of_getElem? hd)) hb (p.all hb h n)
/-- what the law is asked -/
theorem law_sp {φ : List D → Option (D × Nat × D)} {H : Hp} {a : Addr} {ns : List Int} {k : Nat} {d' : D} (hO : Only H) (hS : SqL K H a (ns.map V.int)) (e : φ [.scr ns] = some (.bl true, k, d')) : spD K φ [.ref a] H (fun v _ => v = .bl true) fun _ _ _ => False := by
  refine ⟨fun _ => True, [.scr ns], .bl true, k, d', fun _ _ => trivial, .cons (F := []) (G := []) (.scr 0 ?_) (.nil 0), e, fun v H' G _ _ _ o => o.blI⟩
  rcases hS with (hS | ⟨o, hS⟩) | hS
  · rcases hO a with z | ⟨o, xs, z⟩
    · rw [z] at hS; cases hS
    · rw [z] at hS; cases hS
  · exact .inl ⟨o, hS⟩
  · exact .inr fun H' => .inr hS
end
end PD

/-! PM1: data of Lean types as tree data; loops as folds. Pure. -/
namespace PD
open PySem

structure EncP {α : Type} (f : α → D) (k : Nat) : Prop where
  lay : ∀ a, (f a).py.canLay0 = true
  dep : ∀ a, (f a).py.depth ≤ k
  eqv : ∀ a b, PyData.eqv (f a).py (f b).py = true ↔ a = b

theorem EncP.sh {α : Type} {f : α → D} {k : Nat} (h : EncP f k) (hk : k ≤ 64) (a : α) : SeqAt.shaped (f a).py = true := by
  have h1 := h.dep a
  show ((f a).py.canLay0 && decide ((f a).py.depth ≤ 64)) = true
  rw [Bool.and_eq_true]
  exact ⟨h.lay a, decide_eq_true (by omega)⟩
theorem EncP.eqD {α : Type} [DecidableEq α] {f : α → D} {k : Nat} (h : EncP f k) (hk : k ≤ 64) (a b : α) : eqD (f a) (f b) = some (decide (a = b)) := by
  unfold PD.eqD
  rw [h.sh hk, h.sh hk]
  simp only [Bool.and_self, if_true]
  by_cases e : a = b
  · rw [(h.eqv a b).mpr e]; simp [e]
  · have : PyData.eqv (f a).py (f b).py = false := by
      cases z : PyData.eqv (f a).py (f b).py
      · rfl
      · exact absurd ((h.eqv a b).mp z) e
    rw [this]; simp [e]

theorem encI : EncP D.int 0 where
  lay _ := by simp [D.py, PyData.canLay0]
  dep _ := by simp [D.py, PyData.depth]
  eqv a b := by simp [D.py, PyData.eqv]
theorem encB : EncP D.bl 0 where
  lay _ := by simp [D.py, PyData.canLay0]
  dep _ := by simp [D.py, PyData.depth]
  eqv a b := by simp [D.py, PyData.eqv]

theorem pyL_lay {α : Type} {f : α → D} {k : Nat} (h : EncP f k) : ∀ xs : List α, PyData.canLayAll0 (D.py.pyL (xs.map f)) = true
  | [] => by simp [D.py.pyL, PyData.canLayAll0]
  | x :: xs => by simp [D.py.pyL, PyData.canLayAll0, h.lay x, pyL_lay h xs]
theorem pyL_dep {α : Type} {f : α → D} {k : Nat} (h : EncP f k) : ∀ xs : List α, PyData.depthAll (D.py.pyL (xs.map f)) ≤ k
  | [] => by simp [D.py.pyL, PyData.depthAll]
  | x :: xs => by
    have h1 := h.dep x
    have h2 := pyL_dep h xs
    simp only [List.map_cons, D.py.pyL, PyData.depthAll]; omega
theorem pyL_eqv {α : Type} {f : α → D} {k : Nat} (h : EncP f k) : ∀ xs ys : List α, PyData.eqvAll (D.py.pyL (xs.map f)) (D.py.pyL (ys.map f)) = true ↔ xs = ys
  | [], [] => by simp [D.py.pyL, PyData.eqvAll]
  | [], _ :: _ => by simp [D.py.pyL, PyData.eqvAll]
  | _ :: _, [] => by simp [D.py.pyL, PyData.eqvAll]
  | x :: xs, y :: ys => by simp [D.py.pyL, PyData.eqvAll, h.eqv x y, pyL_eqv h xs ys]

def eLs {α : Type} (f : α → D) (xs : List α) : D := .lst (xs.map f)
def eTs {α : Type} (f : α → D) (xs : List α) : D := .tup (xs.map f)
theorem EncP.list {α : Type} {f : α → D} {k : Nat} (h : EncP f k) : EncP (eLs f) (k + 1) where
  lay xs := by simp [eLs, D.py, PyData.canLay0, pyL_lay h]
  dep xs := by have := pyL_dep h xs; simp only [eLs, D.py, PyData.depth]; omega
  eqv a b := by simp [eLs, D.py, PyData.eqv, pyL_eqv h]
theorem EncP.tuple {α : Type} {f : α → D} {k : Nat} (h : EncP f k) : EncP (eTs f) (k + 1) where
  lay xs := by simp [eTs, D.py, PyData.canLay0, pyL_lay h]
  dep xs := by have := pyL_dep h xs; simp only [eTs, D.py, PyData.depth]; omega
  eqv a b := by simp [eTs, D.py, PyData.eqv, pyL_eqv h]
/-- pairs -/
def eP {α β : Type} (f : α → D) (g : β → D) (p : α × β) : D := .tup [f p.1, g p.2]
theorem EncP.pair {α β : Type} {f : α → D} {g : β → D} {k : Nat} (h : EncP f k) (h' : EncP g k) : EncP (eP f g) (k + 1) where
  lay p := by simp [eP, D.py, D.py.pyL, PyData.canLay0, PyData.canLayAll0, h.lay, h'.lay]
  dep p := by
    have h1 := h.dep p.1
    have h2 := h'.dep p.2
    simp only [eP, D.py, D.py.pyL, PyData.depth, PyData.depthAll]; omega
  eqv a b := by
    obtain ⟨a1, a2⟩ := a
    obtain ⟨b1, b2⟩ := b
    simp [eP, D.py, D.py.pyL, PyData.eqv, PyData.eqvAll, h.eqv, h'.eqv]
/-- lists of two -/
def eLP {α β : Type} (f : α → D) (g : β → D) (p : α × β) : D := .lst [f p.1, g p.2]
theorem EncP.lpair {α β : Type} {f : α → D} {g : β → D} {k : Nat} (h : EncP f k) (h' : EncP g k) : EncP (eLP f g) (k + 1) where
  lay p := by simp [eLP, D.py, D.py.pyL, PyData.canLay0, PyData.canLayAll0, h.lay, h'.lay]
  dep p := by
    have h1 := h.dep p.1
    have h2 := h'.dep p.2
    simp only [eLP, D.py, D.py.pyL, PyData.depth, PyData.depthAll]; omega
  eqv a b := by
    obtain ⟨a1, a2⟩ := a
    obtain ⟨b1, b2⟩ := b
    simp [eLP, D.py, D.py.pyL, PyData.eqv, PyData.eqvAll, h.eqv, h'.eqv]
theorem EncP.weak {α : Type} {f : α → D} {k : Nat} (h : EncP f k) : EncP f (k + 1) := ⟨h.lay, fun a => by have := h.dep a; omega, h.eqv⟩

/-- words: lists of whole numbers -/
abbrev eW : List Int → D := eLs D.int
abbrev eM : List (List Int) → D := eLs eW
theorem encW : EncP eW 1 := encI.list
theorem encM : EncP eM 2 := encW.list
theorem eqD_I (a b : Int) : eqD (.int a) (.int b) = some (decide (a = b)) := encI.eqD (by decide) a b
theorem eqD_W (a b : List Int) : eqD (eW a) (eW b) = some (decide (a = b)) := encW.eqD (by decide) a b
theorem eqD_M (a b : List (List Int)) : eqD (eM a) (eM b) = some (decide (a = b)) := encM.eqD (by decide) a b

/-! ### items -/
theorem ix_nat {n j : Nat} (h : j < n) : L2.ixN n (j : Int) = some j := by
  unfold L2.ixN
  rw [if_pos (by omega), if_pos (by omega)]
  simp
theorem ix_last {n : Nat} (h : 0 < n) : L2.ixN n (-1) = some (n - 1) := by
  unfold L2.ixN
  rw [if_neg (by omega), if_pos (by omega)]
  congr 1; omega
theorem atI_map {α β : Type} (f : α → β) (xs : List α) (i : Int) : L2.atI (xs.map f) i = (L2.atI xs i).map f := by
  unfold L2.atI
  rw [List.length_map]
  cases L2.ixN xs.length i with
  | none => rfl
  | some j => simp
theorem ixD_l {α : Type} (f : α → D) (xs : List α) (i : Int) : ixD (eLs f xs) (.int i) = (L2.atI xs i).map f := atI_map f xs i
theorem atI_at {α : Type} {xs : List α} {i : Int} (d : α) (h0 : 0 ≤ i) (h1 : i < xs.length) : L2.atI xs i = some (xs.getD i.toNat d) := by
  obtain ⟨j, rfl⟩ := Int.eq_ofNat_of_zero_le h0
  have hj : j < xs.length := by omega
  rw [L2.atI_nat (v := xs[j]) (List.getElem?_eq_getElem hj)]
  simp [List.getD, List.getElem?_eq_getElem hj]
theorem atI_last {α : Type} (xs : List α) (x : α) : L2.atI (xs ++ [x]) (-1) = some x := by
  unfold L2.atI
  rw [ix_last (by simp)]
  simp

/-! ### comprehensions -/
theorem compL_map {α : Type} {f : D → Option (Option D)} {e : α → D} {g : α → D} {xs : List α} (h : ∀ a ∈ xs, f (e a) = some (some (g a))) : compL f (xs.map e) = some (xs.map g) := by
  induction xs with
  | nil => rfl
  | cons x xs ih =>
    simp only [List.map_cons, compL]
    rw [h x (by simp), ih fun a ha => h a (by simp [ha])]
theorem compL_filt {α : Type} {f : D → Option (Option D)} {e : α → D} {p : α → Bool} {g : α → D} {xs : List α} (h : ∀ a ∈ xs, f (e a) = some (if p a then some (g a) else none)) : compL f (xs.map e) = some ((xs.filter p).map g) := by
  induction xs with
  | nil => rfl
  | cons x xs ih =>
    simp only [List.map_cons, compL]
    rw [h x (by simp), ih fun a ha => h a (by simp [ha])]
    cases hp : p x <;> simp [List.filter, hp]
theorem compLL_map {α : Type} {f : D → Option (List D)} {e : α → D} {g : α → List D} {xs : List α} (h : ∀ a ∈ xs, f (e a) = some (g a)) : compLL f (xs.map e) = some (xs.flatMap g) := by
  induction xs with
  | nil => rfl
  | cons x xs ih =>
    simp only [List.map_cons, compLL]
    rw [h x (by simp), ih fun a ha => h a (by simp [ha])]
    simp

/-! ### loops -/
theorem forL_inv {α β : Type} (I : β → Nv → Prop) (step : β → α → β) {e : α → D} {body : Nv → Option Out} {bnd : D → Nv → Option Nv} : ∀ {xs : List α} {b : β} {σ : Nv},
    (∀ a ∈ xs, ∀ b σ, I b σ → ∃ σ1, bnd (e a) σ = some σ1 ∧ ∃ σ2, (body σ1 = some (.nx σ2) ∨ body σ1 = some (.ct σ2)) ∧ I (step b a) σ2) → I b σ →
    ∃ σ', forL body bnd (xs.map e) σ = some (.nx σ') ∧ I (xs.foldl step b) σ'
  | [], b, σ, _, hI => ⟨σ, rfl, hI⟩
  | x :: xs, b, σ, h, hI => by
    obtain ⟨σ1, h1, σ2, h2, h3⟩ := h x (by simp) b σ hI
    obtain ⟨σ', h4, h5⟩ := forL_inv I step (xs := xs) (fun a ha => h a (by simp [ha])) h3
    refine ⟨σ', ?_, h5⟩
    simp only [List.map_cons, forL]
    rw [h1]
    rcases h2 with h2 | h2 <;> simp only [h2] <;> exact h4
/-- with a fact on the fold so far -/
theorem forL_invP {α β : Type} (W : List α) (I : β → Nv → Prop) (P : List α → β → Prop) (step : β → α → β) {e : α → D} {body : Nv → Option Out} {bnd : D → Nv → Option Nv}
    (h : ∀ a ys zs b σ, ys ++ a :: zs = W → P ys b → I b σ → (∃ σ1, bnd (e a) σ = some σ1 ∧ ∃ σ2, (body σ1 = some (.nx σ2) ∨ body σ1 = some (.ct σ2)) ∧ I (step b a) σ2) ∧ P (ys ++ [a]) (step b a)) : ∀ {xs ys : List α} {b : β} {σ : Nv},
    ys ++ xs = W → P ys b → I b σ →
    ∃ σ', forL body bnd (xs.map e) σ = some (.nx σ') ∧ I (xs.foldl step b) σ' ∧ P W (xs.foldl step b)
  | [], ys, b, σ, hW, hP, hI => ⟨σ, rfl, hI, by rw [← hW, List.append_nil]; exact hP⟩
  | x :: xs, ys, b, σ, hW, hP, hI => by
    obtain ⟨⟨σ1, h1, σ2, h2, h3⟩, h6⟩ := h x ys xs b σ hW hP hI
    obtain ⟨σ', h4, h5, h7⟩ := forL_invP W I P step h (xs := xs) (ys := ys ++ [x]) (by rw [← hW]; simp) h6 h3
    refine ⟨σ', ?_, h5, h7⟩
    simp only [List.map_cons, forL]
    rw [h1]
    rcases h2 with h2 | h2 <;> simp only [h2] <;> exact h4
/-- a loop of which each round leaves the names as they stood, but for scratch -/
theorem forL_all {α : Type} (I : Nv → Prop) {e : α → D} {body : Nv → Option Out} {bnd : D → Nv → Option Nv} {xs : List α} {σ : Nv}
    (h : ∀ a ∈ xs, ∀ σ, I σ → ∃ σ1, bnd (e a) σ = some σ1 ∧ ∃ σ2, (body σ1 = some (.nx σ2) ∨ body σ1 = some (.ct σ2)) ∧ I σ2) (hI : I σ) :
    ∃ σ', forL body bnd (xs.map e) σ = some (.nx σ') ∧ I σ' := forL_inv (β := Unit) (fun _ σ => I σ) (fun _ _ => ()) (b := ()) (fun a ha _ σ hs => h a ha σ hs) hI

/-! ### calls -/
def Ev (prog : List Fn) (c f : Nat) (ds : List D) (d : D) (k : Nat) : Prop := ∀ n, c ≤ n → Phi prog n f ds = some (d, k, .non)
theorem Ev.mk {prog : List Fn} {c f : Nat} {ds : List D} {d : D} {k : Nat} (h : ∀ n, c ≤ n → Phi prog (n + 1) f ds = some (d, k, .non)) : Ev prog (c + 1) f ds d k := fun n hn => by
  obtain ⟨m, rfl⟩ : ∃ m, n = m + 1 := ⟨n - 1, by omega⟩
  exact h m (by omega)
theorem Phi_succ {prog : List Fn} {n f : Nat} {ds : List D} {fn : Fn} (h : prog[f]? = some fn) : Phi prog (n + 1) f ds = runF (Phi prog n) fn ds := by
  show (match prog[f]? with | some fn => runF (Phi prog n) fn ds | none => none) = _
  rw [h]
theorem sm {n : Nat} (h : n ≤ sizeLine) : small n = true := decide_eq_true h
theorem intsOf_map : ∀ xs : List Int, intsOf (xs.map D.int) = some xs
  | [] => rfl
  | x :: xs => by simp only [List.map_cons, intsOf, intsOf_map xs, Option.map]
end PD

/-! PM2: words of signed numbers that cancel. Pure. -/
namespace PD

def push (s : List Int) (x : Int) : List Int := match s with | [] => [x] | y :: t => if y = -x then t else x :: y :: t
def act (w s : List Int) : List Int := w.foldl push s
def red (w : List Int) : List Int := (act w []).reverse
def back (w : List Int) : List Int := w.reverse.map (fun x => -x)
def rd : List Int → Prop
  | x :: y :: t => y ≠ -x ∧ rd (y :: t)
  | _ => True

theorem act_append (u v s : List Int) : act (u ++ v) s = act v (act u s) := List.foldl_append ..
theorem act_nil (s : List Int) : act [] s = s := rfl
theorem act_one (x : Int) (s : List Int) : act [x] s = push s x := rfl
theorem rd_tail {x : Int} {t : List Int} (h : rd (x :: t)) : rd t := by
  cases t with
  | nil => trivial
  | cons y t => exact h.2
theorem rd_push {s : List Int} (h : rd s) (x : Int) : rd (push s x) := by
  cases s with
  | nil => trivial
  | cons y t =>
    simp only [push]
    split
    · exact rd_tail h
    · exact ⟨by assumption, h⟩
theorem rd_act : ∀ (w : List Int) {s : List Int}, rd s → rd (act w s)
  | [], _, h => h
  | x :: w, _, h => rd_act w (rd_push h x)
theorem push_cons (y : Int) (t : List Int) (x : Int) : push (y :: t) x = if y = -x then t else x :: y :: t := rfl
theorem push_nil (x : Int) : push [] x = [x] := rfl
theorem push_neg {s : List Int} (h : rd s) (x : Int) : push (push s x) (-x) = s := by
  cases s with
  | nil => simp [push]
  | cons y t =>
    rw [push_cons]
    by_cases e : y = -x
    · rw [if_pos e]
      subst e
      cases t with
      | nil => rfl
      | cons z t => rw [push_cons, if_neg]; intro e; exact h.1 (by omega)
    · rw [if_neg e, push_cons, if_pos (by omega)]
theorem back_nil : back [] = [] := rfl
theorem back_cons (x : Int) (w : List Int) : back (x :: w) = back w ++ [-x] := by simp [back]
theorem back_append (u v : List Int) : back (u ++ v) = back v ++ back u := by simp [back]
theorem back_back (w : List Int) : back (back w) = w := by
  simp [back, List.map_reverse, Function.comp_def]
theorem back_length (w : List Int) : (back w).length = w.length := by simp [back]
theorem act_back (w : List Int) : ∀ {s : List Int}, rd s → act (back w) (act w s) = s := by
  induction w with
  | nil => intro s _; rfl
  | cons x w ih =>
    intro s h
    rw [back_cons, act_append]
    show act [-x] (act (back w) (act w (push s x))) = s
    rw [ih (rd_push h x), act_one, push_neg h]
theorem act_back' (w : List Int) {s : List Int} (h : rd s) : act w (act (back w) s) = s := by
  have := act_back (back w) h
  rwa [back_back] at this
theorem act_push {t s : List Int} (ht : rd t) (hs : rd s) (x : Int) : act (push t x).reverse s = push (act t.reverse s) x := by
  cases t with
  | nil => rfl
  | cons y t =>
    rw [push_cons]
    by_cases e : y = -x
    · have : x = -y := by omega
      subst this
      rw [if_pos e, List.reverse_cons, act_append, act_one, push_neg (rd_act _ hs)]
    · rw [if_neg e, List.reverse_cons, act_append]; rfl
theorem act_act : ∀ (w : List Int) {t s : List Int}, rd t → rd s → act (act w t).reverse s = act w (act t.reverse s)
  | [], _, _, _, _ => rfl
  | x :: w, t, s, ht, hs => by
    show act (act w (push t x)).reverse s = act w (push (act t.reverse s) x)
    rw [act_act w (rd_push ht x) hs, act_push ht hs]
theorem act_red (w : List Int) {s : List Int} (h : rd s) : act (red w) s = act w s := act_act w trivial h

def Eqv (u v : List Int) : Prop := ∀ s, rd s → act u s = act v s
theorem Eqv.rfl' {u : List Int} : Eqv u u := fun _ _ => rfl
theorem Eqv.of {u v : List Int} (h : u = v) : Eqv u v := h ▸ Eqv.rfl'
theorem Eqv.symm {u v : List Int} (h : Eqv u v) : Eqv v u := fun s hs => (h s hs).symm
theorem Eqv.trans {u v w : List Int} (h : Eqv u v) (h' : Eqv v w) : Eqv u w := fun s hs => (h s hs).trans (h' s hs)
theorem Eqv.app {u v u' v' : List Int} (h : Eqv u v) (h' : Eqv u' v') : Eqv (u ++ u') (v ++ v') := fun s hs => by
  rw [act_append, act_append, h s hs, h' _ (rd_act _ hs)]
theorem Eqv.back {u v : List Int} (h : Eqv u v) : Eqv (back u) (back v) := fun s hs => by
  have h1 := act_back' v hs
  rw [← h _ (rd_act _ hs)] at h1
  have h2 := act_back u (rd_act (PD.back v) hs)
  rw [h1] at h2
  exact h2
theorem Eqv.red (w : List Int) : Eqv (red w) w := fun s hs => act_red w hs
theorem Eqv.iff {u v : List Int} : PD.red u = PD.red v ↔ Eqv u v := by
  constructor
  · intro h s hs
    rw [← act_red u hs, ← act_red v hs, h]
  · intro h
    unfold PD.red
    rw [h [] trivial]
theorem Eqv.eq {u v : List Int} (h : Eqv u v) : PD.red u = PD.red v := Eqv.iff.mpr h
theorem Eqv.can (w : List Int) : Eqv (w ++ PD.back w) [] := fun s hs => by rw [act_append, act_back w hs]; rfl
theorem Eqv.can' (w : List Int) : Eqv (PD.back w ++ w) [] := fun s hs => by rw [act_append, act_back' w hs]; rfl
theorem red_red (w : List Int) : red (red w) = red w := (Eqv.red w).eq

/-! reduced words -/
def Red (w : List Int) : Prop := red w = w
theorem Red.of (w : List Int) : Red (red w) := red_red w
theorem Red.eq {u v : List Int} (hu : Red u) (hv : Red v) (h : Eqv u v) : u = v := by rw [← hu, ← hv]; exact h.eq
theorem rd_reverse_iff : ∀ {u : List Int} {x : Int} {t : List Int}, rd (u.reverse ++ x :: t) → rd (x :: t)
  | [], _, _, h => h
  | y :: u, x, t, h => by
    rw [List.reverse_cons, List.append_assoc] at h
    exact rd_tail (rd_reverse_iff (u := u) h)
theorem act_rd : ∀ {w s : List Int}, rd (w.reverse ++ s) → act w s = w.reverse ++ s
  | [], _, _ => rfl
  | x :: w, s, h => by
    rw [List.reverse_cons, List.append_assoc] at h
    have h : rd (w.reverse ++ x :: s) := h
    have h1 := rd_reverse_iff (u := w) h
    have h2 : push s x = x :: s := by
      cases s with
      | nil => rfl
      | cons y t => exact if_neg h1.1
    show act w (push s x) = _
    rw [h2, act_rd h, List.reverse_cons, List.append_assoc]; rfl
theorem Red.of_rd {w : List Int} (h : rd w.reverse) : Red w := by
  show (act w []).reverse = w
  rw [act_rd (by simpa using h)]; simp
theorem Red.rv {w : List Int} (h : Red w) : rd w.reverse := by
  have : rd (red w).reverse := by unfold PD.red; rw [List.reverse_reverse]; exact rd_act w trivial
  rwa [h] at this
theorem rd_append_one : ∀ {w : List Int} {x : Int}, rd w → (∀ y, w.getLast? = some y → x ≠ -y) → rd (w ++ [x])
  | [], _, _, _ => trivial
  | [y], x, _, h => ⟨h y rfl, trivial⟩
  | y :: z :: w, x, h, hl => ⟨h.1, rd_append_one (w := z :: w) h.2 (by intro q hq; exact hl q (by simpa [List.getLast?] using hq))⟩
theorem rd_reverse : ∀ {w : List Int}, rd w → rd w.reverse
  | [], _ => trivial
  | [_], _ => trivial
  | x :: y :: t, h => by
    rw [List.reverse_cons]
    refine rd_append_one (rd_reverse (w := y :: t) h.2) ?_
    intro q hq
    rw [List.reverse_cons, List.getLast?_append] at hq
    simp at hq
    subst hq
    have := h.1
    omega
theorem rd_neg : ∀ {w : List Int}, rd w → rd (w.map fun x => -x)
  | [], _ => trivial
  | [_], _ => trivial
  | x :: y :: t, h => ⟨by have := h.1; simp only; omega, rd_neg (w := y :: t) h.2⟩
theorem Red.iff {w : List Int} : Red w ↔ PD.rd w := ⟨fun h => by have := rd_reverse h.rv; rwa [List.reverse_reverse] at this, fun h => Red.of_rd (rd_reverse h)⟩
theorem Red.back {w : List Int} (h : Red w) : Red (back w) := by
  rw [Red.iff]
  exact rd_neg (rd_reverse (Red.iff.mp h))
theorem Red.nil : Red [] := rfl
theorem Red.one (x : Int) : Red [x] := rfl
theorem red_back (w : List Int) : red (back w) = back (red w) := Red.eq (Red.of _) (Red.of w).back ((Eqv.red _).trans (Eqv.red w).symm.back)

/-! lengths, letters -/
theorem push_length (s : List Int) (x : Int) : (push s x).length ≤ s.length + 1 := by
  cases s with
  | nil => simp [push]
  | cons y t => simp only [push]; split <;> simp <;> omega
theorem act_length : ∀ (w s : List Int), (act w s).length ≤ s.length + w.length
  | [], s => by simp [act]
  | x :: w, s => by
    have h1 := act_length w (push s x)
    have h2 := push_length s x
    show (act w (push s x)).length ≤ _
    simp only [List.length_cons]; omega
theorem red_length (w : List Int) : (red w).length ≤ w.length := by
  have := act_length w []
  simpa [red] using this
theorem push_mem {s : List Int} {x y : Int} (h : y ∈ push s x) : y ∈ s ∨ y = x := by
  cases s with
  | nil => simp [push] at h; exact .inr h
  | cons z t =>
    simp only [push] at h
    split at h
    · exact .inl (by simp [h])
    · rcases List.mem_cons.mp h with rfl | h
      · exact .inr rfl
      · exact .inl h
theorem act_mem : ∀ {w s : List Int} {y : Int}, y ∈ act w s → y ∈ s ∨ y ∈ w
  | [], _, _, h => .inl h
  | x :: w, s, y, h => by
    rcases act_mem (w := w) (s := push s x) h with h | h
    · rcases push_mem h with h | h
      · exact .inl h
      · exact .inr (by simp [h])
    · exact .inr (by simp [h])
theorem red_mem {w : List Int} {y : Int} (h : y ∈ red w) : y ∈ w := by
  unfold red at h
  rcases act_mem (List.mem_reverse.mp h) with h | h
  · simp at h
  · exact h
theorem back_mem {w : List Int} {y : Int} (h : y ∈ back w) : -y ∈ w := by
  simp [back] at h
  obtain ⟨a, h, e⟩ := h
  subst e
  simpa using h

/-! letters for words -/
/-- w's letters stand among 1 … n and their opposites -/
def In (n : Nat) (w : List Int) : Prop := ∀ x ∈ w, x ≠ 0 ∧ -(n : Int) ≤ x ∧ x ≤ n
theorem In.nil {n : Nat} : In n [] := fun _ h => by cases h
theorem In.app {n : Nat} {u v : List Int} (h : In n u) (h' : In n v) : In n (u ++ v) := fun x hx => by
  rcases List.mem_append.mp hx with hx | hx
  · exact h x hx
  · exact h' x hx
theorem In.red {n : Nat} {u : List Int} (h : In n u) : In n (red u) := fun x hx => h x (red_mem hx)
theorem In.back {n : Nat} {u : List Int} (h : In n u) : In n (back u) := fun x hx => by
  have := h _ (back_mem hx)
  omega
theorem In.tl {n : Nat} {x : Int} {u : List Int} (h : In n (x :: u)) : In n u := fun y hy => h y (by simp [hy])
theorem In.cons {n : Nat} {x : Int} {u : List Int} (h : x ≠ 0 ∧ -(n : Int) ≤ x ∧ x ≤ n) (h' : In n u) : In n (x :: u) := fun y hy => by
  rcases List.mem_cons.mp hy with rfl | hy
  · exact h
  · exact h' y hy

/-- the word put for a letter -/
def lt (m : List (List Int)) (x : Int) : List Int := if 0 < x then m.getD (x - 1).toNat [] else back (m.getD (-x - 1).toNat [])
def img (m : List (List Int)) (w : List Int) : List Int := w.flatMap (lt m)
def Mp (n k : Nat) (m : List (List Int)) : Prop := m.length = n ∧ ∀ w ∈ m, In k w
theorem img_nil (m : List (List Int)) : img m [] = [] := rfl
theorem img_cons (m : List (List Int)) (x : Int) (w : List Int) : img m (x :: w) = lt m x ++ img m w := by simp [img]
theorem img_append (m : List (List Int)) (u v : List Int) : img m (u ++ v) = img m u ++ img m v := by simp [img]
theorem lt_neg (m : List (List Int)) {x : Int} (h : x ≠ 0) : lt m (-x) = back (lt m x) := by
  unfold lt
  by_cases h0 : 0 < x
  · rw [if_pos h0, if_neg (by omega), Int.neg_neg]
  · rw [if_neg h0, if_pos (by omega), back_back]
theorem img_back (m : List (List Int)) : ∀ {w : List Int}, (∀ x ∈ w, x ≠ 0) → img m (back w) = back (img m w)
  | [], _ => rfl
  | x :: w, h => by
    rw [back_cons, img_append, img_cons, img_nil, List.append_nil, img_cons, back_append, img_back m fun y hy => h y (by simp [hy]), lt_neg m (h x (by simp))]
theorem img_push (m : List (List Int)) {t : List Int} {x : Int} (hx : x ≠ 0) : Eqv (img m (push t x).reverse) (img m t.reverse ++ lt m x) := by
  cases t with
  | nil => simp [push, img, Eqv.rfl']
  | cons y t =>
    simp only [push]
    split
    · next e =>
      subst e
      rw [List.reverse_cons, img_append, img_cons, img_nil, List.append_nil, List.append_assoc, lt_neg m hx]
      have := (Eqv.rfl' (u := img m t.reverse)).app (Eqv.can' (lt m x))
      rw [List.append_nil] at this
      exact this.symm
    · rw [List.reverse_cons, img_append, img_cons, img_nil, List.append_nil]; exact Eqv.rfl'
theorem img_act (m : List (List Int)) : ∀ {w t : List Int}, (∀ x ∈ w, x ≠ 0) → Eqv (img m (act w t).reverse) (img m t.reverse ++ img m w)
  | [], t, _ => by rw [img_nil, List.append_nil]; exact Eqv.rfl'
  | x :: w, t, h => by
    have h1 := img_act m (w := w) (t := push t x) fun y hy => h y (by simp [hy])
    refine h1.trans (((img_push m (h x (by simp))).app Eqv.rfl').trans ?_)
    rw [img_cons, List.append_assoc]; exact Eqv.rfl'
theorem img_red (m : List (List Int)) {w : List Int} (h : ∀ x ∈ w, x ≠ 0) : Eqv (img m (red w)) (img m w) := by
  have := img_act m (w := w) (t := []) h
  exact this
theorem img_eqv (m : List (List Int)) {u v : List Int} (hu : ∀ x ∈ u, x ≠ 0) (hv : ∀ x ∈ v, x ≠ 0) (h : Eqv u v) : Eqv (img m u) (img m v) :=
  (img_red m hu).symm.trans ((Eqv.of (by rw [h.eq])).trans (img_red m hv))
theorem In.nz {n : Nat} {w : List Int} (h : In n w) : ∀ x ∈ w, x ≠ 0 := fun x hx => (h x hx).1

def after (f g : List (List Int)) : List (List Int) := f.map fun w => red (img g w)
theorem lt_after (f g : List (List Int)) {k n : Nat} (hf : Mp n k f) {x : Int} (hx : x ≠ 0) (h0 : -(n : Int) ≤ x) (h1 : x ≤ n) : Eqv (lt (after f g) x) (img g (lt f x)) := by
  have key : ∀ j : Nat, j < n → (after f g).getD j [] = red (img g (f.getD j [])) := by
    intro j hj
    have hj' : j < f.length := by rw [hf.1]; exact hj
    simp [after, List.getD, hj']
  have hin : ∀ j : Nat, j < n → In k (f.getD j []) := by
    intro j hj
    have hj' : j < f.length := by rw [hf.1]; exact hj
    refine hf.2 _ ?_
    simp [List.getD, hj']
  unfold lt
  by_cases h : 0 < x
  · rw [if_pos h, if_pos h, key _ (by omega)]
    exact Eqv.red _
  · rw [if_neg h, if_neg h, key _ (by omega), img_back g (hin _ (by omega)).nz]
    exact (Eqv.red _).back
theorem img_after (f g : List (List Int)) {k n : Nat} (hf : Mp n k f) : ∀ {w : List Int}, In n w → Eqv (img (after f g) w) (img g (img f w))
  | [], _ => Eqv.rfl'
  | x :: w, h => by
    rw [img_cons, img_cons, img_append]
    have := h x (by simp)
    exact (lt_after f g hf this.1 this.2.1 this.2.2).app (img_after f g hf h.tl)
theorem In.lt {n k : Nat} {m : List (List Int)} (hm : Mp n k m) {x : Int} (hx : x ≠ 0) (h0 : -(n : Int) ≤ x) (h1 : x ≤ n) : In k (lt m x) := by
  have hin : ∀ j : Nat, j < n → In k (m.getD j []) := by
    intro j hj
    have hj' : j < m.length := by rw [hm.1]; exact hj
    refine hm.2 _ ?_
    simp [List.getD, hj']
  unfold PD.lt
  split
  · exact hin _ (by omega)
  · exact (hin _ (by omega)).back
theorem In.img {n k : Nat} {m : List (List Int)} (hm : Mp n k m) : ∀ {w : List Int}, In n w → In k (img m w)
  | [], _ => In.nil
  | x :: w, h => by
    rw [img_cons]
    have := h x (by simp)
    exact (In.lt hm this.1 this.2.1 this.2.2).app (In.img hm h.tl)
theorem Mp.after {n k l : Nat} {f g : List (List Int)} (hf : Mp n k f) (hg : Mp k l g) : Mp n l (after f g) := by
  refine ⟨by simp [PD.after, hf.1], ?_⟩
  intro w hw
  simp only [PD.after, List.mem_map] at hw
  obtain ⟨u, hu, rfl⟩ := hw
  exact (In.img hg (hf.2 u hu)).red

/-- m takes w: the letters of w have their words in m, and not too much comes -/
structure Ok (m : List (List Int)) (w : List Int) : Prop where
  inn : In m.length w
  len : w.length ≤ 16777216
  sz : (img m w).length ≤ 16777216
theorem lt_length (m : List (List Int)) (x : Int) : (lt m x).length = if 0 < x then (m.getD (x - 1).toNat []).length else (m.getD (-x - 1).toNat []).length := by
  unfold lt
  split <;> simp [back_length]
theorem mem_sz {m : List (List Int)} : ∀ {w : List Int} {x : Int}, x ∈ w → (lt m x).length ≤ (img m w).length
  | y :: w, x, h => by
    rw [img_cons, List.length_append]
    rcases List.mem_cons.mp h with rfl | h
    · omega
    · have := mem_sz (m := m) h; omega
theorem img_len {m : List (List Int)} {b : Nat} (hb : ∀ w ∈ m, w.length ≤ b) : ∀ w : List Int, (img m w).length ≤ b * w.length
  | [] => by simp [img]
  | x :: w => by
    have h1 := img_len hb w
    have h2 : ∀ j, (m.getD j []).length ≤ b := by
      intro j
      by_cases hj : j < m.length
      · refine hb _ ?_
        simp [List.getD, hj]
      · simp [List.getD, List.getElem?_eq_none (Nat.le_of_not_lt hj)]
    have h3 : (lt m x).length ≤ b := by rw [lt_length]; split <;> exact h2 _
    rw [img_cons, List.length_append, List.length_cons, Nat.mul_succ]; omega
theorem Ok.mk' {m : List (List Int)} {w : List Int} {b c : Nat} (hi : In m.length w) (hb : ∀ u ∈ m, u.length ≤ b) (hw : w.length ≤ c) (hc : b * c ≤ 16777216) (hc' : c ≤ 16777216) : Ok m w :=
  ⟨hi, by omega, by have h1 := img_len hb w; have h2 := Nat.mul_le_mul_left b hw; omega⟩
/-- the word put for a letter, short where it is turned -/
def lt1 (m : List (List Int)) (x : Int) : List Int := if 0 < x then m.getD (x - 1).toNat [] else red (back (m.getD (-x - 1).toNat []))
theorem lt1_eqv (m : List (List Int)) (x : Int) : Eqv (lt1 m x) (lt m x) := by
  unfold lt1 lt
  split
  · exact Eqv.rfl'
  · exact Eqv.red _
theorem lt1_len (m : List (List Int)) (x : Int) : (lt1 m x).length ≤ (lt m x).length := by
  unfold lt1 lt
  split
  · exact Nat.le_refl _
  · exact red_length _
theorem img1_eqv (m : List (List Int)) : ∀ w : List Int, Eqv ((w.map (lt1 m)).flatten) (img m w)
  | [] => Eqv.rfl'
  | x :: w => by
    rw [List.map_cons, List.flatten_cons, img_cons]
    exact (lt1_eqv m x).app (img1_eqv m w)
theorem img1_len (m : List (List Int)) : ∀ w : List Int, ((w.map (lt1 m)).flatten).length ≤ (img m w).length
  | [] => by simp
  | x :: w => by
    rw [List.map_cons, List.flatten_cons, img_cons, List.length_append, List.length_append]
    have h1 := lt1_len m x
    have h2 := img1_len m w
    omega
/-- the letters themselves -/
def rest (n : Nat) : List (List Int) := (List.range n).map fun (i : Nat) => [1 + (i : Int)]
theorem rest_get {n j : Nat} (h : j < n) : (rest n).getD j [] = [1 + (j : Int)] := by simp [rest, List.getD, h]
theorem rest_Mp (n : Nat) : Mp n n (rest n) := by
  refine ⟨by simp [rest], ?_⟩
  intro w hw
  simp only [rest, List.mem_map, List.mem_range] at hw
  obtain ⟨i, hi, rfl⟩ := hw
  intro x hx
  simp at hx
  omega
theorem lt_rest {n : Nat} {x : Int} (hx : x ≠ 0) (h0 : -(n : Int) ≤ x) (h1 : x ≤ n) : lt (rest n) x = [x] := by
  unfold lt
  by_cases h : 0 < x
  · rw [if_pos h, rest_get (by omega)]; simp; omega
  · rw [if_neg h, rest_get (by omega)]; simp [back]; omega
theorem img_rest {n : Nat} : ∀ {w : List Int}, In n w → img (rest n) w = w
  | [], _ => rfl
  | x :: w, h => by
    have := h x (by simp)
    rw [img_cons, img_rest h.tl, lt_rest this.1 this.2.1 this.2.2]; rfl
end PD

/-! PM3: rules to run a body by simp. Pure. -/
namespace PD
open PySem (sizeLine)

theorem small_def (n : Nat) : small n = decide (n ≤ sizeLine) := rfl
/-- the statement at place n of a row of statements -/
def nth : S → Nat → S
  | .seq a _, 0 => a
  | .seq _ b, n + 1 => nth b n
  | s, _ => s
def retE : S → E
  | .ret e => e
  | .asg _ e => e
  | .ite c _ _ => c
  | _ => .cst .non
def argE : E → Nat → E
  | .call _ es, i => go es i
  | .blt _ es, i => go es i
  | e, _ => e
where go : Es → Nat → E
  | .nil, _ => .cst .non
  | .cons e _, 0 => e
  | .cons _ es, n + 1 => go es n
def thenS : S → S
  | .ite _ a _ => a
  | .fr _ _ _ b => b
  | s => s
def elseS : S → S
  | .ite _ _ b => b
  | s => s
theorem mul_ok {i j : Int} (hi : i.natAbs < 2 ^ 64) (hj : j.natAbs < 2 ^ 64) : mulOk i j = true := by
  have h : ∀ n : Nat, n < 2 ^ 64 → n.log2 < 64 := by
    intro n hn
    by_cases h0 : n = 0
    · subst h0; decide
    · exact (Nat.log2_lt h0).mpr hn
  have h1 := h _ hi
  have h2 := h _ hj
  exact decide_eq_true (by omega)
theorem div_ok {j : Int} (h : 0 < j) (hj : j.natAbs < 2 ^ 64) : divOk j = true := by
  have h : ∀ n : Nat, n < 2 ^ 64 → n.log2 < 64 := by
    intro n hn
    by_cases h0 : n = 0
    · subst h0; decide
    · exact (Nat.log2_lt h0).mpr hn
  have h1 := h _ hj
  exact decide_eq_true (by omega)
theorem mem_of_split {α : Type} {ys zs xs : List α} {a : α} (h : ys ++ a :: zs = xs) : a ∈ xs := by rw [← h]; simp
theorem len_of_split {α : Type} {ys zs xs : List α} {a : α} (h : ys ++ a :: zs = xs) : ys.length < xs.length := by rw [← h]; simp
theorem cutI_len (ns : List Int) (k : Nat) : (cutI ns none (some (k : Int))).length ≤ k := by
  unfold cutI
  rw [HT.sIx_none, HT.sIx_nat, List.length_take]
  omega
/-- numbers drawn -/
def Dr (fs : List Int) : Prop := ∀ x ∈ fs, 0 ≤ x ∧ x < 1000003
theorem Dr.nil : Dr [] := fun _ h => by cases h
theorem Dr.app {fs : List Int} {x : Int} (h : Dr fs) (h0 : 0 ≤ x) (h1 : x < 1000003) : Dr (fs ++ [x]) := fun y hy => by
  rcases List.mem_append.mp hy with hy | hy
  · exact h y hy
  · simp at hy; omega
theorem Dr.get {fs : List Int} (h : Dr fs) (j : Nat) : 0 ≤ fs.getD j 0 ∧ fs.getD j 0 < 1000003 := by
  by_cases hj : j < fs.length
  · refine h _ ?_
    simp [List.getD, hj]
  · simp [List.getD, List.getElem?_eq_none (Nat.le_of_not_lt hj)]
/-- a number drawn, as the laws take it -/
def cellF (ds : List Int) (k : Int) : Int := if k < ds.length then ds.getD k.toNat 0 else (ds.getD (k % (ds.length : Int)).toNat 0 * 31 + ds.getD (7 * k % (ds.length : Int)).toNat 0 * 17 + 101 * k) % 1000003
theorem cellF_rng {ds : List Int} (h : Dr ds) (k : Int) : 0 ≤ cellF ds k ∧ cellF ds k < 1000003 := by
  unfold cellF
  split
  · exact h.get _
  · omega
def letF (ds : List Int) (at' L : Int) (k : Nat) : Int := (1 + cellF ds (at' + (0 + (k : Int))) / 3 % (2 * L) / 2) * (1 - 2 * (cellF ds (at' + (0 + (k : Int))) / 3 % (2 * L) % 2))
def wordF (ds : List Int) (at' L len : Int) : List Int := (List.range len.toNat).map (letF ds at' L)
theorem wordF_len (ds : List Int) (at' L len : Int) : (wordF ds at' L len).length = len.toNat := by simp [wordF]
theorem letF_in {ds : List Int} (at' : Int) {L : Int} (hL : 0 < L) (k : Nat) : letF ds at' L k ≠ 0 ∧ -L ≤ letF ds at' L k ∧ letF ds at' L k ≤ L := by
  unfold letF
  generalize cellF ds (at' + (0 + (k : Int))) / 3 = c
  have h0 := Int.emod_nonneg c (b := 2 * L) (by omega)
  have h1 := Int.emod_lt_of_pos c (b := 2 * L) (by omega)
  generalize c % (2 * L) = e at h0 h1 ⊢
  have h2 : e % 2 = 0 ∨ e % 2 = 1 := by omega
  rcases h2 with h2 | h2 <;> rw [h2] <;> omega
theorem wordF_in {ds : List Int} (at' : Int) {L : Nat} (hL : 0 < L) (len : Int) : In L (wordF ds at' L len) := by
  intro x hx
  simp only [wordF, List.mem_map] at hx
  obtain ⟨k, _, rfl⟩ := hx
  exact letF_in at' (by omega) k
def mapF (ds : List Int) (at' L most : Int) : List (List Int) := (List.range L.toNat).map fun (k : Nat) => wordF ds (at' + 9 * (0 + (k : Int)) + 1) L (cellF ds (at' + 4 * (0 + (k : Int))) % (most + 1))
theorem mapF_Mp {ds : List Int} (at' : Int) {L : Nat} (hL : 0 < L) (most : Int) : Mp L L (mapF ds at' L most) := by
  refine ⟨by simp [mapF], ?_⟩
  intro w hw
  simp only [mapF, List.mem_map] at hw
  obtain ⟨k, _, rfl⟩ := hw
  exact wordF_in _ hL _
theorem mapF_len {ds : List Int} (at' L : Int) {most : Int} (hm : 0 ≤ most) : ∀ w ∈ mapF ds at' L most, w.length ≤ most.toNat := by
  intro w hw
  simp only [mapF, List.mem_map] at hw
  obtain ⟨k, _, rfl⟩ := hw
  rw [wordF_len]
  have := Int.emod_lt_of_pos (cellF ds (at' + 4 * (0 + (k : Int)))) (b := most + 1) (by omega)
  omega
theorem fold_app {α β : Type} (g : α → β) : ∀ (xs : List α) (b : List β), xs.foldl (fun b x => b ++ [g x]) b = b ++ xs.map g
  | [], b => by simp
  | x :: xs, b => by simp [fold_app g xs]
theorem fold_cat {α β : Type} (g : α → List β) : ∀ (xs : List α) (b : List β), xs.foldl (fun b x => b ++ g x) b = b ++ xs.flatMap g
  | [], b => by simp
  | x :: xs, b => by simp [fold_cat g xs]
theorem dz : decide ((0 : Int) < ((0 : Nat) : Int)) = false := rfl
theorem dpos {α : Type} (xs : List α) (x : α) : decide ((0 : Int) < ((xs ++ [x]).length : Int)) = true := by simp
def sq (o : Option Out) (k : Nv → Option Out) : Option Out := match o with | some (.nx σ) => k σ | r => r
theorem sq_nx (σ : Nv) (k) : sq (some (.nx σ)) k = k σ := rfl
theorem sq_rt (σ : Nv) (d n) (k) : sq (some (.rt σ d n)) k = some (.rt σ d n) := rfl
def ic (o : Option Bool) (f g : Nv → Option Out) (σ : Nv) : Option Out := match o with | some true => f σ | some false => g σ | none => none
theorem ic_t (f g : Nv → Option Out) (σ : Nv) : ic (some true) f g σ = f σ := rfl
theorem ic_f (f g : Nv → Option Out) (σ : Nv) : ic (some false) f g σ = g σ := rfl
section
variable {Φ : PhiT} {own : List Nat} {ret : Nat}
theorem x_skip (σ : Nv) : exec Φ own ret .skip σ = some (.nx σ) := rfl
theorem x_seq (a b : S) (σ : Nv) : exec Φ own ret (.seq a b) σ = sq (exec Φ own ret a σ) (exec Φ own ret b) := by
  show (match exec Φ own ret a σ with | some (.nx σ1) => exec Φ own ret b σ1 | r => r) = sq _ _
  unfold sq
  rfl
theorem x_ite (c : E) (a b : S) (σ : Nv) : exec Φ own ret (.ite c a b) σ = ic (condE Φ c σ) (exec Φ own ret a) (exec Φ own ret b) σ := by
  show (match condE Φ c σ with | some true => exec Φ own ret a σ | some false => exec Φ own ret b σ | none => none) = _
  unfold ic
  rfl
def setO (own : List Nat) (t : Tg) (vs : List Nat) (σ : Nv) : Option (D × Nat) → Option Out
  | some (d, k) => match setT own t d k (esc σ vs d k) with | some σ1 => some (.nx σ1) | none => none
  | none => none
theorem x_asg (t : Tg) (e : E) (σ : Nv) : exec Φ own ret (.asg t e) σ = setO own t (vars e) σ (evalE Φ e σ) := by
  show (match evalE Φ e σ with | some (d, k) => (match setT own t d k (esc σ (vars e) d k) with | some σ1 => some (Out.nx σ1) | none => none) | none => none) = _
  unfold setO
  rfl
theorem setO_one (i : Nat) (vs : List Nat) (σ : Nv) (d : D) (k : Nat) : setO own (.one i) vs σ (some (d, k)) = if own.getD i 0 ≤ k then some (.nx ((esc σ vs d k).set i (some (d, own.getD i 0)))) else none := by
  simp only [setO, setT, setV]
  by_cases h : own.getD i 0 ≤ k
  · rw [if_pos h, if_pos h]
  · rw [if_neg h, if_neg h]
def parO (own : List Nat) (Φ : PhiT) (i j : Nat) (va : List Nat) (b : E) (σ : Nv) : Option (D × Nat) → Option Out
  | some (d, k) => match evalE Φ b (esc σ va d k) with
    | some (e, l) => match setV own i d k (esc (esc σ va d k) (vars b) e l) with
      | some σ1 => match setV own j e l σ1 with
        | some σ2 => some (.nx σ2)
        | none => none
      | none => none
    | none => none
  | none => none
theorem x_par (i j : Nat) (a b : E) (σ : Nv) : exec Φ own ret (.par i j a b) σ = parO own Φ i j (vars a) b σ (evalE Φ a σ) := by
  show (match evalE Φ a σ with | some (d, k) => _ | none => none) = _
  unfold parO
  rfl
theorem parO_some (i j : Nat) (va : List Nat) (b : E) (σ : Nv) (d : D) (k : Nat) : parO own Φ i j va b σ (some (d, k)) = (match evalE Φ b (esc σ va d k) with
    | some (e, l) => match setV own i d k (esc (esc σ va d k) (vars b) e l) with
      | some σ1 => match setV own j e l σ1 with
        | some σ2 => some (.nx σ2)
        | none => none
      | none => none
    | none => none) := rfl
theorem x_ret (e : E) (σ : Nv) : exec Φ own ret (.ret e) σ = (match evalE Φ e σ with | some (d, k) => if ret ≤ k then some (.rt σ d ret) else none | none => none) := rfl
theorem x_retv (i : Nat) (σ : Nv) : exec Φ own ret (.retv i) σ = (match σ[i]? with | some (some (d, k)) => if ret ≤ fr d k then some (.rt σ d ret) else none | _ => none) := rfl
theorem x_rett (rs : List RT) (σ : Nv) : exec Φ own ret (.rett rs) σ = (match mvR rs σ with
    | some r => if decide (RT.slots rs).Nodup && small r.length && decide (ret ≤ minK r) then some (.rt σ (.tup (r.map (·.1))) ret) else none
    | none => none) := rfl
theorem x_app (p : Pth) (e : E) (σ : Nv) : exec Φ own ret (.app p e) σ = (match pthD Φ σ p with
    | some r => match evalE Φ e σ with
      | some (d, k) => match chgR r p.root (appD d k) (esc σ (vars e) d k) with
        | some σ1 => some (.nx σ1)
        | none => none
      | none => none
    | none => none) := rfl
theorem x_pop (p : Pth) (σ : Nv) : exec Φ own ret (.pop none p) σ = (match pthD Φ σ p with
      | some r => match chgR r p.root popD σ with
        | some σ1 => some (.nx σ1)
        | none => none
      | none => none) := rfl
theorem x_put (p : Pth) (i v : E) (σ : Nv) : exec Φ own ret (.put p i v) σ = (match evalE Φ v σ with
    | some (d, k) => match pthD Φ (esc σ (vars v) d k) p with
      | some r => match evalE Φ i (esc σ (vars v) d k) with
        | some (j, _) => match chgR r p.root (putD j d k) (esc σ (vars v) d k) with
          | some σ1 => some (.nx σ1)
          | none => none
        | none => none
      | none => none
    | none => none) := rfl
theorem x_put2 (p : Pth) (i : E) (q : Pth) (j e : E) (σ : Nv) : exec Φ own ret (.put2 p i q j e) σ = (match evalE Φ e σ with
    | some (.tup [d, d'], k) => match pthD Φ (esc σ (vars e) (.tup [d, d']) k) p with
      | some r => match evalE Φ i (esc σ (vars e) (.tup [d, d']) k) with
        | some (x, _) => match chgR r p.root (putD x d k) (esc σ (vars e) (.tup [d, d']) k) with
          | some σ1 => match pthD Φ σ1 q with
            | some r' => match evalE Φ j σ1 with
              | some (y, _) => match chgR r' q.root (putD y d' k) σ1 with
                | some σ2 => some (.nx σ2)
                | none => none
              | none => none
            | none => none
          | none => none
        | none => none
      | none => none
    | _ => none) := rfl
def itE (Φ : PhiT) (ik : Itk) (it : Es) (σ : Nv) : Option (List D) := match evalEs Φ it σ with | some r => itD ik (r.map (·.1)) | none => none
theorem itE_def (ik : Itk) (it : Es) (σ : Nv) : itE Φ ik it σ = (match evalEs Φ it σ with | some r => itD ik (r.map (·.1)) | none => none) := rfl
theorem x_fr {t : Tg} {ik : Itk} {it : Es} {b : S} {σ : Nv} {ds : List D} {r : Option Out} (h : itE Φ ik it σ = some ds)
    (hr : forL (exec Φ own ret b) (fun d σ => setT own t d (fr d 0) σ) ds (if isRng ik then σ else esc0 σ (varsS it)) = r) : exec Φ own ret (.fr t ik it b) σ = r := by
  show (match evalEs Φ it σ with
    | some r => (match itD ik (r.map (·.1)) with
      | some ds => forL (exec Φ own ret b) (fun d σ => setT own t d (fr d 0) σ) ds (if isRng ik then σ else esc0 σ (varsS it))
      | none => none)
    | none => none) = r
  unfold itE at h
  cases e : evalEs Φ it σ with
  | none => rw [e] at h; cases h
  | some r' => rw [e] at h; simp only at h; simp only [h]; exact hr
/-- a loop by an invariant -/
theorem x_frI {α β : Type} (I : β → Nv → Prop) (step : β → α → β) (e : α → D) (xs : List α) (b : β) {t : Tg} {ik : Itk} {it : Es} {bd : S} {σ : Nv} (h : itE Φ ik it σ = some (xs.map e))
    (h0 : I b (if isRng ik then σ else esc0 σ (varsS it)))
    (hb : ∀ a ∈ xs, ∀ b σ, I b σ → ∃ σ1, setT own t (e a) (fr (e a) 0) σ = some σ1 ∧ ∃ σ2, (exec Φ own ret bd σ1 = some (.nx σ2) ∨ exec Φ own ret bd σ1 = some (.ct σ2)) ∧ I (step b a) σ2) :
    ∃ σ', exec Φ own ret (.fr t ik it bd) σ = some (.nx σ') ∧ I (xs.foldl step b) σ' := by
  obtain ⟨σ', h1, h2⟩ := forL_inv I step (xs := xs) (e := e) (body := exec Φ own ret bd) (bnd := fun d σ => setT own t d (fr d 0) σ) hb h0
  exact ⟨σ', x_fr h h1, h2⟩
theorem x_frP {α β : Type} (I : β → Nv → Prop) (P : List α → β → Prop) (step : β → α → β) (e : α → D) (xs : List α) (b : β) {t : Tg} {ik : Itk} {it : Es} {bd : S} {σ : Nv} (h : itE Φ ik it σ = some (xs.map e))
    (h0 : I b (if isRng ik then σ else esc0 σ (varsS it))) (hP : P [] b)
    (hb : ∀ a ys zs b σ, ys ++ a :: zs = xs → P ys b → I b σ → (∃ σ1, setT own t (e a) (fr (e a) 0) σ = some σ1 ∧ ∃ σ2, (exec Φ own ret bd σ1 = some (.nx σ2) ∨ exec Φ own ret bd σ1 = some (.ct σ2)) ∧ I (step b a) σ2) ∧ P (ys ++ [a]) (step b a)) :
    ∃ σ', exec Φ own ret (.fr t ik it bd) σ = some (.nx σ') ∧ I (xs.foldl step b) σ' ∧ P xs (xs.foldl step b) := by
  obtain ⟨σ', h1, h2, h3⟩ := forL_invP xs I P step (ys := []) (xs := xs) (e := e) (body := exec Φ own ret bd) (bnd := fun d σ => setT own t d (fr d 0) σ) hb rfl hP h0
  exact ⟨σ', x_fr h h1, h2, h3⟩
/-- a loop, by what holds after the items done -/
theorem x_frQ {α : Type} (Q : List α → Nv → Prop) (e : α → D) (xs : List α) {t : Tg} {ik : Itk} {it : Es} {bd : S} {σ : Nv} (h : itE Φ ik it σ = some (xs.map e))
    (h0 : Q [] (if isRng ik then σ else esc0 σ (varsS it)))
    (hb : ∀ a ys zs σ, ys ++ a :: zs = xs → Q ys σ → ∃ σ1, setT own t (e a) (fr (e a) 0) σ = some σ1 ∧ ∃ σ2, (exec Φ own ret bd σ1 = some (.nx σ2) ∨ exec Φ own ret bd σ1 = some (.ct σ2)) ∧ Q (ys ++ [a]) σ2) :
    ∃ σ', exec Φ own ret (.fr t ik it bd) σ = some (.nx σ') ∧ Q xs σ' := by
  have key : ∀ (zs ys : List α) (σ : Nv), ys ++ zs = xs → Q ys σ → ∃ σ', forL (exec Φ own ret bd) (fun d σ => setT own t d (fr d 0) σ) (zs.map e) σ = some (.nx σ') ∧ Q xs σ' := by
    intro zs
    induction zs with
    | nil => intro ys σ hw hq; rw [List.append_nil] at hw; subst hw; exact ⟨σ, rfl, hq⟩
    | cons z zs ih =>
      intro ys σ hw hq
      obtain ⟨σ1, h1, σ2, h2, h3⟩ := hb z ys zs σ hw hq
      obtain ⟨σ', h4, h5⟩ := ih (ys ++ [z]) σ2 (by rw [← hw]; simp) h3
      refine ⟨σ', ?_, h5⟩
      simp only [List.map_cons, forL]
      rw [h1]
      rcases h2 with h2 | h2 <;> simp only [h2] <;> exact h4
  obtain ⟨σ', h1, h2⟩ := key xs [] _ rfl h0
  exact ⟨σ', x_fr h h1, h2⟩
def runR (ret : Nat) : Option Out → Option (D × Nat × D)
  | some (.nx _) => some (.non, ret, .non)
  | some (.rt _ d k) => some (d, k, .non)
  | _ => none
theorem runR_rt (ret : Nat) (σ : Nv) (d : D) (k : Nat) : runR ret (some (.rt σ d k)) = some (d, k, .non) := rfl
theorem runR_nx (ret : Nat) (σ : Nv) : runR ret (some (.nx σ)) = some (.non, ret, .non) := rfl
theorem runF_of {f : Fn} {ds : List D} (hn : ds.length = f.np) : runF Φ f ds = runR f.ret (exec Φ f.own f.ret f.body (ds.map (fun d => some (d, 0)) ++ List.replicate (f.ns - f.np) none)) := by
  unfold runF
  rw [if_pos hn]
  rfl
theorem runF_ret {f : Fn} {e : E} {ds : List D} {d : D} {k : Nat} (hb : f.body = .seq (.ret e) .skip) (hn : ds.length = f.np)
    (L : evalE Φ e (ds.map (fun d => some (d, 0)) ++ List.replicate (f.ns - f.np) none) = some (d, k)) (hr : f.ret ≤ k) : runF Φ f ds = some (d, f.ret, .non) := by
  unfold runF
  rw [if_pos hn, hb, x_seq, x_ret, L]
  simp only [if_pos hr, sq]
/-! comprehensions -/
def cmB (Φ : PhiT) (t : Tg) (own : List Nat) (c elt : E) (k : Nat) (σ : Nv) (d : D) : Option (Option D) := match bindT t d (wipe σ own) with
          | some σ2 => match evalE Φ c σ2 with
            | some (b, _) => match truth b with
              | some true => match evalE Φ elt σ2 with
                | some (x, k') => if k ≤ k' then some (some x) else none
                | none => none
              | some false => some none
              | none => none
            | none => none
          | none => none
theorem cmB_def (Φ : PhiT) (t : Tg) (own : List Nat) (c elt : E) (k : Nat) (σ : Nv) (d : D) : cmB Φ t own c elt k σ d = (match bindT t d (wipe σ own) with
          | some σ2 => match evalE Φ c σ2 with
            | some (b, _) => match truth b with
              | some true => match evalE Φ elt σ2 with
                | some (x, k') => if k ≤ k' then some (some x) else none
                | none => none
              | some false => some none
              | none => none
            | none => none
          | none => none) := rfl
theorem e_cmpr (t : Tg) (own : List Nat) (ik : Itk) (it : Es) (c elt : E) (k : Nat) (σ : Nv) : evalE Φ (.cmpr t own ik it c elt k) σ = (match itE Φ ik it σ with
      | some ds => match compL (cmB Φ t own c elt k σ) ds with
        | some xs => if small xs.length then some (.lst xs, up k) else none
        | none => none
      | none => none) := by
  simp only [evalE, itE]
  cases evalEs Φ it σ with
  | none => rfl
  | some r => rfl
theorem e_map {α : Type} (e g : α → D) (xs : List α) {t : Tg} {own : List Nat} {ik : Itk} {it : Es} {c elt : E} {k : Nat} {σ : Nv} (h : itE Φ ik it σ = some (xs.map e)) (hs : xs.length ≤ 16777216)
    (hb : ∀ a ∈ xs, cmB Φ t own c elt k σ (e a) = some (some (g a))) : evalE Φ (.cmpr t own ik it c elt k) σ = some (.lst (xs.map g), up k) := by
  rw [e_cmpr, h]
  simp only [compL_map (f := cmB Φ t own c elt k σ) (e := e) (g := g) hb]
  rw [List.length_map, if_pos (sm hs)]
theorem e_mapF {α β : Type} (e : α → D) (f : β → D) (g : α → β) (xs : List α) {t : Tg} {own : List Nat} {ik : Itk} {it : Es} {c elt : E} {k : Nat} {σ : Nv} (h : itE Φ ik it σ = some (xs.map e)) (hs : xs.length ≤ 16777216)
    (hb : ∀ a ∈ xs, cmB Φ t own c elt k σ (e a) = some (some (f (g a)))) : evalE Φ (.cmpr t own ik it c elt k) σ = some (eLs f (xs.map g), up k) := by
  rw [e_map e (fun a => f (g a)) xs h hs hb]
  simp [eLs]
theorem e_filt {α : Type} (e : α → D) (p : α → Bool) (g : α → D) (xs : List α) {t : Tg} {own : List Nat} {ik : Itk} {it : Es} {c elt : E} {k : Nat} {σ : Nv} (h : itE Φ ik it σ = some (xs.map e)) (hs : xs.length ≤ 16777216)
    (hb : ∀ a ∈ xs, cmB Φ t own c elt k σ (e a) = some (if p a then some (g a) else none)) : evalE Φ (.cmpr t own ik it c elt k) σ = some (.lst ((xs.filter p).map g), up k) := by
  rw [e_cmpr, h]
  simp only [compL_filt (f := cmB Φ t own c elt k σ) (e := e) (p := p) (g := g) hb]
  have := List.length_filter_le p xs
  rw [List.length_map, if_pos (sm (Nat.le_trans this hs))]
def cmB2 (Φ : PhiT) (t : Tg) (own : List Nat) (c : E) (t2 : Tg) (own2 : List Nat) (ik2 : Itk) (it2 : Es) (c2 elt : E) (k : Nat) (σ : Nv) (d : D) : Option (List D) := match bindT t d (wipe σ own) with
          | some σ2 => match evalE Φ c σ2 with
            | some (b, _) => match truth b with
              | some true => match itE Φ ik2 it2 σ2 with
                | some ds2 => compL (cmB Φ t2 own2 c2 elt k σ2) ds2
                | none => none
              | some false => some []
              | none => none
            | none => none
          | none => none
theorem cmB2_def (Φ : PhiT) (t : Tg) (own : List Nat) (c : E) (t2 : Tg) (own2 : List Nat) (ik2 : Itk) (it2 : Es) (c2 elt : E) (k : Nat) (σ : Nv) (d : D) : cmB2 Φ t own c t2 own2 ik2 it2 c2 elt k σ d = (match bindT t d (wipe σ own) with
          | some σ2 => match evalE Φ c σ2 with
            | some (b, _) => match truth b with
              | some true => match itE Φ ik2 it2 σ2 with
                | some ds2 => compL (cmB Φ t2 own2 c2 elt k σ2) ds2
                | none => none
              | some false => some []
              | none => none
            | none => none
          | none => none) := rfl
theorem e_cmp2 (t : Tg) (own : List Nat) (ik : Itk) (it : Es) (c : E) (t2 : Tg) (own2 : List Nat) (ik2 : Itk) (it2 : Es) (c2 elt : E) (k : Nat) (σ : Nv) : evalE Φ (.cmp2 t own ik it c t2 own2 ik2 it2 c2 elt k) σ = (match itE Φ ik it σ with
      | some ds => match compLL (cmB2 Φ t own c t2 own2 ik2 it2 c2 elt k σ) ds with
        | some xs => if small xs.length then some (.lst xs, up k) else none
        | none => none
      | none => none) := by
  have hh : (fun d => match bindT t d (wipe σ own) with
          | some σ2 => match evalE Φ c σ2 with
            | some (b, _) => match truth b with
              | some true => match evalEs Φ it2 σ2 with
                | some r2 => match itD ik2 (r2.map (·.1)) with
                  | some ds2 => compL (fun d2 => match bindT t2 d2 (wipe σ2 own2) with
                    | some σ3 => match evalE Φ c2 σ3 with
                      | some (b2, _) => match truth b2 with
                        | some true => match evalE Φ elt σ3 with
                          | some (x, k') => if k ≤ k' then some (some x) else none
                          | none => none
                        | some false => some none
                        | none => none
                      | none => none
                    | none => none) ds2
                  | none => none
                | none => none
              | some false => some []
              | none => none
            | none => none
          | none => none) = cmB2 Φ t own c t2 own2 ik2 it2 c2 elt k σ := by
    funext d
    unfold cmB2
    cases bindT t d (wipe σ own) with
    | none => rfl
    | some σ2 =>
      simp only
      cases evalE Φ c σ2 with
      | none => rfl
      | some b =>
        simp only
        cases truth b.1 with
        | none => rfl
        | some v =>
          cases v with
          | false => rfl
          | true =>
            simp only [itE]
            cases evalEs Φ it2 σ2 with
            | none => rfl
            | some r => simp only; rfl
  simp only [evalE, itE]
  cases evalEs Φ it σ with
  | none => rfl
  | some r =>
    simp only
    cases itD ik (r.map (·.1)) with
    | none => rfl
    | some ds => exact congrArg (fun f => match compLL f ds with
        | some xs => if small xs.length then some (D.lst xs, up k) else none
        | none => none) hh
theorem e_mapmap {α : Type} (e : α → D) (g : α → List D) (xs : List α) {t : Tg} {own : List Nat} {ik : Itk} {it : Es} {c : E} {t2 : Tg} {own2 : List Nat} {ik2 : Itk} {it2 : Es} {c2 elt : E} {k : Nat} {σ : Nv} (h : itE Φ ik it σ = some (xs.map e))
    (hb : ∀ a ∈ xs, cmB2 Φ t own c t2 own2 ik2 it2 c2 elt k σ (e a) = some (g a)) (hs : (xs.flatMap g).length ≤ 16777216) : evalE Φ (.cmp2 t own ik it c t2 own2 ik2 it2 c2 elt k) σ = some (.lst (xs.flatMap g), up k) := by
  rw [e_cmp2, h]
  simp only [compLL_map (f := cmB2 Φ t own c t2 own2 ik2 it2 c2 elt k σ) (e := e) (g := g) hb]
  rw [if_pos (sm hs)]
/-! expressions -/
theorem e_cst (d : D) (σ : Nv) : evalE Φ (.cst d) σ = some (d, 8) := rfl
theorem e_var (i : Nat) (σ : Nv) : evalE Φ (.var i) σ = (match σ[i]? with | some (some (d, _)) => some (d, fr d 0) | _ => none) := by simp only [evalE] <;> rfl
theorem e_lst (es : Es) (σ : Nv) : evalE Φ (.lst es) σ = (match evalEs Φ es σ with
    | some r => if small r.length then some (.lst (r.map (·.1)), up (minK r)) else none
    | none => none) := by simp only [evalE] <;> rfl
theorem e_tup (es : Es) (σ : Nv) : evalE Φ (.tup es) σ = (match evalEs Φ es σ with
    | some r => if small r.length then some (.tup (r.map (·.1)), minK r) else none
    | none => none) := by simp only [evalE] <;> rfl
theorem e_bin (op) (a b : E) (σ : Nv) : evalE Φ (.bin op a b) σ = (match evalE Φ a σ with
    | some (x, _) => match evalE Φ b σ with
      | some (y, _) => binD op x y
      | none => none
    | none => none) := by simp only [evalE] <;> rfl
theorem e_neg (a : E) (σ : Nv) : evalE Φ (.neg a) σ = (match evalE Φ a σ with
    | some (.int i, _) => some (.int (-i), 8)
    | _ => none) := by simp only [evalE] <;> rfl
theorem e_cmp (op) (a b : E) (σ : Nv) : evalE Φ (.cmp op a b) σ = (match evalE Φ a σ with
    | some (x, _) => match evalE Φ b σ with
      | some (y, _) => match cmpD op x y with
        | some r => some (.bl r, 8)
        | none => none
      | none => none
    | none => none) := by simp only [evalE] <;> rfl
theorem e_chn (op op') (a b c : E) (σ : Nv) : evalE Φ (.chn op op' a b c) σ = (match evalE Φ a σ with
    | some (x, _) => match evalE Φ b σ with
      | some (y, _) => match cmpD op x y with
        | some true => match evalE Φ c σ with
          | some (z, _) => match cmpD op' y z with
            | some r => some (.bl r, 8)
            | none => none
          | none => none
        | some false => some (.bl false, 8)
        | none => none
      | none => none
    | none => none) := by simp only [evalE] <;> rfl
/-- `and`, `or`: the second only where it is asked -/
def aB (o : Option (D × Nat)) (f : Nv → Option (D × Nat)) (σ : Nv) : Option (D × Nat) := match o with
    | some (x, k) => match truth x with
      | some true => f σ
      | some false => some (x, k)
      | none => none
    | none => none
def oB (o : Option (D × Nat)) (f : Nv → Option (D × Nat)) (σ : Nv) : Option (D × Nat) := match o with
    | some (x, k) => match truth x with
      | some true => some (x, k)
      | some false => f σ
      | none => none
    | none => none
theorem aB_t (k : Nat) (f) (σ : Nv) : aB (some (.bl true, k)) f σ = f σ := rfl
theorem aB_f (k : Nat) (f) (σ : Nv) : aB (some (.bl false, k)) f σ = some (.bl false, k) := rfl
theorem oB_t (k : Nat) (f) (σ : Nv) : oB (some (.bl true, k)) f σ = some (.bl true, k) := rfl
theorem oB_f (k : Nat) (f) (σ : Nv) : oB (some (.bl false, k)) f σ = f σ := rfl
theorem e_and (a b : E) (σ : Nv) : evalE Φ (.and a b) σ = aB (evalE Φ a σ) (evalE Φ b) σ := by simp only [evalE, aB] <;> rfl
theorem e_or (a b : E) (σ : Nv) : evalE Φ (.or a b) σ = oB (evalE Φ a σ) (evalE Φ b) σ := by simp only [evalE, oB] <;> rfl
theorem e_not (a : E) (σ : Nv) : evalE Φ (.not a) σ = (match evalE Φ a σ with
    | some (x, _) => match truth x with
      | some b => some (.bl (!b), 8)
      | none => none
    | none => none) := by simp only [evalE] <;> rfl
theorem e_idx (a b : E) (σ : Nv) : evalE Φ (.idx a b) σ = (match evalE Φ a σ with
    | some (x, _) => match evalE Φ b σ with
      | some (y, _) => match ixD x y with
        | some d => some (d, fr d 0)
        | none => none
      | none => none
    | none => none) := by simp only [evalE] <;> rfl
theorem e_sli (a : E) (lo hi : Es) (σ : Nv) : evalE Φ (.sli a lo hi) σ = (match evalE Φ a σ with
    | some (x, _) => match evalEs Φ lo σ with
      | some l => match evalEs Φ hi σ with
        | some h => match optInt l, optInt h with
          | some l, some h => sliD x l h
          | _, _ => none
        | none => none
      | none => none
    | none => none) := by simp only [evalE] <;> rfl
def bckD : D → Option (D × Nat)
  | .lst xs => some (.lst xs.reverse, 1)
  | _ => none
theorem e_bck (a : E) (σ : Nv) : evalE Φ (.bck a) σ = (match evalE Φ a σ with
    | some (x, _) => bckD x
    | none => none) := by
  simp only [evalE]
  cases h : evalE Φ a σ with
  | none => rfl
  | some p =>
    obtain ⟨x, k⟩ := p
    cases x <;> rfl
theorem e_blt (f : Blt) (es : Es) (σ : Nv) : evalE Φ (.blt f es) σ = (match evalEs Φ es σ with
    | some r => bltD f (r.map (·.1))
    | none => none) := by simp only [evalE] <;> rfl
theorem e_call (f : Nat) (es : Es) (σ : Nv) : evalE Φ (.call f es) σ = (match evalEs Φ es σ with
    | some r => match Φ f (r.map (·.1)) with
      | some (d, k, _) => some (d, fr d k)
      | none => none
    | none => none) := by simp only [evalE] <;> rfl
theorem es_nil (σ : Nv) : evalEs Φ .nil σ = some [] := by simp only [evalEs]
theorem es_cons (e : E) (es : Es) (σ : Nv) : evalEs Φ (.cons e es) σ = (match evalE Φ e σ with
    | some x => match evalEs Φ es σ with
      | some r => some (x :: r)
      | none => none
    | none => none) := by simp only [evalEs] <;> rfl
theorem cond_def (c : E) (σ : Nv) : condE Φ c σ = (match evalE Φ c σ with | some (d, _) => truth d | none => none) := rfl
end
/-! builtins at data of a kind -/
theorem add_i (i j : Int) : binD .Add (.int i) (.int j) = some (.int (i + j), 8) := rfl
theorem sub_i (i j : Int) : binD .Sub (.int i) (.int j) = some (.int (i - j), 8) := rfl
theorem mul_i (i j : Int) : binD .Mult (.int i) (.int j) = if mulOk i j then some (.int (i * j), 8) else none := rfl
theorem div_i (i j : Int) : binD .FloorDiv (.int i) (.int j) = if divOk j then some (.int (i / j), 8) else none := rfl
theorem mod_i (i j : Int) : binD .Mod (.int i) (.int j) = if 0 < j then some (.int (i % j), 8) else none := rfl
theorem pow_i (i j : Int) : binD .Pow (.int i) (.int j) = if 0 ≤ j ∧ j ≤ 1000000 ∧ i.natAbs < 2 ^ 64 then some (.int (i ^ j.toNat), 8) else none := rfl
theorem pow_18 : binD .Pow (.int 10) (.int 18) = some (.int 1000000000000000000, 8) := by
  rw [pow_i, if_pos (by decide)]
  rfl
theorem c_eq (d e : D) : cmpD .Eq d e = eqD d e := rfl
theorem c_ne (d e : D) : cmpD .NotEq d e = (eqD d e).map (!·) := rfl
theorem c_lt (i j : Int) : cmpD .Lt (.int i) (.int j) = some (decide (i < j)) := rfl
theorem c_le (i j : Int) : cmpD .LtE (.int i) (.int j) = some (decide (i ≤ j)) := rfl
theorem c_gt (i j : Int) : cmpD .Gt (.int i) (.int j) = some (decide (j < i)) := rfl
theorem c_ge (i j : Int) : cmpD .GtE (.int i) (.int j) = some (decide (j ≤ i)) := rfl
theorem c_is (d : D) : cmpD .Is d .non = some (isNon d) := rfl
theorem c_isn (d : D) : cmpD .IsNot d .non = some (!isNon d) := rfl
theorem isNon_n : isNon .non = true := rfl
theorem isNon_i (i : Int) : isNon (.int i) = false := rfl
theorem isNon_b (i : Bool) : isNon (.bl i) = false := rfl
theorem isNon_t (xs) : isNon (.tup xs) = false := rfl
theorem isNon_L (xs) : isNon (.lst xs) = false := rfl
theorem tr_b (b : Bool) : truth (.bl b) = some b := rfl
theorem tr_i (i : Int) : truth (.int i) = some (i != 0) := rfl
theorem tr_n : truth .non = some false := rfl
theorem abs_i (i : Int) : absD [.int i] = some (.int (if i < 0 then -i else i), 8) := rfl
theorem int_i (i : Int) : intD [.int i] = some (.int i, 8) := rfl
theorem max_i (i j : Int) : maxD [.int i, .int j] = some (.int (if j > i then j else i), 8) := rfl
theorem min_i (i j : Int) : minD [.int i, .int j] = some (.int (if j < i then j else i), 8) := rfl
theorem isD_i (p : String → Bool) (i : Int) : isD p [.int i] = some (.bl (p "int"), 8) := rfl
theorem isD_b (p : String → Bool) (i : Bool) : isD p [.bl i] = some (.bl (p "bool"), 8) := rfl
theorem isD_n (p : String → Bool) : isD p [.non] = some (.bl (p "NoneType"), 8) := rfl
theorem isD_t (p : String → Bool) (xs) : isD p [.tup xs] = some (.bl (p "tuple"), 8) := rfl
theorem isD_s (p : String → Bool) (xs) : isD p [.str xs] = some (.bl (p "str"), 8) := rfl
theorem isD_L (p : String → Bool) (xs) : isD p [.lst xs] = some (.bl (p "list"), 8) := rfl
theorem rng1_i (n : Int) : rng1D [.int n] = if -(2 ^ 62) ≤ n ∧ n < 2 ^ 62 then some ((List.range n.toNat).map fun i => .int (0 + ((i : Nat) : Int))) else none := rfl
theorem rng2_i (a b : Int) : rng2D [.int a, .int b] = if -(2 ^ 62) ≤ a ∧ a < 2 ^ 62 ∧ -(2 ^ 62) ≤ b ∧ b < 2 ^ 62 then some ((List.range (b - a).toNat).map fun i => .int (a + ((i : Nat) : Int))) else none := rfl
theorem rng1_k (k : Nat) (hk : k ≤ 16777216) : rng1D [.int (k : Int)] = some ((List.range k).map fun (i : Nat) => .int (0 + (i : Int))) := by
  rw [rng1_i, if_pos (by omega), Int.toNat_natCast]
theorem rng1_v (n : Int) (h : n ≤ 16777216) (h0 : 0 ≤ n) : rng1D [.int n] = some ((List.range n.toNat).map fun (i : Nat) => .int (0 + (i : Int))) := by
  rw [rng1_i, if_pos (by omega)]
theorem rng2_v (n : Int) (h : n ≤ 16777216) (h0 : 0 ≤ n) : rng2D [.int 1, .int (n + 1)] = some ((List.range n.toNat).map fun (i : Nat) => .int (1 + (i : Int))) := by
  rw [rng2_i, if_pos (by omega)]
  have e : (n + 1 - 1).toNat = n.toNat := by omega
  rw [e]
theorem rng2_k (k : Nat) (hk : k ≤ 16777216) : rng2D [.int 1, .int ((k : Int) + 1)] = some ((List.range k).map fun (i : Nat) => .int (1 + (i : Int))) := by
  rw [rng2_i, if_pos (by omega)]
  have e : ((k : Int) + 1 - 1).toNat = k := by omega
  rw [e]
theorem u_0 : up 0 = 1 := rfl
theorem u_1 : up 1 = 2 := rfl
theorem u_2 : up 2 = 3 := rfl
theorem u_3 : up 3 = 4 := rfl
theorem u_8 : up 8 = 8 := rfl
theorem d_0 : dn 0 = 0 := rfl
theorem d_1 : dn 1 = 0 := rfl
theorem d_2 : dn 2 = 1 := rfl
theorem d_3 : dn 3 = 2 := rfl
theorem d_4 : dn 4 = 3 := rfl
theorem d_8 : dn 8 = 8 := rfl
theorem val_L (xs) : valD [.lst xs] = some xs := rfl
theorem val_t (xs) : valD [.tup xs] = some xs := rfl
theorem ix_L (xs) (i : Int) : ixD (.lst xs) (.int i) = L2.atI xs i := rfl
theorem ix_t (xs) (i : Int) : ixD (.tup xs) (.int i) = L2.atI xs i := rfl
theorem at_0 {α : Type} (x : α) (xs : List α) : L2.atI (x :: xs) 0 = some x := L2.atI_nat (j := 0) rfl
theorem at_1 {α : Type} (x y : α) (xs : List α) : L2.atI (x :: y :: xs) 1 = some y := L2.atI_nat (j := 1) rfl
theorem at_2 {α : Type} (x y z : α) (xs : List α) : L2.atI (x :: y :: z :: xs) 2 = some z := L2.atI_nat (j := 2) rfl
theorem cat_isEmpty {α : Type} (xs : List α) (x : α) : (xs ++ [x]).isEmpty = false := by cases xs <;> rfl
/-! rules for lists of a kind -/
section
variable {α : Type} (f : α → D) (xs ys : List α)
theorem imm_l : imm (eLs f xs) = false := by simp [eLs, imm]
theorem fr_l (k : Nat) : fr (eLs f xs) k = k := by simp [fr, imm_l]
theorem fr_i (i : Int) (k : Nat) : fr (.int i) k = 8 := by simp [fr, imm]
theorem fr_b (b : Bool) (k : Nat) : fr (.bl b) k = 8 := by simp [fr, imm]
theorem fr_n (k : Nat) : fr .non k = 8 := by simp [fr, imm]
theorem fr_s (s) (k : Nat) : fr (.str s) k = 8 := by simp [fr, imm]
theorem fr_lst (xs : List D) (k : Nat) : fr (.lst xs) k = k := by simp [fr, imm]
theorem lenD_l : lenD [eLs f xs] = some (.int xs.length, 8) := by simp [eLs, lenD]
theorem listD_l : listD [eLs f xs] = some (eLs f xs, 1) := by simp [eLs, listD]
theorem valD_l : valD [eLs f xs] = some (xs.map f) := by simp [eLs, valD]
theorem revD_l : revD [eLs f xs] = some (xs.reverse.map f) := by simp [eLs, revD]
theorem bckD_l : bckD (eLs f xs) = some (eLs f xs.reverse, 1) := by simp [eLs, bckD]
theorem truth_l : truth (eLs f xs) = some (!xs.isEmpty) := by cases xs <;> simp [eLs, truth]
theorem isD_l (p : String → Bool) : isD p [eLs f xs] = some (.bl (p "list"), 8) := by simp [eLs, isD, tyOf]
theorem isNon_l : isNon (eLs f xs) = false := by simp [eLs, isNon]
theorem add_l : binD .Add (eLs f xs) (eLs f ys) = if small (xs.length + ys.length) then some (eLs f (xs ++ ys), 1) else none := by simp [eLs, binD]
theorem popD_l (k : Nat) : popD (eLs f xs) k = if xs.isEmpty then none else some (eLs f xs.dropLast) := by simp [eLs, popD, List.map_dropLast]
theorem appD_l (k kx : Nat) (y : α) : appD (f y) kx (eLs f xs) k = if xs.length < sizeLine ∧ dn k ≤ kx then some (eLs f (xs ++ [y])) else none := by simp [eLs, appD]
theorem putD_l (k kx : Nat) (i : Int) (y : α) (j : Nat) (h : L2.ixN xs.length i = some j) : putD (.int i) (f y) kx (eLs f xs) k = if dn k ≤ kx then some (eLs f (xs.set j y)) else none := by simp [eLs, putD, h, List.map_set]
theorem sliD_l (lo hi : Option Int) : sliD (eLs f xs) lo hi = some (eLs f ((xs.drop (HT.sIx xs.length 0 lo)).take (HT.sIx xs.length xs.length hi - HT.sIx xs.length 0 lo)), 1) := by
  simp [eLs, sliD, cut, List.map_take, List.map_drop]
theorem cat_map {β : Type} (g : β → α) (zs : List β) : D.lst (zs.map fun z => f (g z)) = eLs f (zs.map g) := by simp [eLs]
theorem fold_l (zs : List α) : D.lst (zs.map f) = eLs f zs := rfl
theorem sum_l (xs : List Int) : sumD [eW xs] = some (.int xs.sum, 8) := by
  show (match intsOf (xs.map D.int) with | some ns => some (D.int ns.sum, 8) | none => none) = _
  rw [intsOf_map]
theorem covL_I : ∀ (k : Nat) (xs : List Int), cov.covL k (xs.map D.int) = true
  | _, [] => by simp [cov.covL]
  | k, x :: xs => by simp [cov.covL, cov, covL_I k xs]
theorem cov_W (k : Nat) (h : 1 ≤ k) (xs : List Int) : cov k (eW xs) = true := by
  have : k ≠ 0 := by omega
  simp [eLs, cov, this, covL_I]
theorem dn_pos {k : Nat} (h : 2 ≤ k) : 1 ≤ dn k := by unfold dn; split <;> omega
theorem covL_W : ∀ (k : Nat) (h : 1 ≤ k) (xs : List (List Int)), cov.covL k (xs.map eW) = true
  | _, _, [] => by simp [cov.covL]
  | k, h, x :: xs => by simp [cov.covL, cov_W k h, covL_W k h xs]
theorem cov_M (k : Nat) (h : 2 ≤ k) (xs : List (List Int)) : cov k (eM xs) = true := by
  have : k ≠ 0 := by omega
  have h1 := covL_W (dn k) (dn_pos h) xs
  simp [eLs, cov, this] at h1 ⊢
  exact h1
theorem eqD_MWr (m : List (List Int)) (w : List Int) : eqD (.lst [eM m, eW w]) (.lst [eM m, eW w]) = some true := by
  have := (encM.lpair encW.weak).eqD (by decide) (m, w) (m, w)
  simpa [eLP] using this
theorem eqD_MMr (m w : List (List Int)) : eqD (.lst [eM m, eM w]) (.lst [eM m, eM w]) = some true := by
  have := (encM.lpair encM).eqD (by decide) (m, w) (m, w)
  simpa [eLP] using this
theorem chg_i (fn : D → Nat → Option D) (r : List D) (i : Int) (k : Nat) (j : Nat) (x y : α) (h : L2.ixN xs.length i = some j) (hx : xs[j]? = some x) (hk : k ≠ 0) (hy : chg fn r (f x) (dn k) = some (f y)) : chg fn (.int i :: r) (eLs f xs) k = some (eLs f (xs.set j y)) := by
  simp [eLs, chg, h, hx, hk, hy, List.map_set]
theorem nil_W : D.lst [] = eLs f [] := rfl
theorem one_W (a : α) : D.lst [f a] = eLs f [a] := rfl
end
end PD

/-! PM4: maps of letters and their ways back. Pure. -/
namespace PD
theorem push_neg' {s : List Int} (h : rd s) (x : Int) : push (push s (-x)) x = s := by
  have := push_neg h (-x)
  rwa [Int.neg_neg] at this
theorem ix_of {n : Nat} {i : Int} (h0 : 0 ≤ i) (h1 : i < n) : L2.ixN n i = some i.toNat := by
  unfold L2.ixN
  rw [if_pos h0, if_pos h1]
theorem set_get {l : List (List Int)} {p j : Nat} {w : List Int} (hj : j < l.length) : (l.set p w).getD j [] = if p = j then w else l.getD j [] := by
  simp only [List.getD, List.getElem?_set]
  by_cases h : p = j
  · subst h; simp [hj]
  · simp [h]
theorem set_mem {l : List (List Int)} {p : Nat} {w v : List Int} (h : v ∈ l.set p w) : v = w ∨ v ∈ l := (List.mem_or_eq_of_mem_set h).symm
structure StepOk (L : Nat) (S U : List (List Int)) : Prop where
  s : Mp L L S
  u : Mp L L U
  sl : ∀ w ∈ S, w.length ≤ 2
  ul : ∀ w ∈ U, w.length ≤ 2
  su : ∀ j < L, Eqv (img U (S.getD j [])) [1 + (j : Int)]
  us : ∀ j < L, Eqv (img S (U.getD j [])) [1 + (j : Int)]
theorem Mp.get {L n : Nat} {S : List (List Int)} (h : Mp L n S) {j : Nat} (hj : j < L) : In n (S.getD j []) := by
  have hj' : j < S.length := by rw [h.1]; exact hj
  refine h.2 _ ?_
  simp [List.getD, hj']
theorem inv_lt {L : Nat} {S U : List (List Int)} (hs : Mp L L S) (su : ∀ j < L, Eqv (img U (S.getD j [])) [1 + (j : Int)]) {x : Int} (hx : x ≠ 0 ∧ -(L : Int) ≤ x ∧ x ≤ L) : Eqv (img U (lt S x)) [x] := by
  unfold lt
  by_cases h : 0 < x
  · rw [if_pos h]
    have := su (x - 1).toNat (by omega)
    rwa [show (1 : Int) + ((x - 1).toNat : Int) = x by omega] at this
  · rw [if_neg h, img_back U (hs.get (by omega)).nz]
    have := (su (-x - 1).toNat (by omega)).back
    rw [show (1 : Int) + ((-x - 1).toNat : Int) = -x by omega] at this
    simpa [back] using this
theorem inv_img {L : Nat} {S U : List (List Int)} (hs : Mp L L S) (su : ∀ j < L, Eqv (img U (S.getD j [])) [1 + (j : Int)]) : ∀ {w : List Int}, In L w → Eqv (img U (img S w)) w
  | [], _ => Eqv.rfl'
  | x :: w, h => by
    rw [img_cons, img_append]
    exact (inv_lt hs su (h x (by simp))).app (inv_img hs su h.tl)
/-- T there, B back -/
structure WB (L : Nat) (T B : List (List Int)) : Prop where
  t : Mp L L T
  b : Mp L L B
  tl : ∀ w ∈ T, w.length ≤ 60
  bl : ∀ w ∈ B, w.length ≤ 60
  tb : after T B = rest L
  bt : after B T = rest L
theorem after_rest_iff {L : Nat} {T B : List (List Int)} (ht : T.length = L) : after T B = rest L ↔ ∀ j < L, red (img B (T.getD j [])) = [1 + (j : Int)] := by
  constructor
  · intro h j hj
    have h1 : (after T B).getD j [] = [1 + (j : Int)] := by rw [h, rest_get hj]
    have hj' : j < T.length := by omega
    simpa [after, List.getD, hj'] using h1
  · intro h
    apply List.ext_getElem
    · simp [after, rest, ht]
    · intro j h1 h2
      have hj : j < L := by simpa [rest] using h2
      have := h j hj
      have hj' : j < T.length := by omega
      simp only [List.getD, List.getElem?_eq_getElem hj', Option.getD_some] at this
      simp [after, rest, this]
theorem WB.eqs {L : Nat} {T B : List (List Int)} (ht : T.length = L) (h : after T B = rest L) : ∀ j < L, Eqv (img B (T.getD j [])) [1 + (j : Int)] := fun j hj => Eqv.iff.mp (((after_rest_iff ht).mp h j hj).trans (Red.one _).symm)
theorem WB.rest (L : Nat) : WB L (rest L) (rest L) := by
  have hl : ∀ w ∈ PD.rest L, w.length ≤ 60 := by
    intro w hw
    simp only [PD.rest, List.mem_map] at hw
    obtain ⟨i, _, rfl⟩ := hw
    simp
  have he : after (PD.rest L) (PD.rest L) = PD.rest L := by
    rw [after_rest_iff (by simp [PD.rest])]
    intro j hj
    rw [rest_get hj, img_rest (by intro x hx; simp at hx; omega)]
    exact Red.one _
  exact ⟨rest_Mp L, rest_Mp L, hl, hl, he, he⟩
theorem after_get {T B : List (List Int)} {j : Nat} (hj : j < T.length) : (after T B).getD j [] = red (img B (T.getD j [])) := by simp [after, List.getD, hj]
theorem WB.step {L : Nat} {T B S U : List (List Int)} (h : WB L T B) (hs : StepOk L S U) (hl1 : ∀ w ∈ after T S, w.length ≤ 60) (hl2 : ∀ w ∈ after U B, w.length ≤ 60) : WB L (after T S) (after U B) := by
  have m1 := h.t.after hs.s
  have m2 := hs.u.after h.b
  refine ⟨m1, m2, hl1, hl2, ?_, ?_⟩
  · rw [after_rest_iff m1.1]
    intro j hj
    have hT := h.t.get hj
    rw [after_get (by rw [h.t.1]; exact hj), ← (after_rest_iff h.t.1).mp h.tb j hj]
    apply Eqv.eq
    have i1 : In L (img S (T.getD j [])) := In.img hs.s hT
    refine (img_red _ i1.nz).trans ?_
    refine (img_after U B hs.u i1).trans ?_
    exact img_eqv B (In.img hs.u i1).nz hT.nz (inv_img hs.s hs.su hT)
  · rw [after_rest_iff m2.1]
    intro j hj
    have hU := hs.u.get hj
    rw [after_get (by rw [hs.u.1]; exact hj), ← Red.one (1 + (j : Int))]
    apply Eqv.eq
    have i1 : In L (img B (U.getD j [])) := In.img h.b hU
    refine (img_red _ i1.nz).trans ?_
    refine (img_after T S h.t i1).trans ?_
    refine (img_eqv S (In.img h.t i1).nz hU.nz (inv_img h.b (WB.eqs h.b.1 h.bt) hU)).trans ?_
    exact hs.us j hj

theorem restset_get {L p j : Nat} {w : List Int} (hj : j < L) : ((rest L).set p w).getD j [] = if p = j then w else [1 + (j : Int)] := by
  rw [set_get (by simp [rest, hj]), rest_get hj]
theorem restset_Mp {L p : Nat} {w : List Int} (hw : In L w) : Mp L L ((rest L).set p w) := by
  refine ⟨by simp [rest], ?_⟩
  intro v hv
  rcases set_mem hv with rfl | hv
  · exact hw
  · exact (rest_Mp L).2 v hv
theorem restset_len {L p : Nat} {w : List Int} (hw : w.length ≤ 2) : ∀ v ∈ (rest L).set p w, v.length ≤ 2 := by
  intro v hv
  rcases set_mem hv with rfl | hv
  · exact hw
  · simp only [rest, List.mem_map] at hv
    obtain ⟨i, _, rfl⟩ := hv
    simp
theorem lt_pos {m : List (List Int)} {x : Int} (h : 0 < x) : lt m x = m.getD (x - 1).toNat [] := if_pos h
theorem lt_npos {m : List (List Int)} {x : Int} (h : 0 < x) : lt m (-x) = back (m.getD (x - 1).toNat []) := by rw [lt_neg m (by omega), lt_pos h]
/-- one letter goes to a word, the rest stay -/
theorem StepOk.one {L : Nat} {x : Int} {w v : List Int} (hx : 0 < x) (hL : x ≤ L) (iw : In L w) (iv : In L v) (lw : w.length ≤ 2) (lv : v.length ≤ 2)
    (e1 : Eqv (img ((PD.rest L).set (x - 1).toNat v) w) [x]) (e2 : Eqv (img ((PD.rest L).set (x - 1).toNat w) v) [x]) : StepOk L ((PD.rest L).set (x - 1).toNat w) ((PD.rest L).set (x - 1).toNat v) := by
  refine ⟨restset_Mp iw, restset_Mp iv, restset_len lw, restset_len lv, ?_, ?_⟩
  · intro j hj
    rw [restset_get hj]
    by_cases h : (x - 1).toNat = j
    · rw [if_pos h, show (1 : Int) + (j : Int) = x by omega]; exact e1
    · rw [if_neg h, img_cons, img_nil, List.append_nil, lt_pos (by omega), restset_get (by omega), if_neg (by omega)]
      exact Eqv.of (by congr 1; omega)
  · intro j hj
    rw [restset_get hj]
    by_cases h : (x - 1).toNat = j
    · rw [if_pos h, show (1 : Int) + (j : Int) = x by omega]; exact e2
    · rw [if_neg h, img_cons, img_nil, List.append_nil, lt_pos (by omega), restset_get (by omega), if_neg (by omega)]
      exact Eqv.of (by congr 1; omega)
theorem In.of1 {L : Nat} {x : Int} (hx : x ≠ 0 ∧ -(L : Int) ≤ x ∧ x ≤ L) : In L [x] := In.cons hx In.nil
theorem In.of2 {L : Nat} {x y : Int} (hx : x ≠ 0 ∧ -(L : Int) ≤ x ∧ x ≤ L) (hy : y ≠ 0 ∧ -(L : Int) ≤ y ∧ y ≤ L) : In L [x, y] := In.cons hx (In.of1 hy)
theorem step0 {L : Nat} {x : Int} (hx : 0 < x) (hL : x ≤ L) : StepOk L ((rest L).set (x - 1).toNat [-x]) ((rest L).set (x - 1).toNat [-x]) := by
  have e : Eqv (img ((rest L).set (x - 1).toNat [-x]) [-x]) [x] := by
    rw [img_cons, img_nil, List.append_nil, lt_npos hx, restset_get (by omega), if_pos rfl]
    simp [back, Eqv.rfl']
  exact StepOk.one hx hL (In.of1 (by omega)) (In.of1 (by omega)) (by simp) (by simp) e e
theorem step1 {L : Nat} {x o : Int} (hx : 0 < x) (hL : x ≤ L) (ho : 0 < o) (hLo : o ≤ L) (hne : o ≠ x) : StepOk L ((rest L).set (x - 1).toNat [x, o]) ((rest L).set (x - 1).toNat [x, -o]) := by
  refine StepOk.one hx hL (In.of2 (by omega) (by omega)) (In.of2 (by omega) (by omega)) (by simp) (by simp) ?_ ?_
  · rw [img_cons, img_cons, img_nil, List.append_nil, lt_pos hx, lt_pos ho, restset_get (by omega), restset_get (by omega), if_pos rfl, if_neg (by omega), show (1 : Int) + ((o - 1).toNat : Int) = o by omega]
    exact fun s hs => push_neg' (rd_push hs x) o
  · rw [img_cons, img_cons, img_nil, List.append_nil, lt_pos hx, lt_npos ho, restset_get (by omega), restset_get (by omega), if_pos rfl, if_neg (by omega), show (1 : Int) + ((o - 1).toNat : Int) = o by omega]
    exact fun s hs => push_neg (rd_push hs x) o
theorem step2 {L : Nat} {x o : Int} (hx : 0 < x) (hL : x ≤ L) (ho : 0 < o) (hLo : o ≤ L) (hne : o ≠ x) : StepOk L ((rest L).set (x - 1).toNat [o, x]) ((rest L).set (x - 1).toNat [-o, x]) := by
  refine StepOk.one hx hL (In.of2 (by omega) (by omega)) (In.of2 (by omega) (by omega)) (by simp) (by simp) ?_ ?_
  · rw [img_cons, img_cons, img_nil, List.append_nil, lt_pos hx, lt_pos ho, restset_get (by omega), restset_get (by omega), if_pos rfl, if_neg (by omega), show (1 : Int) + ((o - 1).toNat : Int) = o by omega]
    exact fun s hs => congrArg (fun s => push s x) (push_neg hs o)
  · rw [img_cons, img_cons, img_nil, List.append_nil, lt_pos hx, lt_npos ho, restset_get (by omega), restset_get (by omega), if_pos rfl, if_neg (by omega), show (1 : Int) + ((o - 1).toNat : Int) = o by omega]
    exact fun s hs => congrArg (fun s => push s x) (push_neg' hs o)
theorem step3 {L : Nat} {x o : Int} (hx : 0 < x) (hL : x ≤ L) (ho : 0 < o) (hLo : o ≤ L) (hne : o ≠ x) : StepOk L (((rest L).set (x - 1).toNat [o]).set (o - 1).toNat [x]) (((rest L).set (x - 1).toNat [o]).set (o - 1).toNat [x]) := by
  have hg : ∀ j < L, (((rest L).set (x - 1).toNat [o]).set (o - 1).toNat [x]).getD j [] = if (o - 1).toNat = j then [x] else if (x - 1).toNat = j then [o] else [1 + (j : Int)] := by
    intro j hj
    rw [set_get (by simp [rest, hj]), restset_get hj]
  have m : Mp L L (((rest L).set (x - 1).toNat [o]).set (o - 1).toNat [x]) := by
    refine ⟨by simp [rest], ?_⟩
    intro v hv
    rcases set_mem hv with rfl | hv
    · exact In.of1 (by omega)
    · exact (restset_Mp (In.of1 (by omega))).2 v hv
  have l : ∀ v ∈ ((rest L).set (x - 1).toNat [o]).set (o - 1).toNat [x], v.length ≤ 2 := by
    intro v hv
    rcases set_mem hv with rfl | hv
    · simp
    · exact restset_len (by simp) v hv
  have e : ∀ j < L, Eqv (img (((rest L).set (x - 1).toNat [o]).set (o - 1).toNat [x]) ((((rest L).set (x - 1).toNat [o]).set (o - 1).toNat [x]).getD j [])) [1 + (j : Int)] := by
    intro j hj
    rw [hg j hj]
    by_cases h1 : (o - 1).toNat = j
    · rw [if_pos h1, img_cons, img_nil, List.append_nil, lt_pos hx, hg _ (by omega), if_neg (by omega), if_pos rfl]
      exact Eqv.of (by congr 1; omega)
    · rw [if_neg h1]
      by_cases h2 : (x - 1).toNat = j
      · rw [if_pos h2, img_cons, img_nil, List.append_nil, lt_pos ho, hg _ (by omega), if_pos rfl]
        exact Eqv.of (by congr 1; omega)
      · rw [if_neg h2, img_cons, img_nil, List.append_nil, lt_pos (by omega), hg _ (by omega), if_neg (by omega), if_neg (by omega)]
        exact Eqv.of (by congr 1; omega)
  exact ⟨m, m, l, l, e, e⟩
theorem sum_len {T : List (List Int)} {w : List Int} (h : w ∈ T) : (w.length : Int) ≤ (T.map fun w => (w.length : Int)).sum := by
  have hn : ∀ T : List (List Int), 0 ≤ (T.map fun w => (w.length : Int)).sum := by
    intro T
    induction T with
    | nil => simp
    | cons a T ih => simp only [List.map_cons, List.sum_cons]; omega
  induction T with
  | nil => cases h
  | cons a T ih =>
    simp only [List.map_cons, List.sum_cons]
    rcases List.mem_cons.mp h with rfl | h
    · have := hn T; omega
    · have := ih h; omega
end PD

/-! The program of L78 in the small language (printed by gen/prog.py). -/
namespace LW
open PySem L2 PD
def top (i : Nat) : Stmt := PySem.Challenge.pw_wordscancel_k78_images_of_words.main.body.getD i (.Pass ⟨0, 0, 0, 0⟩)
def fns : List Str := ["reduced", "turned_round", "opposite", "product_of", "image_of_number", "image", "map_after", "rest_map", "_law_draws", "_law_cell", "_law_is_number", "_law_is_numbers", "_law_word", "_law_short", "_law_back", "_law_copied", "_law_mapping", "_law_image", "_law_rest", "_law_after", "_law_way_back_map", "_law_told", "_law_mapped", "law"]
def rets : List Nat := [1, 8, 1, 1, 0, 1, 2, 2, 1, 0, 0, 8, 1, 1, 8, 2, 2, 1, 2, 2, 0, 0, 0, 8]
abbrev i_reduced : Nat := 0
def F_reduced : Fn := { np := 1, ns := 3, own := [0, 1, 0], ret := 1, body := (.seq (.asg (.one 1) (.lst .nil)) (.seq (.fr (.one 2) .val (.cons (.var 0) .nil) (.seq (.ite (.and (.cmp .Gt (.blt .len (.cons (.var 1) .nil)) (.cst (.int 0))) (.cmp .Eq (.idx (.var 1) (.neg (.cst (.int 1)))) (.neg (.var 2)))) (.seq (.pop none (.var 1)) .skip) (.seq (.app (.var 1) (.var 2)) .skip)) .skip)) (.seq (.retv 1) .skip))) }
abbrev i_turned_round : Nat := 1
def F_turned_round : Fn := { np := 1, ns := 3, own := [0, 0, 0], ret := 8, body := (.seq (.ret (.cmpr (.one 2) [1, 2] .rev (.cons (.var 0) .nil) (.cst (.bl true)) (.neg (.var 2)) 8)) .skip) }
abbrev i_opposite : Nat := 2
def F_opposite : Fn := { np := 1, ns := 1, own := [0], ret := 1, body := (.seq (.ret (.call 0 (.cons (.call 1 (.cons (.var 0) .nil)) .nil))) .skip) }
abbrev i_product_of : Nat := 3
def F_product_of : Fn := { np := 1, ns := 4, own := [0, 0, 0, 0], ret := 1, body := (.seq (.ret (.call 0 (.cons (.cmp2 (.one 2) [1, 2, 3] .val (.cons (.var 0) .nil) (.cst (.bl true)) (.one 3) [3] .val (.cons (.var 2) .nil) (.cst (.bl true)) (.var 3) 0) .nil))) .skip) }
abbrev i_image_of_number : Nat := 4
def F_image_of_number : Fn := { np := 2, ns := 2, own := [0, 0], ret := 0, body := (.seq (.ite (.cmp .Gt (.var 1) (.cst (.int 0))) (.seq (.ret (.idx (.var 0) (.bin .Sub (.var 1) (.cst (.int 1))))) .skip) .skip) (.seq (.ret (.call 2 (.cons (.idx (.var 0) (.bin .Sub (.neg (.var 1)) (.cst (.int 1)))) .nil))) .skip)) }
abbrev i_image : Nat := 5
def F_image : Fn := { np := 2, ns := 4, own := [0, 0, 0, 0], ret := 1, body := (.seq (.ret (.call 3 (.cons (.cmpr (.one 3) [2, 3] .val (.cons (.var 1) .nil) (.cst (.bl true)) (.call 4 (.cons (.var 0) (.cons (.var 3) .nil))) 0) .nil))) .skip) }
abbrev i_map_after : Nat := 6
def F_map_after : Fn := { np := 2, ns := 4, own := [0, 0, 0, 0], ret := 2, body := (.seq (.ret (.cmpr (.one 3) [2, 3] .val (.cons (.var 0) .nil) (.cst (.bl true)) (.call 5 (.cons (.var 1) (.cons (.var 3) .nil))) 1)) .skip) }
abbrev i_rest_map : Nat := 7
def F_rest_map : Fn := { np := 1, ns := 3, own := [0, 0, 0], ret := 2, body := (.seq (.ret (.cmpr (.one 2) [1, 2] .rng2 (.cons (.cst (.int 1)) (.cons (.bin .Add (.var 0) (.cst (.int 1))) .nil)) (.cst (.bl true)) (.lst (.cons (.var 2) .nil)) 1)) .skip) }
abbrev i__law_draws : Nat := 8
def F__law_draws : Fn := { np := 2, ns := 8, own := [0, 0, 1, 0, 0, 0, 0, 0], ret := 1, body := (.seq (.asg (.one 2) (.lst .nil)) (.seq (.fr (.one 3) .val (.cons (.sli (.var 0) .nil (.cons (.cst (.int 63)) .nil)) .nil) (.seq (.asg (.one 4) (.blt .abs (.cons (.blt .int1 (.cons (.var 3) .nil)) .nil))) (.seq (.ite (.cmp .GtE (.var 4) (.bin .Pow (.cst (.int 10)) (.cst (.int 18)))) (.seq (.fr (.one 5) .rng1 (.cons (.cst (.int 60)) .nil) (.seq (.ite (.cmp .Gt (.var 4) (.cst (.int 0))) (.seq (.app (.var 2) (.bin .Mod (.var 4) (.cst (.int 1000003)))) (.seq (.asg (.one 4) (.bin .FloorDiv (.var 4) (.cst (.int 1000003)))) .skip)) .skip) .skip)) .skip) (.seq (.asg (.one 6) (.bin .Mod (.bin .Add (.bin .Add (.bin .Mult (.var 4) (.cst (.int 48271))) (.bin .Mult (.cst (.int 7)) (.blt .len (.cons (.var 2) .nil)))) (.cst (.int 11))) (.cst (.int 2147483647)))) (.seq (.fr (.one 5) .rng1 (.cons (.cst (.int 4)) .nil) (.seq (.asg (.one 6) (.bin .Mod (.bin .Add (.bin .Add (.bin .Add (.bin .Mult (.var 6) (.cst (.int 69621))) (.bin .FloorDiv (.var 6) (.cst (.int 65536)))) (.bin .Mult (.cst (.int 13)) (.var 5))) (.cst (.int 5))) (.cst (.int 2147483629)))) (.seq (.app (.var 2) (.bin .Mod (.bin .FloorDiv (.var 6) (.cst (.int 8))) (.cst (.int 1000003)))) .skip))) .skip))) .skip))) (.seq (.fr (.one 5) .rng1 (.cons (.var 1) .nil) (.seq (.ite (.cmp .Lt (.blt .len (.cons (.var 2) .nil)) (.var 1)) (.seq (.asg (.one 7) (.cst (.int 0))) (.seq (.ite (.cmp .Gt (.blt .len (.cons (.var 2) .nil)) (.cst (.int 0))) (.seq (.asg (.one 7) (.idx (.var 2) (.bin .Mod (.var 5) (.blt .len (.cons (.var 2) .nil))))) .skip) .skip) (.seq (.app (.var 2) (.bin .Mod (.bin .Add (.bin .Add (.bin .Mult (.var 7) (.cst (.int 16807))) (.bin .Mult (.cst (.int 31)) (.blt .len (.cons (.var 2) .nil)))) (.cst (.int 17))) (.cst (.int 1000003)))) .skip))) .skip) .skip)) (.seq (.ret (.sli (.var 2) .nil (.cons (.var 1) .nil))) .skip)))) }
abbrev i__law_cell : Nat := 9
def F__law_cell : Fn := { np := 2, ns := 2, own := [0, 0], ret := 0, body := (.seq (.ite (.cmp .Lt (.var 1) (.blt .len (.cons (.var 0) .nil))) (.seq (.ret (.idx (.var 0) (.var 1))) .skip) .skip) (.seq (.ret (.bin .Mod (.bin .Add (.bin .Add (.bin .Mult (.idx (.var 0) (.bin .Mod (.var 1) (.blt .len (.cons (.var 0) .nil)))) (.cst (.int 31))) (.bin .Mult (.idx (.var 0) (.bin .Mod (.bin .Mult (.cst (.int 7)) (.var 1)) (.blt .len (.cons (.var 0) .nil)))) (.cst (.int 17)))) (.bin .Mult (.cst (.int 101)) (.var 1))) (.cst (.int 1000003)))) .skip)) }
abbrev i__law_is_number : Nat := 10
def F__law_is_number : Fn := { np := 1, ns := 1, own := [0], ret := 0, body := (.seq (.ret (.and (.blt .isInt (.cons (.var 0) .nil)) (.not (.blt .isBool (.cons (.var 0) .nil))))) .skip) }
abbrev i__law_is_numbers : Nat := 11
def F__law_is_numbers : Fn := { np := 1, ns := 2, own := [0, 0], ret := 8, body := (.seq (.ite (.not (.blt .isList (.cons (.var 0) .nil))) (.seq (.ret (.cst (.bl false))) .skip) .skip) (.seq (.fr (.one 1) .val (.cons (.var 0) .nil) (.seq (.ite (.not (.call 10 (.cons (.var 1) .nil))) (.seq (.ret (.cst (.bl false))) .skip) .skip) .skip)) (.seq (.ret (.cst (.bl true))) .skip))) }
abbrev i__law_word : Nat := 12
def F__law_word : Fn := { np := 4, ns := 7, own := [0, 0, 0, 0, 1, 0, 0], ret := 1, body := (.seq (.asg (.one 4) (.lst .nil)) (.seq (.fr (.one 5) .rng1 (.cons (.var 3) .nil) (.seq (.asg (.one 6) (.bin .Mod (.bin .FloorDiv (.call 9 (.cons (.var 0) (.cons (.bin .Add (.var 1) (.var 5)) .nil))) (.cst (.int 3))) (.bin .Mult (.cst (.int 2)) (.var 2)))) (.seq (.app (.var 4) (.bin .Mult (.bin .Add (.cst (.int 1)) (.bin .FloorDiv (.var 6) (.cst (.int 2)))) (.bin .Sub (.cst (.int 1)) (.bin .Mult (.cst (.int 2)) (.bin .Mod (.var 6) (.cst (.int 2))))))) .skip))) (.seq (.retv 4) .skip))) }
abbrev i__law_short : Nat := 13
def F__law_short : Fn := { np := 1, ns := 3, own := [0, 1, 0], ret := 1, body := (.seq (.asg (.one 1) (.lst .nil)) (.seq (.fr (.one 2) .val (.cons (.var 0) .nil) (.seq (.ite (.and (.cmp .NotEq (.var 1) (.lst .nil)) (.cmp .Eq (.idx (.var 1) (.neg (.cst (.int 1)))) (.neg (.var 2)))) (.seq (.pop none (.var 1)) .skip) (.seq (.app (.var 1) (.var 2)) .skip)) .skip)) (.seq (.retv 1) .skip))) }
abbrev i__law_back : Nat := 14
def F__law_back : Fn := { np := 1, ns := 3, own := [0, 0, 0], ret := 8, body := (.seq (.ret (.cmpr (.one 2) [1, 2] .val (.cons (.bck (.var 0)) .nil) (.cst (.bl true)) (.neg (.var 2)) 8)) .skip) }
abbrev i__law_copied : Nat := 15
def F__law_copied : Fn := { np := 1, ns := 3, own := [0, 0, 0], ret := 2, body := (.seq (.ret (.cmpr (.one 2) [1, 2] .val (.cons (.var 0) .nil) (.cst (.bl true)) (.blt .list (.cons (.var 2) .nil)) 1)) .skip) }
abbrev i__law_mapping : Nat := 16
def F__law_mapping : Fn := { np := 4, ns := 6, own := [0, 0, 0, 0, 0, 0], ret := 2, body := (.seq (.ret (.cmpr (.one 5) [4, 5] .rng1 (.cons (.var 2) .nil) (.cst (.bl true)) (.call 12 (.cons (.var 0) (.cons (.bin .Add (.bin .Add (.var 1) (.bin .Mult (.cst (.int 9)) (.var 5))) (.cst (.int 1))) (.cons (.var 2) (.cons (.bin .Mod (.call 9 (.cons (.var 0) (.cons (.bin .Add (.var 1) (.bin .Mult (.cst (.int 4)) (.var 5))) .nil))) (.bin .Add (.var 3) (.cst (.int 1)))) .nil))))) 1)) .skip) }
abbrev i__law_image : Nat := 17
def F__law_image : Fn := { np := 2, ns := 4, own := [0, 0, 0, 0], ret := 1, body := (.seq (.asg (.one 2) (.lst .nil)) (.seq (.fr (.one 3) .val (.cons (.var 1) .nil) (.seq (.ite (.cmp .Gt (.var 3) (.cst (.int 0))) (.seq (.asg (.one 2) (.bin .Add (.var 2) (.idx (.var 0) (.bin .Sub (.var 3) (.cst (.int 1)))))) .skip) (.seq (.asg (.one 2) (.bin .Add (.var 2) (.call 14 (.cons (.idx (.var 0) (.bin .Sub (.neg (.var 3)) (.cst (.int 1)))) .nil)))) .skip)) .skip)) (.seq (.ret (.call 13 (.cons (.var 2) .nil))) .skip))) }
abbrev i__law_rest : Nat := 18
def F__law_rest : Fn := { np := 1, ns := 3, own := [0, 0, 0], ret := 2, body := (.seq (.ret (.cmpr (.one 2) [1, 2] .rng2 (.cons (.cst (.int 1)) (.cons (.bin .Add (.var 0) (.cst (.int 1))) .nil)) (.cst (.bl true)) (.lst (.cons (.var 2) .nil)) 1)) .skip) }
abbrev i__law_after : Nat := 19
def F__law_after : Fn := { np := 2, ns := 4, own := [0, 0, 0, 0], ret := 2, body := (.seq (.ret (.cmpr (.one 3) [2, 3] .val (.cons (.var 0) .nil) (.cst (.bl true)) (.call 17 (.cons (.var 1) (.cons (.var 3) .nil))) 1)) .skip) }
abbrev i__law_way_back_map : Nat := 20
def F__law_way_back_map : Fn := { np := 5, ns := 17, own := [0, 0, 0, 0, 0, 0, 0, 0, 0, 0, 0, 1, 1, 0, 0, 0, 0], ret := 0, body := (.seq (.par 5 6 (.call 18 (.cons (.var 2) .nil)) (.call 18 (.cons (.var 2) .nil))) (.seq (.fr (.one 7) .rng1 (.cons (.var 3) .nil) (.seq (.asg (.one 8) (.bin .Add (.cst (.int 1)) (.bin .Mod (.call 9 (.cons (.var 0) (.cons (.bin .Add (.var 1) (.bin .Mult (.cst (.int 3)) (.var 7))) .nil))) (.var 2)))) (.seq (.asg (.one 9) (.bin .Mod (.call 9 (.cons (.var 0) (.cons (.bin .Add (.bin .Add (.var 1) (.bin .Mult (.cst (.int 3)) (.var 7))) (.cst (.int 1))) .nil))) (.cst (.int 4)))) (.seq (.asg (.one 10) (.bin .Add (.cst (.int 1)) (.bin .Mod (.bin .Add (.var 8) (.bin .Mod (.call 9 (.cons (.var 0) (.cons (.bin .Add (.bin .Add (.var 1) (.bin .Mult (.cst (.int 3)) (.var 7))) (.cst (.int 2))) .nil))) (.blt .max (.cons (.cst (.int 1)) (.cons (.bin .Sub (.var 2) (.cst (.int 1))) .nil))))) (.var 2)))) (.seq (.par 11 12 (.call 18 (.cons (.var 2) .nil)) (.call 18 (.cons (.var 2) .nil))) (.seq (.ite (.or (.cmp .Eq (.var 9) (.cst (.int 0))) (.cmp .Eq (.var 10) (.var 8))) (.seq (.put2 (.var 11) (.bin .Sub (.var 8) (.cst (.int 1))) (.var 12) (.bin .Sub (.var 8) (.cst (.int 1))) (.tup (.cons (.lst (.cons (.neg (.var 8)) .nil)) (.cons (.lst (.cons (.neg (.var 8)) .nil)) .nil)))) .skip) (.seq (.ite (.cmp .Eq (.var 9) (.cst (.int 1))) (.seq (.put2 (.var 11) (.bin .Sub (.var 8) (.cst (.int 1))) (.var 12) (.bin .Sub (.var 8) (.cst (.int 1))) (.tup (.cons (.lst (.cons (.var 8) (.cons (.var 10) .nil))) (.cons (.lst (.cons (.var 8) (.cons (.neg (.var 10)) .nil))) .nil)))) .skip) (.seq (.ite (.cmp .Eq (.var 9) (.cst (.int 2))) (.seq (.put2 (.var 11) (.bin .Sub (.var 8) (.cst (.int 1))) (.var 12) (.bin .Sub (.var 8) (.cst (.int 1))) (.tup (.cons (.lst (.cons (.var 10) (.cons (.var 8) .nil))) (.cons (.lst (.cons (.neg (.var 10)) (.cons (.var 8) .nil))) .nil)))) .skip) (.seq (.put2 (.var 11) (.bin .Sub (.var 8) (.cst (.int 1))) (.var 11) (.bin .Sub (.var 10) (.cst (.int 1))) (.tup (.cons (.lst (.cons (.var 10) .nil)) (.cons (.lst (.cons (.var 8) .nil)) .nil)))) (.seq (.put2 (.var 12) (.bin .Sub (.var 8) (.cst (.int 1))) (.var 12) (.bin .Sub (.var 10) (.cst (.int 1))) (.tup (.cons (.lst (.cons (.var 10) .nil)) (.cons (.lst (.cons (.var 8) .nil)) .nil)))) .skip))) .skip)) .skip)) (.seq (.par 13 14 (.call 19 (.cons (.var 5) (.cons (.var 11) .nil))) (.call 19 (.cons (.var 12) (.cons (.var 6) .nil)))) (.seq (.ite (.and (.cmp .LtE (.blt .sum (.cons (.cmpr (.one 16) [15, 16] .val (.cons (.var 13) .nil) (.cst (.bl true)) (.blt .len (.cons (.var 16) .nil)) 8) .nil)) (.var 4)) (.cmp .LtE (.blt .sum (.cons (.cmpr (.one 16) [15, 16] .val (.cons (.var 14) .nil) (.cst (.bl true)) (.blt .len (.cons (.var 16) .nil)) 8) .nil)) (.var 4))) (.seq (.par 5 6 (.var 13) (.var 14)) .skip) .skip) .skip)))))))) (.seq (.rett [.v 5, .v 6]) .skip))) }
abbrev i__law_told : Nat := 21
def F__law_told : Fn := { np := 2, ns := 5, own := [0, 0, 0, 0, 1], ret := 0, body := (.seq (.asg (.one 2) (.call 17 (.cons (.var 0) (.cons (.var 1) .nil)))) (.seq (.asg (.one 3) (.lst (.cons (.call 15 (.cons (.var 0) .nil)) (.cons (.blt .list (.cons (.var 1) .nil)) .nil)))) (.seq (.asg (.one 4) (.call 5 (.cons (.idx (.var 3) (.cst (.int 0))) (.cons (.idx (.var 3) (.cst (.int 1))) .nil)))) (.seq (.ite (.or (.cmp .NotEq (.var 3) (.lst (.cons (.var 0) (.cons (.var 1) .nil)))) (.or (.not (.call 11 (.cons (.var 4) .nil))) (.cmp .NotEq (.var 4) (.var 2)))) (.seq (.ret (.cst .non)) .skip) .skip) (.seq (.app (.var 4) (.cst (.int 1))) (.seq (.ite (.cmp .NotEq (.call 5 (.cons (.idx (.var 3) (.cst (.int 0))) (.cons (.idx (.var 3) (.cst (.int 1))) .nil))) (.var 2)) (.seq (.ret (.cst .non)) .skip) .skip) (.seq (.retv 2) .skip))))))) }
abbrev i__law_mapped : Nat := 22
def F__law_mapped : Fn := { np := 2, ns := 5, own := [0, 0, 0, 0, 2], ret := 0, body := (.seq (.asg (.one 2) (.call 19 (.cons (.var 0) (.cons (.var 1) .nil)))) (.seq (.asg (.one 3) (.lst (.cons (.call 15 (.cons (.var 0) .nil)) (.cons (.call 15 (.cons (.var 1) .nil)) .nil)))) (.seq (.asg (.one 4) (.call 6 (.cons (.idx (.var 3) (.cst (.int 0))) (.cons (.idx (.var 3) (.cst (.int 1))) .nil)))) (.seq (.ite (.or (.cmp .NotEq (.var 3) (.lst (.cons (.var 0) (.cons (.var 1) .nil)))) (.or (.not (.blt .isList (.cons (.var 4) .nil))) (.cmp .NotEq (.var 4) (.var 2)))) (.seq (.ret (.cst .non)) .skip) .skip) (.seq (.app (.idx (.var 4) (.cst (.int 0))) (.cst (.int 1))) (.seq (.app (.var 4) (.lst .nil)) (.seq (.ite (.cmp .NotEq (.call 6 (.cons (.idx (.var 3) (.cst (.int 0))) (.cons (.idx (.var 3) (.cst (.int 1))) .nil))) (.var 2)) (.seq (.ret (.cst .non)) .skip) .skip) (.seq (.retv 2) .skip)))))))) }
abbrev i_law : Nat := 23
def F_law : Fn := { np := 1, ns := 15, own := [0, 0, 0, 0, 0, 0, 0, 0, 0, 0, 0, 0, 0, 0, 2], ret := 8, body := (.seq (.asg (.one 1) (.call 8 (.cons (.var 0) (.cons (.cst (.int 60)) .nil)))) (.seq (.asg (.one 2) (.bin .Add (.cst (.int 1)) (.bin .Mod (.idx (.var 1) (.cst (.int 0))) (.cst (.int 4))))) (.seq (.asg (.one 3) (.cst (.int 6))) (.seq (.ite (.cmp .Eq (.bin .Mod (.idx (.var 1) (.cst (.int 1))) (.cst (.int 8))) (.cst (.int 5))) (.seq (.asg (.one 3) (.cst (.int 15))) .skip) .skip) (.seq (.par 4 5 (.call 16 (.cons (.var 1) (.cons (.cst (.int 5)) (.cons (.var 2) (.cons (.var 3) .nil))))) (.call 16 (.cons (.var 1) (.cons (.cst (.int 20)) (.cons (.var 2) (.cons (.cst (.int 4)) .nil)))))) (.seq (.par 6 7 (.call 12 (.cons (.var 1) (.cons (.cst (.int 30)) (.cons (.var 2) (.cons (.bin .Mod (.idx (.var 1) (.cst (.int 2))) (.cst (.int 13))) .nil))))) (.call 12 (.cons (.var 1) (.cons (.cst (.int 40)) (.cons (.var 2) (.cons (.bin .Mod (.idx (.var 1) (.cst (.int 3))) (.cst (.int 13))) .nil)))))) (.seq (.asg (.many [8, 9]) (.call 20 (.cons (.var 1) (.cons (.cst (.int 45)) (.cons (.var 2) (.cons (.bin .Mod (.idx (.var 1) (.cst (.int 4))) (.cst (.int 7))) (.cons (.cst (.int 60)) .nil))))))) (.seq (.fr (.one 10) .val (.cons (.lst (.cons (.var 4) (.cons (.var 5) (.cons (.var 8) (.cons (.var 9) (.cons (.call 18 (.cons (.var 2) .nil)) .nil)))))) .nil) (.seq (.par 11 12 (.call 21 (.cons (.var 10) (.cons (.var 6) .nil))) (.call 21 (.cons (.var 10) (.cons (.var 7) .nil)))) (.seq (.ite (.or (.cmp .Is (.var 11) (.cst .non)) (.or (.cmp .Is (.var 12) (.cst .non)) (.cmp .NotEq (.call 21 (.cons (.var 10) (.cons (.bin .Add (.var 6) (.var 7)) .nil))) (.call 13 (.cons (.bin .Add (.var 11) (.var 12)) .nil))))) (.seq (.ret (.cst (.bl false))) .skip) .skip) (.seq (.ite (.or (.cmp .NotEq (.call 21 (.cons (.var 10) (.cons (.call 14 (.cons (.var 6) .nil)) .nil))) (.call 14 (.cons (.var 11) .nil))) (.cmp .NotEq (.call 21 (.cons (.var 10) (.cons (.lst .nil) .nil))) (.lst .nil))) (.seq (.ret (.cst (.bl false))) .skip) .skip) .skip)))) (.seq (.fr (.many [11, 12]) .val (.cons (.lst (.cons (.tup (.cons (.var 4) (.cons (.var 5) .nil))) (.cons (.tup (.cons (.var 5) (.cons (.var 4) .nil))) (.cons (.tup (.cons (.var 8) (.cons (.var 9) .nil))) (.cons (.tup (.cons (.var 9) (.cons (.var 8) .nil))) (.cons (.tup (.cons (.var 4) (.cons (.var 8) .nil))) (.cons (.tup (.cons (.call 18 (.cons (.var 2) .nil)) (.cons (.var 4) .nil))) .nil))))))) .nil) (.seq (.asg (.one 13) (.call 22 (.cons (.var 11) (.cons (.var 12) .nil)))) (.seq (.ite (.or (.cmp .Is (.var 13) (.cst .non)) (.cmp .NotEq (.call 17 (.cons (.var 13) (.cons (.var 6) .nil))) (.call 21 (.cons (.var 12) (.cons (.call 21 (.cons (.var 11) (.cons (.var 6) .nil))) .nil))))) (.seq (.ret (.cst (.bl false))) .skip) .skip) .skip))) (.seq (.ite (.or (.cmp .NotEq (.call 22 (.cons (.var 8) (.cons (.var 9) .nil))) (.call 18 (.cons (.var 2) .nil))) (.cmp .NotEq (.call 22 (.cons (.var 9) (.cons (.var 8) .nil))) (.call 18 (.cons (.var 2) .nil)))) (.seq (.ret (.cst (.bl false))) .skip) .skip) (.seq (.ite (.and (.cmp .Eq (.bin .Mod (.bin .FloorDiv (.idx (.var 1) (.cst (.int 1))) (.cst (.int 8))) (.cst (.int 16))) (.cst (.int 5))) (.cmp .Is (.call 21 (.cons (.var 5) (.cons (.call 12 (.cons (.var 1) (.cons (.cst (.int 9)) (.cons (.var 2) (.cons (.bin .Mod (.idx (.var 1) (.cst (.int 2))) (.cst (.int 201))) .nil))))) .nil))) (.cst .non))) (.seq (.ret (.cst (.bl false))) .skip) .skip) (.seq (.asg (.one 14) (.call 7 (.cons (.var 2) .nil))) (.seq (.ite (.or (.cmp .NotEq (.var 14) (.call 18 (.cons (.var 2) .nil))) (.cmp .NotEq (.call 21 (.cons (.call 7 (.cons (.var 2) .nil)) (.cons (.var 6) .nil))) (.call 13 (.cons (.var 6) .nil)))) (.seq (.ret (.cst (.bl false))) .skip) .skip) (.seq (.app (.idx (.var 14) (.cst (.int 0))) (.cst (.int 2))) (.seq (.ret (.cmp .Eq (.call 7 (.cons (.var 2) .nil)) (.call 18 (.cons (.var 2) .nil)))) .skip))))))))))))))) }
def prog : List Fn := [F_reduced, F_turned_round, F_opposite, F_product_of, F_image_of_number, F_image, F_map_after, F_rest_map, F__law_draws, F__law_cell, F__law_is_number, F__law_is_numbers, F__law_word, F__law_short, F__law_back, F__law_copied, F__law_mapping, F__law_image, F__law_rest, F__law_after, F__law_way_back_map, F__law_told, F__law_mapped, F_law]
end LW

/-! The head of L78 (printed by gen/prog.py). -/
namespace LW
open PySem L2 PD
def d_reduced : Df := ⟨"reduced", defArgs (top 1), defBody (top 1), defScope (top 1), ["word", "found", "number"], ["word"], F_reduced⟩
theorem g_reduced : d_reduced.Good fns rets := ⟨by kernel_rfl, rfl, rfl, ⟨by kernel_rfl, by kernel_rfl, by kernel_rfl, by decide +kernel, rfl, by decide +kernel, by decide +kernel⟩⟩
def d_turned_round : Df := ⟨"turned_round", defArgs (top 2), defBody (top 2), defScope (top 2), ["word", ".0", "number"], ["word"], F_turned_round⟩
theorem g_turned_round : d_turned_round.Good fns rets := ⟨by kernel_rfl, rfl, rfl, ⟨by kernel_rfl, by kernel_rfl, by kernel_rfl, by decide +kernel, rfl, by decide +kernel, by decide +kernel⟩⟩
def d_opposite : Df := ⟨"opposite", defArgs (top 3), defBody (top 3), defScope (top 3), ["word"], ["word"], F_opposite⟩
theorem g_opposite : d_opposite.Good fns rets := ⟨by kernel_rfl, rfl, rfl, ⟨by kernel_rfl, by kernel_rfl, by kernel_rfl, by decide +kernel, rfl, by decide +kernel, by decide +kernel⟩⟩
def d_product_of : Df := ⟨"product_of", defArgs (top 4), defBody (top 4), defScope (top 4), ["words", ".0", "word", "number"], ["words"], F_product_of⟩
theorem g_product_of : d_product_of.Good fns rets := ⟨by kernel_rfl, rfl, rfl, ⟨by kernel_rfl, by kernel_rfl, by kernel_rfl, by decide +kernel, rfl, by decide +kernel, by decide +kernel⟩⟩
def d_image_of_number : Df := ⟨"image_of_number", defArgs (top 6), defBody (top 6), defScope (top 6), ["mapping", "number"], ["mapping", "number"], F_image_of_number⟩
theorem g_image_of_number : d_image_of_number.Good fns rets := ⟨by kernel_rfl, rfl, rfl, ⟨by kernel_rfl, by kernel_rfl, by kernel_rfl, by decide +kernel, rfl, by decide +kernel, by decide +kernel⟩⟩
def d_image : Df := ⟨"image", defArgs (top 7), defBody (top 7), defScope (top 7), ["mapping", "word", ".0", "number"], ["mapping", "word"], F_image⟩
theorem g_image : d_image.Good fns rets := ⟨by kernel_rfl, rfl, rfl, ⟨by kernel_rfl, by kernel_rfl, by kernel_rfl, by decide +kernel, rfl, by decide +kernel, by decide +kernel⟩⟩
def d_map_after : Df := ⟨"map_after", defArgs (top 8), defBody (top 8), defScope (top 8), ["first", "second", ".0", "word"], ["first", "second"], F_map_after⟩
theorem g_map_after : d_map_after.Good fns rets := ⟨by kernel_rfl, rfl, rfl, ⟨by kernel_rfl, by kernel_rfl, by kernel_rfl, by decide +kernel, rfl, by decide +kernel, by decide +kernel⟩⟩
def d_rest_map : Df := ⟨"rest_map", defArgs (top 9), defBody (top 9), defScope (top 9), ["letters", ".0", "letter"], ["letters"], F_rest_map⟩
theorem g_rest_map : d_rest_map.Good fns rets := ⟨by kernel_rfl, rfl, rfl, ⟨by kernel_rfl, by kernel_rfl, by kernel_rfl, by decide +kernel, rfl, by decide +kernel, by decide +kernel⟩⟩
def d__law_draws : Df := ⟨"_law_draws", defArgs (top 11), defBody (top 11), defScope (top 11), ["script", "many", "found", "cell", "number", "k", "mixed", "base"], ["script", "many"], F__law_draws⟩
theorem g__law_draws : d__law_draws.Good fns rets := ⟨by kernel_rfl, rfl, rfl, ⟨by kernel_rfl, by kernel_rfl, by kernel_rfl, by decide +kernel, rfl, by decide +kernel, by decide +kernel⟩⟩
def d__law_cell : Df := ⟨"_law_cell", defArgs (top 12), defBody (top 12), defScope (top 12), ["draws", "k"], ["draws", "k"], F__law_cell⟩
theorem g__law_cell : d__law_cell.Good fns rets := ⟨by kernel_rfl, rfl, rfl, ⟨by kernel_rfl, by kernel_rfl, by kernel_rfl, by decide +kernel, rfl, by decide +kernel, by decide +kernel⟩⟩
def d__law_is_number : Df := ⟨"_law_is_number", defArgs (top 13), defBody (top 13), defScope (top 13), ["value"], ["value"], F__law_is_number⟩
theorem g__law_is_number : d__law_is_number.Good fns rets := ⟨by kernel_rfl, rfl, rfl, ⟨by kernel_rfl, by kernel_rfl, by kernel_rfl, by decide +kernel, rfl, by decide +kernel, by decide +kernel⟩⟩
def d__law_is_numbers : Df := ⟨"_law_is_numbers", defArgs (top 14), defBody (top 14), defScope (top 14), ["value", "item"], ["value"], F__law_is_numbers⟩
theorem g__law_is_numbers : d__law_is_numbers.Good fns rets := ⟨by kernel_rfl, rfl, rfl, ⟨by kernel_rfl, by kernel_rfl, by kernel_rfl, by decide +kernel, rfl, by decide +kernel, by decide +kernel⟩⟩
def d__law_word : Df := ⟨"_law_word", defArgs (top 15), defBody (top 15), defScope (top 15), ["draws", "at", "letters", "length", "found", "k", "cell"], ["draws", "at", "letters", "length"], F__law_word⟩
theorem g__law_word : d__law_word.Good fns rets := ⟨by kernel_rfl, rfl, rfl, ⟨by kernel_rfl, by kernel_rfl, by kernel_rfl, by decide +kernel, rfl, by decide +kernel, by decide +kernel⟩⟩
def d__law_short : Df := ⟨"_law_short", defArgs (top 16), defBody (top 16), defScope (top 16), ["word", "found", "number"], ["word"], F__law_short⟩
theorem g__law_short : d__law_short.Good fns rets := ⟨by kernel_rfl, rfl, rfl, ⟨by kernel_rfl, by kernel_rfl, by kernel_rfl, by decide +kernel, rfl, by decide +kernel, by decide +kernel⟩⟩
def d__law_back : Df := ⟨"_law_back", defArgs (top 17), defBody (top 17), defScope (top 17), ["word", ".0", "number"], ["word"], F__law_back⟩
theorem g__law_back : d__law_back.Good fns rets := ⟨by kernel_rfl, rfl, rfl, ⟨by kernel_rfl, by kernel_rfl, by kernel_rfl, by decide +kernel, rfl, by decide +kernel, by decide +kernel⟩⟩
def d__law_copied : Df := ⟨"_law_copied", defArgs (top 18), defBody (top 18), defScope (top 18), ["words", ".0", "word"], ["words"], F__law_copied⟩
theorem g__law_copied : d__law_copied.Good fns rets := ⟨by kernel_rfl, rfl, rfl, ⟨by kernel_rfl, by kernel_rfl, by kernel_rfl, by decide +kernel, rfl, by decide +kernel, by decide +kernel⟩⟩
def d__law_mapping : Df := ⟨"_law_mapping", defArgs (top 19), defBody (top 19), defScope (top 19), ["draws", "at", "letters", "most", ".0", "k"], ["draws", "at", "letters", "most"], F__law_mapping⟩
theorem g__law_mapping : d__law_mapping.Good fns rets := ⟨by kernel_rfl, rfl, rfl, ⟨by kernel_rfl, by kernel_rfl, by kernel_rfl, by decide +kernel, rfl, by decide +kernel, by decide +kernel⟩⟩
def d__law_image : Df := ⟨"_law_image", defArgs (top 20), defBody (top 20), defScope (top 20), ["mapping", "word", "found", "number"], ["mapping", "word"], F__law_image⟩
theorem g__law_image : d__law_image.Good fns rets := ⟨by kernel_rfl, rfl, rfl, ⟨by kernel_rfl, by kernel_rfl, by kernel_rfl, by decide +kernel, rfl, by decide +kernel, by decide +kernel⟩⟩
def d__law_rest : Df := ⟨"_law_rest", defArgs (top 21), defBody (top 21), defScope (top 21), ["letters", ".0", "letter"], ["letters"], F__law_rest⟩
theorem g__law_rest : d__law_rest.Good fns rets := ⟨by kernel_rfl, rfl, rfl, ⟨by kernel_rfl, by kernel_rfl, by kernel_rfl, by decide +kernel, rfl, by decide +kernel, by decide +kernel⟩⟩
def d__law_after : Df := ⟨"_law_after", defArgs (top 22), defBody (top 22), defScope (top 22), ["first", "second", ".0", "word"], ["first", "second"], F__law_after⟩
theorem g__law_after : d__law_after.Good fns rets := ⟨by kernel_rfl, rfl, rfl, ⟨by kernel_rfl, by kernel_rfl, by kernel_rfl, by decide +kernel, rfl, by decide +kernel, by decide +kernel⟩⟩
def d__law_way_back_map : Df := ⟨"_law_way_back_map", defArgs (top 23), defBody (top 23), defScope (top 23), ["draws", "at", "letters", "many", "most", "there", "back", "k", "x", "kind", "other", "step", "turn", "more", "less", ".0", "word"], ["draws", "at", "letters", "many", "most"], F__law_way_back_map⟩
theorem g__law_way_back_map : d__law_way_back_map.Good fns rets := ⟨by kernel_rfl, rfl, rfl, ⟨by kernel_rfl, by kernel_rfl, by kernel_rfl, by decide +kernel, rfl, by decide +kernel, by decide +kernel⟩⟩
def d__law_told : Df := ⟨"_law_told", defArgs (top 24), defBody (top 24), defScope (top 24), ["mapping", "word", "due", "passed", "told"], ["mapping", "word"], F__law_told⟩
theorem g__law_told : d__law_told.Good fns rets := ⟨by kernel_rfl, rfl, rfl, ⟨by kernel_rfl, by kernel_rfl, by kernel_rfl, by decide +kernel, rfl, by decide +kernel, by decide +kernel⟩⟩
def d__law_mapped : Df := ⟨"_law_mapped", defArgs (top 25), defBody (top 25), defScope (top 25), ["first", "second", "due", "passed", "told"], ["first", "second"], F__law_mapped⟩
theorem g__law_mapped : d__law_mapped.Good fns rets := ⟨by kernel_rfl, rfl, rfl, ⟨by kernel_rfl, by kernel_rfl, by kernel_rfl, by decide +kernel, rfl, by decide +kernel, by decide +kernel⟩⟩
def d_law : Df := ⟨"law", defArgs (top 26), defBody (top 26), defScope (top 26), ["script", "draws", "letters", "most", "first", "second", "word", "other", "there", "back", "mapping", "one", "two", "made", "told"], ["script"], F_law⟩
theorem g_law : d_law.Good fns rets := ⟨by kernel_rfl, rfl, rfl, ⟨by kernel_rfl, by kernel_rfl, by kernel_rfl, by decide +kernel, rfl, by decide +kernel, by decide +kernel⟩⟩
def dfs : List Df := [d_reduced, d_turned_round, d_opposite, d_product_of, d_image_of_number, d_image, d_map_after, d_rest_map, d__law_draws, d__law_cell, d__law_is_number, d__law_is_numbers, d__law_word, d__law_short, d__law_back, d__law_copied, d__law_mapping, d__law_image, d__law_rest, d__law_after, d__law_way_back_map, d__law_told, d__law_mapped, d_law]
theorem dfs_ok : ∀ d ∈ dfs, d.Good fns rets := by
  intro d h
  simp only [dfs, List.mem_cons, List.not_mem_nil, or_false] at h
  rcases h with rfl | rfl | rfl | rfl | rfl | rfl | rfl | rfl | rfl | rfl | rfl | rfl | rfl | rfl | rfl | rfl | rfl | rfl | rfl | rfl | rfl | rfl | rfl | rfl
  · exact g_reduced
  · exact g_turned_round
  · exact g_opposite
  · exact g_product_of
  · exact g_image_of_number
  · exact g_image
  · exact g_map_after
  · exact g_rest_map
  · exact g__law_draws
  · exact g__law_cell
  · exact g__law_is_number
  · exact g__law_is_numbers
  · exact g__law_word
  · exact g__law_short
  · exact g__law_back
  · exact g__law_copied
  · exact g__law_mapping
  · exact g__law_image
  · exact g__law_rest
  · exact g__law_after
  · exact g__law_way_back_map
  · exact g__law_told
  · exact g__law_mapped
  · exact g_law
def prg : Prg := ⟨fns, rets, dfs, by decide +kernel, by kernel_rfl, dfs_ok⟩
theorem prg_fs : prg.fs = prog := rfl
def e_reduced : He.DefD := ⟨("reduced", none), "reduced", "reduced", defArgs (top 1), defBody (top 1), defScope (top 1), [], []⟩
def e_turned_round : He.DefD := ⟨("turned_round", none), "turned_round", "turned_round", defArgs (top 2), defBody (top 2), defScope (top 2), [], []⟩
def e_opposite : He.DefD := ⟨("opposite", none), "opposite", "opposite", defArgs (top 3), defBody (top 3), defScope (top 3), [], []⟩
def e_product_of : He.DefD := ⟨("product_of", none), "product_of", "product_of", defArgs (top 4), defBody (top 4), defScope (top 4), [], []⟩
def e_image_of_number : He.DefD := ⟨("image_of_number", none), "image_of_number", "image_of_number", defArgs (top 6), defBody (top 6), defScope (top 6), [], []⟩
def e_image : He.DefD := ⟨("image", none), "image", "image", defArgs (top 7), defBody (top 7), defScope (top 7), [], []⟩
def e_map_after : He.DefD := ⟨("map_after", none), "map_after", "map_after", defArgs (top 8), defBody (top 8), defScope (top 8), [], []⟩
def e_rest_map : He.DefD := ⟨("rest_map", none), "rest_map", "rest_map", defArgs (top 9), defBody (top 9), defScope (top 9), [], []⟩
def e__law_draws : He.DefD := ⟨("_law_draws", none), "_law_draws", "_law_draws", defArgs (top 11), defBody (top 11), defScope (top 11), [], []⟩
def e__law_cell : He.DefD := ⟨("_law_cell", none), "_law_cell", "_law_cell", defArgs (top 12), defBody (top 12), defScope (top 12), [], []⟩
def e__law_is_number : He.DefD := ⟨("_law_is_number", none), "_law_is_number", "_law_is_number", defArgs (top 13), defBody (top 13), defScope (top 13), [], []⟩
def e__law_is_numbers : He.DefD := ⟨("_law_is_numbers", none), "_law_is_numbers", "_law_is_numbers", defArgs (top 14), defBody (top 14), defScope (top 14), [], []⟩
def e__law_word : He.DefD := ⟨("_law_word", none), "_law_word", "_law_word", defArgs (top 15), defBody (top 15), defScope (top 15), [], []⟩
def e__law_short : He.DefD := ⟨("_law_short", none), "_law_short", "_law_short", defArgs (top 16), defBody (top 16), defScope (top 16), [], []⟩
def e__law_back : He.DefD := ⟨("_law_back", none), "_law_back", "_law_back", defArgs (top 17), defBody (top 17), defScope (top 17), [], []⟩
def e__law_copied : He.DefD := ⟨("_law_copied", none), "_law_copied", "_law_copied", defArgs (top 18), defBody (top 18), defScope (top 18), [], []⟩
def e__law_mapping : He.DefD := ⟨("_law_mapping", none), "_law_mapping", "_law_mapping", defArgs (top 19), defBody (top 19), defScope (top 19), [], []⟩
def e__law_image : He.DefD := ⟨("_law_image", none), "_law_image", "_law_image", defArgs (top 20), defBody (top 20), defScope (top 20), [], []⟩
def e__law_rest : He.DefD := ⟨("_law_rest", none), "_law_rest", "_law_rest", defArgs (top 21), defBody (top 21), defScope (top 21), [], []⟩
def e__law_after : He.DefD := ⟨("_law_after", none), "_law_after", "_law_after", defArgs (top 22), defBody (top 22), defScope (top 22), [], []⟩
def e__law_way_back_map : He.DefD := ⟨("_law_way_back_map", none), "_law_way_back_map", "_law_way_back_map", defArgs (top 23), defBody (top 23), defScope (top 23), [], []⟩
def e__law_told : He.DefD := ⟨("_law_told", none), "_law_told", "_law_told", defArgs (top 24), defBody (top 24), defScope (top 24), [], []⟩
def e__law_mapped : He.DefD := ⟨("_law_mapped", none), "_law_mapped", "_law_mapped", defArgs (top 25), defBody (top 25), defScope (top 25), [], []⟩
def e_law : He.DefD := ⟨("law", none), "law", "law", defArgs (top 26), defBody (top 26), defScope (top 26), [], []⟩
def efn : List He.DefD := [e_reduced, e_turned_round, e_opposite, e_product_of, e_image_of_number, e_image, e_map_after, e_rest_map, e__law_draws, e__law_cell, e__law_is_number, e__law_is_numbers, e__law_word, e__law_short, e__law_back, e__law_copied, e__law_mapping, e__law_image, e__law_rest, e__law_after, e__law_way_back_map, e__law_told, e__law_mapped, e_law]
def efa : List He.Fa := [.glo "reduced", .glo "turned_round", .glo "opposite", .glo "product_of", .glo "image_of_number", .glo "image", .glo "map_after", .glo "rest_map", .glo "_law_draws", .glo "_law_cell", .glo "_law_is_number", .glo "_law_is_numbers", .glo "_law_word", .glo "_law_short", .glo "_law_back", .glo "_law_copied", .glo "_law_mapping", .glo "_law_image", .glo "_law_rest", .glo "_law_after", .glo "_law_way_back_map", .glo "_law_told", .glo "_law_mapped", .glo "law", .free "len", .free "abs", .free "int", .free "sum", .free "max", .free "min", .free "list", .free "tuple", .free "isinstance", .free "bool", .free "str", .free "range", .free "reversed", .free "sorted"]
abbrev R : PySem.W.OpenRow := PySem.W.OpenLaw.row PySem.Challenge.rw_wordscancel_k78_images_of_words
abbrev hk : PySem.W.Hook := He.hookD 4 efa efn
def ob (s : PySem.W.SharedT) : He.AlD := He.obsDG 4 efa efn (HandSHeadRun.getT s)
theorem ob_eq (s : PySem.W.SharedT) : ob s = hk.obs s.abs := He.obsDG_eq (HandSHeadRun.getT_eq s)
def loose0 : List Str := ["reduced", "turned_round", "opposite", "product_of", "image_of_number", "image", "map_after", "rest_map", "_law_draws", "_law_cell", "_law_is_number", "_law_is_numbers", "_law_word", "_law_short", "_law_back", "_law_copied", "_law_mapping", "_law_image", "_law_rest", "_law_after", "_law_way_back_map", "_law_told", "_law_mapped"]
def loose : List Str := loose0
theorem run (w : World) : HandSHeadRun.RunEq R (PySem.W.view R.prog [26]) hk ob 3100 loose w := by
  intro os
  kernel_rfl
section
variable {K : PySem.W.Frag} {h : Heap} {mg : Str → Option Value}
theorem at_reduced (X : K.In h) (G : h.Ns mainGlobals mg) (c : He.SaysD efa efn K) : DfAt K mg d_reduced := by
  obtain ⟨fd, F⟩ := c.def_ 0 (d := e_reduced) rfl
  exact ⟨_, fd, F, He.glo_ok X G (c.fact 0 (f := .glo "reduced") rfl), FunD.bindsN F fun _ _ _ _ _ _ us hl => match us, hl with | [_], _ => rfl⟩
theorem at_turned_round (X : K.In h) (G : h.Ns mainGlobals mg) (c : He.SaysD efa efn K) : DfAt K mg d_turned_round := by
  obtain ⟨fd, F⟩ := c.def_ 1 (d := e_turned_round) rfl
  exact ⟨_, fd, F, He.glo_ok X G (c.fact 1 (f := .glo "turned_round") rfl), FunD.bindsN F fun _ _ _ _ _ _ us hl => match us, hl with | [_], _ => rfl⟩
theorem at_opposite (X : K.In h) (G : h.Ns mainGlobals mg) (c : He.SaysD efa efn K) : DfAt K mg d_opposite := by
  obtain ⟨fd, F⟩ := c.def_ 2 (d := e_opposite) rfl
  exact ⟨_, fd, F, He.glo_ok X G (c.fact 2 (f := .glo "opposite") rfl), FunD.bindsN F fun _ _ _ _ _ _ us hl => match us, hl with | [_], _ => rfl⟩
theorem at_product_of (X : K.In h) (G : h.Ns mainGlobals mg) (c : He.SaysD efa efn K) : DfAt K mg d_product_of := by
  obtain ⟨fd, F⟩ := c.def_ 3 (d := e_product_of) rfl
  exact ⟨_, fd, F, He.glo_ok X G (c.fact 3 (f := .glo "product_of") rfl), FunD.bindsN F fun _ _ _ _ _ _ us hl => match us, hl with | [_], _ => rfl⟩
theorem at_image_of_number (X : K.In h) (G : h.Ns mainGlobals mg) (c : He.SaysD efa efn K) : DfAt K mg d_image_of_number := by
  obtain ⟨fd, F⟩ := c.def_ 4 (d := e_image_of_number) rfl
  exact ⟨_, fd, F, He.glo_ok X G (c.fact 4 (f := .glo "image_of_number") rfl), FunD.bindsN F fun _ _ _ _ _ _ us hl => match us, hl with | [_, _], _ => rfl⟩
theorem at_image (X : K.In h) (G : h.Ns mainGlobals mg) (c : He.SaysD efa efn K) : DfAt K mg d_image := by
  obtain ⟨fd, F⟩ := c.def_ 5 (d := e_image) rfl
  exact ⟨_, fd, F, He.glo_ok X G (c.fact 5 (f := .glo "image") rfl), FunD.bindsN F fun _ _ _ _ _ _ us hl => match us, hl with | [_, _], _ => rfl⟩
theorem at_map_after (X : K.In h) (G : h.Ns mainGlobals mg) (c : He.SaysD efa efn K) : DfAt K mg d_map_after := by
  obtain ⟨fd, F⟩ := c.def_ 6 (d := e_map_after) rfl
  exact ⟨_, fd, F, He.glo_ok X G (c.fact 6 (f := .glo "map_after") rfl), FunD.bindsN F fun _ _ _ _ _ _ us hl => match us, hl with | [_, _], _ => rfl⟩
theorem at_rest_map (X : K.In h) (G : h.Ns mainGlobals mg) (c : He.SaysD efa efn K) : DfAt K mg d_rest_map := by
  obtain ⟨fd, F⟩ := c.def_ 7 (d := e_rest_map) rfl
  exact ⟨_, fd, F, He.glo_ok X G (c.fact 7 (f := .glo "rest_map") rfl), FunD.bindsN F fun _ _ _ _ _ _ us hl => match us, hl with | [_], _ => rfl⟩
theorem at__law_draws (X : K.In h) (G : h.Ns mainGlobals mg) (c : He.SaysD efa efn K) : DfAt K mg d__law_draws := by
  obtain ⟨fd, F⟩ := c.def_ 8 (d := e__law_draws) rfl
  exact ⟨_, fd, F, He.glo_ok X G (c.fact 8 (f := .glo "_law_draws") rfl), FunD.bindsN F fun _ _ _ _ _ _ us hl => match us, hl with | [_, _], _ => rfl⟩
theorem at__law_cell (X : K.In h) (G : h.Ns mainGlobals mg) (c : He.SaysD efa efn K) : DfAt K mg d__law_cell := by
  obtain ⟨fd, F⟩ := c.def_ 9 (d := e__law_cell) rfl
  exact ⟨_, fd, F, He.glo_ok X G (c.fact 9 (f := .glo "_law_cell") rfl), FunD.bindsN F fun _ _ _ _ _ _ us hl => match us, hl with | [_, _], _ => rfl⟩
theorem at__law_is_number (X : K.In h) (G : h.Ns mainGlobals mg) (c : He.SaysD efa efn K) : DfAt K mg d__law_is_number := by
  obtain ⟨fd, F⟩ := c.def_ 10 (d := e__law_is_number) rfl
  exact ⟨_, fd, F, He.glo_ok X G (c.fact 10 (f := .glo "_law_is_number") rfl), FunD.bindsN F fun _ _ _ _ _ _ us hl => match us, hl with | [_], _ => rfl⟩
theorem at__law_is_numbers (X : K.In h) (G : h.Ns mainGlobals mg) (c : He.SaysD efa efn K) : DfAt K mg d__law_is_numbers := by
  obtain ⟨fd, F⟩ := c.def_ 11 (d := e__law_is_numbers) rfl
  exact ⟨_, fd, F, He.glo_ok X G (c.fact 11 (f := .glo "_law_is_numbers") rfl), FunD.bindsN F fun _ _ _ _ _ _ us hl => match us, hl with | [_], _ => rfl⟩
theorem at__law_word (X : K.In h) (G : h.Ns mainGlobals mg) (c : He.SaysD efa efn K) : DfAt K mg d__law_word := by
  obtain ⟨fd, F⟩ := c.def_ 12 (d := e__law_word) rfl
  exact ⟨_, fd, F, He.glo_ok X G (c.fact 12 (f := .glo "_law_word") rfl), FunD.bindsN F fun _ _ _ _ _ _ us hl => match us, hl with | [_, _, _, _], _ => rfl⟩
theorem at__law_short (X : K.In h) (G : h.Ns mainGlobals mg) (c : He.SaysD efa efn K) : DfAt K mg d__law_short := by
  obtain ⟨fd, F⟩ := c.def_ 13 (d := e__law_short) rfl
  exact ⟨_, fd, F, He.glo_ok X G (c.fact 13 (f := .glo "_law_short") rfl), FunD.bindsN F fun _ _ _ _ _ _ us hl => match us, hl with | [_], _ => rfl⟩
theorem at__law_back (X : K.In h) (G : h.Ns mainGlobals mg) (c : He.SaysD efa efn K) : DfAt K mg d__law_back := by
  obtain ⟨fd, F⟩ := c.def_ 14 (d := e__law_back) rfl
  exact ⟨_, fd, F, He.glo_ok X G (c.fact 14 (f := .glo "_law_back") rfl), FunD.bindsN F fun _ _ _ _ _ _ us hl => match us, hl with | [_], _ => rfl⟩
theorem at__law_copied (X : K.In h) (G : h.Ns mainGlobals mg) (c : He.SaysD efa efn K) : DfAt K mg d__law_copied := by
  obtain ⟨fd, F⟩ := c.def_ 15 (d := e__law_copied) rfl
  exact ⟨_, fd, F, He.glo_ok X G (c.fact 15 (f := .glo "_law_copied") rfl), FunD.bindsN F fun _ _ _ _ _ _ us hl => match us, hl with | [_], _ => rfl⟩
theorem at__law_mapping (X : K.In h) (G : h.Ns mainGlobals mg) (c : He.SaysD efa efn K) : DfAt K mg d__law_mapping := by
  obtain ⟨fd, F⟩ := c.def_ 16 (d := e__law_mapping) rfl
  exact ⟨_, fd, F, He.glo_ok X G (c.fact 16 (f := .glo "_law_mapping") rfl), FunD.bindsN F fun _ _ _ _ _ _ us hl => match us, hl with | [_, _, _, _], _ => rfl⟩
theorem at__law_image (X : K.In h) (G : h.Ns mainGlobals mg) (c : He.SaysD efa efn K) : DfAt K mg d__law_image := by
  obtain ⟨fd, F⟩ := c.def_ 17 (d := e__law_image) rfl
  exact ⟨_, fd, F, He.glo_ok X G (c.fact 17 (f := .glo "_law_image") rfl), FunD.bindsN F fun _ _ _ _ _ _ us hl => match us, hl with | [_, _], _ => rfl⟩
theorem at__law_rest (X : K.In h) (G : h.Ns mainGlobals mg) (c : He.SaysD efa efn K) : DfAt K mg d__law_rest := by
  obtain ⟨fd, F⟩ := c.def_ 18 (d := e__law_rest) rfl
  exact ⟨_, fd, F, He.glo_ok X G (c.fact 18 (f := .glo "_law_rest") rfl), FunD.bindsN F fun _ _ _ _ _ _ us hl => match us, hl with | [_], _ => rfl⟩
theorem at__law_after (X : K.In h) (G : h.Ns mainGlobals mg) (c : He.SaysD efa efn K) : DfAt K mg d__law_after := by
  obtain ⟨fd, F⟩ := c.def_ 19 (d := e__law_after) rfl
  exact ⟨_, fd, F, He.glo_ok X G (c.fact 19 (f := .glo "_law_after") rfl), FunD.bindsN F fun _ _ _ _ _ _ us hl => match us, hl with | [_, _], _ => rfl⟩
theorem at__law_way_back_map (X : K.In h) (G : h.Ns mainGlobals mg) (c : He.SaysD efa efn K) : DfAt K mg d__law_way_back_map := by
  obtain ⟨fd, F⟩ := c.def_ 20 (d := e__law_way_back_map) rfl
  exact ⟨_, fd, F, He.glo_ok X G (c.fact 20 (f := .glo "_law_way_back_map") rfl), FunD.bindsN F fun _ _ _ _ _ _ us hl => match us, hl with | [_, _, _, _, _], _ => rfl⟩
theorem at__law_told (X : K.In h) (G : h.Ns mainGlobals mg) (c : He.SaysD efa efn K) : DfAt K mg d__law_told := by
  obtain ⟨fd, F⟩ := c.def_ 21 (d := e__law_told) rfl
  exact ⟨_, fd, F, He.glo_ok X G (c.fact 21 (f := .glo "_law_told") rfl), FunD.bindsN F fun _ _ _ _ _ _ us hl => match us, hl with | [_, _], _ => rfl⟩
theorem at__law_mapped (X : K.In h) (G : h.Ns mainGlobals mg) (c : He.SaysD efa efn K) : DfAt K mg d__law_mapped := by
  obtain ⟨fd, F⟩ := c.def_ 22 (d := e__law_mapped) rfl
  exact ⟨_, fd, F, He.glo_ok X G (c.fact 22 (f := .glo "_law_mapped") rfl), FunD.bindsN F fun _ _ _ _ _ _ us hl => match us, hl with | [_, _], _ => rfl⟩
theorem at_law (X : K.In h) (G : h.Ns mainGlobals mg) (c : He.SaysD efa efn K) : DfAt K mg d_law := by
  obtain ⟨fd, F⟩ := c.def_ 23 (d := e_law) rfl
  exact ⟨_, fd, F, He.glo_ok X G (c.fact 23 (f := .glo "law") rfl), FunD.bindsN F fun _ _ _ _ _ _ us hl => match us, hl with | [_], _ => rfl⟩
theorem blts (X : K.In h) (G : h.Ns mainGlobals mg) (c : He.SaysD efa efn K) : ∀ x ∈ bltNames, mg x = none := by
  intro x hx
  simp only [bltNames, List.mem_cons, List.not_mem_nil, or_false] at hx
  rcases hx with rfl | rfl | rfl | rfl | rfl | rfl | rfl | rfl | rfl | rfl | rfl | rfl | rfl | rfl
  · exact He.free_ok X G (c.fact 24 (f := .free "len") rfl)
  · exact He.free_ok X G (c.fact 25 (f := .free "abs") rfl)
  · exact He.free_ok X G (c.fact 26 (f := .free "int") rfl)
  · exact He.free_ok X G (c.fact 27 (f := .free "sum") rfl)
  · exact He.free_ok X G (c.fact 28 (f := .free "max") rfl)
  · exact He.free_ok X G (c.fact 29 (f := .free "min") rfl)
  · exact He.free_ok X G (c.fact 30 (f := .free "list") rfl)
  · exact He.free_ok X G (c.fact 31 (f := .free "tuple") rfl)
  · exact He.free_ok X G (c.fact 32 (f := .free "isinstance") rfl)
  · exact He.free_ok X G (c.fact 33 (f := .free "bool") rfl)
  · exact He.free_ok X G (c.fact 34 (f := .free "str") rfl)
  · exact He.free_ok X G (c.fact 35 (f := .free "range") rfl)
  · exact He.free_ok X G (c.fact 36 (f := .free "reversed") rfl)
  · exact He.free_ok X G (c.fact 37 (f := .free "sorted") rfl)
theorem ats (X : K.In h) (G : h.Ns mainGlobals mg) (c : He.SaysD efa efn K) : ∀ d ∈ dfs, DfAt K mg d := by
  intro d hd
  simp only [dfs, List.mem_cons, List.not_mem_nil, or_false] at hd
  rcases hd with rfl | rfl | rfl | rfl | rfl | rfl | rfl | rfl | rfl | rfl | rfl | rfl | rfl | rfl | rfl | rfl | rfl | rfl | rfl | rfl | rfl | rfl | rfl | rfl
  · exact at_reduced X G c
  · exact at_turned_round X G c
  · exact at_opposite X G c
  · exact at_product_of X G c
  · exact at_image_of_number X G c
  · exact at_image X G c
  · exact at_map_after X G c
  · exact at_rest_map X G c
  · exact at__law_draws X G c
  · exact at__law_cell X G c
  · exact at__law_is_number X G c
  · exact at__law_is_numbers X G c
  · exact at__law_word X G c
  · exact at__law_short X G c
  · exact at__law_back X G c
  · exact at__law_copied X G c
  · exact at__law_mapping X G c
  · exact at__law_image X G c
  · exact at__law_rest X G c
  · exact at__law_after X G c
  · exact at__law_way_back_map X G c
  · exact at__law_told X G c
  · exact at__law_mapped X G c
  · exact at_law X G c
end
theorem holds (main : ∀ ns : List Int, ns.length ≤ 63 → ∃ k d', Phi prog (12 + 1) i_law [.scr ns] = some (.bl true, k, d')) : PySem.Challenge.rw_wordscancel_k78_images_of_words.Holds := by
  open PySem.W PySem.Calls PyProof.Rows in
  w_on; o_law
  refine HandSHeadRun.head_any (r := PySem.W.OpenLaw.row PySem.Challenge.rw_wordscancel_k78_images_of_words) (q := PySem.W.view (PySem.W.OpenLaw.row PySem.Challenge.rw_wordscancel_k78_images_of_words).prog [26]) (H := hk) (ob := ob) (M := 3100) (loose := loose) (d := HandSHeadRun.topDef (PySem.W.OpenLaw.row PySem.Challenge.rw_wordscancel_k78_images_of_words).prog 26) (kwd := []) ob_eq
    (by kernel_rfl) (fun s => by kernel_rfl) run (by kernel_rfl) (by kernel_rfl) (by kernel_rfl) (by rfl) (by first | assumption | decide +kernel) (by decide +kernel) ⟨rfl, rfl, rfl, rfl, rfl, by decide +kernel⟩ ?hw ?hc
  case hw => w_witness2
  case hc =>
    refine L2.walk_ofE (l := PySem.Challenge.rw_wordscancel_k78_images_of_words) (n := 63) (k := 12 + 1) (x := "script") (CX := L2.CX0) rfl (by decide) (by kernel_rfl) ⟨rfl, by decide, by decide⟩ ?F (fun _ _ _ _ z => z)
    intro w mg fa h Y G hmg0
    obtain ⟨K, KX, c⟩ := Y
    have hmg : mg ("law" : PySem.Str) = some (.ref fa) := by
      have e : (HandSHeadRun.topDef (PySem.W.OpenLaw.row PySem.Challenge.rw_wordscancel_k78_images_of_words).prog 26).name = ("law" : PySem.Str) := by kernel_rfl
      rw [← e]
      exact hmg0
    obtain ⟨fd, F⟩ := c.def_ 23 (d := e_law) rfl
    have e := hmg.symm.trans (He.glo_ok KX G (c.fact 23 (f := .glo "law") rfl))
    cases e
    have b := FunD.bindsA (ps := ["script"]) F fun _ _ _ _ _ _ us hl => match us, hl with | [_], _ => rfl
    refine ⟨K, fd, spD K (Phi prog (12 + 1) i_law), KX, fun s v => b s [v] rfl, fun H a ns hl hO hS => ?_, fun base _ _ => ?_⟩
    · obtain ⟨k, d', e⟩ := main ns hl
      exact law_sp hO hS e
    · have z := prg.law (P := (PySem.Challenge.rw_wordscancel_k78_images_of_words).prog) (w := w) (base := base) (n := 12) (i := i_law) (x := "law") (d := d_law) (blts KX G c) (ats KX G c) (by decide +kernel) hmg rfl F
      exact z
end LW

namespace LW
open PD

theorem run_reduced (Φ : PhiT) (xs : List Int) (hx : xs.length ≤ 16777216) : runF Φ F_reduced [eW xs] = some (eW (red xs), 1, .non) := by
  have L : ∃ σ', exec Φ F_reduced.own F_reduced.ret (nth F_reduced.body 1) [some (eW xs, 0), some (eW [], 1), none] = some (.nx σ') ∧ ((∃ j, σ' = [some (eW xs, 0), some (eW (xs.foldl push []).reverse, 1), j])) ∧ (xs.foldl push []).length ≤ xs.length := by
    refine x_frP (fun (s : List Int) σ => ∃ j, σ = [some (eW xs, 0), some (eW s.reverse, 1), j]) (fun ys s => s.length ≤ ys.length) push D.int xs [] ?_ ?_ (by simp) ?_
    · simp only [e_cst, e_var, e_lst, e_tup, e_bin, e_neg, e_cmp, e_chn, e_and, e_or, e_not, e_idx, e_sli, e_bck, e_blt, e_call, es_nil, es_cons, cond_def, aB_t, aB_f, oB_t, oB_f, add_i, sub_i, mul_i, div_i, mod_i, pow_18, c_eq, c_ne, c_lt, c_le, c_gt, c_ge, c_is, c_isn, isNon_n, isNon_i, isNon_b, isNon_t, isNon_L, tr_b, tr_i, tr_n, abs_i, int_i, max_i, min_i, isD_i, isD_b, isD_n, isD_t, isD_s, isD_L, val_L, val_t, ix_L, ix_t, at_0, at_1, at_2, atI_last, cat_isEmpty, dz, dpos,  List.dropLast_concat, List.reverse_nil, List.reverse_cons, bltD, optInt, itE_def, itD, isRng, bindT, bindT.go, wipe, fold_l, sum_l, cov_W, cov_M, eqD_MWr, eqD_MMr, imm_l, fr_l, fr_i, fr_b, fr_n, fr_s, fr_lst, lenD_l, listD_l, valD_l, revD_l, bckD_l, truth_l, isD_l, isNon_l, add_l, popD_l, appD_l, eqD_I, eqD_W, eqD_M, ixD_l, u_0, u_1, u_2, u_3, u_8, d_0, d_1, d_2, d_3, d_4, d_8, List.getElem?_cons_succ, List.getElem?_cons_zero, List.set_cons_succ, List.set_cons_zero, List.getD_cons_succ, List.getD_cons_zero, List.map_cons, List.map_nil, List.length_cons, List.length_nil, List.append_nil, List.nil_append, List.cons_append, List.replicate_succ, List.replicate_zero, Nat.reduceAdd, Nat.reduceSub, Nat.reduceLeDiff, Nat.reduceLT, Nat.zero_le, Nat.le_refl, ne_eq, not_true_eq_false, not_false_eq_true, Bool.or_self, Bool.or_false, Bool.false_or, Bool.or_true, Bool.true_or, Bool.and_true, Bool.true_and, Bool.and_false, Bool.false_and, Bool.not_true, Bool.not_false, decide_true, decide_false, decide_eq_true_eq, if_true, if_false, ite_true, ite_false, reduceIte, reduceCtorEq, Nat.reduceEqDiff, Nat.succ_ne_zero, Nat.one_ne_zero, small_def, PySem.sizeLine, Nat.reduceMul, beq_self_eq_true, Int.reduceMul, Int.reduceSub, Option.map_some, Option.map_none, true_and, and_true, and_self, Int.reduceNeg, Int.reduceAdd, Int.reduceLT, Int.reduceLE, Int.reducePow, Nat.reducePow, Int.reduceToNat]
    · exact ⟨_, rfl⟩
    · rintro a ys zs b σ hw hl ⟨j, rfl⟩
      have hp := push_length b a
      have hw := congrArg List.length hw
      simp at hw
      refine ⟨⟨_, rfl, [some (eW xs, 0), some (eW (push b a).reverse, 1), some (.int a, 0)], .inl ?_, _, rfl⟩, by simp; omega⟩
      cases b with
      | nil => simp only [F_reduced, runR_rt, runR_nx, x_skip, x_seq, x_ite, x_asg, x_par, x_ret, x_retv, x_rett, x_app, x_pop, x_put, x_put2, sq_nx, sq_rt, ic_t, ic_f, setO_one, parO_some, setT, setT.go, setV, esc, esc0, ownd, demote, cov, cov.covL, List.any_cons, List.any_nil, vars, varsS, chgR, chg, pthD, Pth.root, Pth.toE, mvR, RT.slots, minK, e_cst, e_var, e_lst, e_tup, e_bin, e_neg, e_cmp, e_chn, e_and, e_or, e_not, e_idx, e_sli, e_bck, e_blt, e_call, es_nil, es_cons, cond_def, aB_t, aB_f, oB_t, oB_f, add_i, sub_i, mul_i, div_i, mod_i, pow_18, c_eq, c_ne, c_lt, c_le, c_gt, c_ge, c_is, c_isn, isNon_n, isNon_i, isNon_b, isNon_t, isNon_L, tr_b, tr_i, tr_n, abs_i, int_i, max_i, min_i, isD_i, isD_b, isD_n, isD_t, isD_s, isD_L, val_L, val_t, ix_L, ix_t, at_0, at_1, at_2, atI_last, cat_isEmpty, dz, dpos,  List.dropLast_concat, List.reverse_nil, List.reverse_cons, bltD, optInt, itE_def, itD, isRng, bindT, bindT.go, wipe, fold_l, sum_l, cov_W, cov_M, eqD_MWr, eqD_MMr, imm_l, fr_l, fr_i, fr_b, fr_n, fr_s, fr_lst, lenD_l, listD_l, valD_l, revD_l, bckD_l, truth_l, isD_l, isNon_l, add_l, popD_l, appD_l, eqD_I, eqD_W, eqD_M, ixD_l, u_0, u_1, u_2, u_3, u_8, d_0, d_1, d_2, d_3, d_4, d_8, List.getElem?_cons_succ, List.getElem?_cons_zero, List.set_cons_succ, List.set_cons_zero, List.getD_cons_succ, List.getD_cons_zero, List.map_cons, List.map_nil, List.length_cons, List.length_nil, List.append_nil, List.nil_append, List.cons_append, List.replicate_succ, List.replicate_zero, Nat.reduceAdd, Nat.reduceSub, Nat.reduceLeDiff, Nat.reduceLT, Nat.zero_le, Nat.le_refl, ne_eq, not_true_eq_false, not_false_eq_true, Bool.or_self, Bool.or_false, Bool.false_or, Bool.or_true, Bool.true_or, Bool.and_true, Bool.true_and, Bool.and_false, Bool.false_and, Bool.not_true, Bool.not_false, decide_true, decide_false, decide_eq_true_eq, if_true, if_false, ite_true, ite_false, reduceIte, reduceCtorEq, Nat.reduceEqDiff, Nat.succ_ne_zero, Nat.one_ne_zero, small_def, PySem.sizeLine, Nat.reduceMul, beq_self_eq_true, Int.reduceMul, Int.reduceSub, Option.map_some, Option.map_none, true_and, and_true, and_self, Int.reduceNeg, Int.reduceAdd, Int.reduceLT, Int.reduceLE, Int.reducePow, Nat.reducePow, Int.reduceToNat, push_nil]
      | cons y t =>
        by_cases h : y = -a
        · simp only [F_reduced, runR_rt, runR_nx, x_skip, x_seq, x_ite, x_asg, x_par, x_ret, x_retv, x_rett, x_app, x_pop, x_put, x_put2, sq_nx, sq_rt, ic_t, ic_f, setO_one, parO_some, setT, setT.go, setV, esc, esc0, ownd, demote, cov, cov.covL, List.any_cons, List.any_nil, vars, varsS, chgR, chg, pthD, Pth.root, Pth.toE, mvR, RT.slots, minK, e_cst, e_var, e_lst, e_tup, e_bin, e_neg, e_cmp, e_chn, e_and, e_or, e_not, e_idx, e_sli, e_bck, e_blt, e_call, es_nil, es_cons, cond_def, aB_t, aB_f, oB_t, oB_f, add_i, sub_i, mul_i, div_i, mod_i, pow_18, c_eq, c_ne, c_lt, c_le, c_gt, c_ge, c_is, c_isn, isNon_n, isNon_i, isNon_b, isNon_t, isNon_L, tr_b, tr_i, tr_n, abs_i, int_i, max_i, min_i, isD_i, isD_b, isD_n, isD_t, isD_s, isD_L, val_L, val_t, ix_L, ix_t, at_0, at_1, at_2, atI_last, cat_isEmpty, dz, dpos,  List.dropLast_concat, List.reverse_nil, List.reverse_cons, bltD, optInt, itE_def, itD, isRng, bindT, bindT.go, wipe, fold_l, sum_l, cov_W, cov_M, eqD_MWr, eqD_MMr, imm_l, fr_l, fr_i, fr_b, fr_n, fr_s, fr_lst, lenD_l, listD_l, valD_l, revD_l, bckD_l, truth_l, isD_l, isNon_l, add_l, popD_l, appD_l, eqD_I, eqD_W, eqD_M, ixD_l, u_0, u_1, u_2, u_3, u_8, d_0, d_1, d_2, d_3, d_4, d_8, List.getElem?_cons_succ, List.getElem?_cons_zero, List.set_cons_succ, List.set_cons_zero, List.getD_cons_succ, List.getD_cons_zero, List.map_cons, List.map_nil, List.length_cons, List.length_nil, List.append_nil, List.nil_append, List.cons_append, List.replicate_succ, List.replicate_zero, Nat.reduceAdd, Nat.reduceSub, Nat.reduceLeDiff, Nat.reduceLT, Nat.zero_le, Nat.le_refl, ne_eq, not_true_eq_false, not_false_eq_true, Bool.or_self, Bool.or_false, Bool.false_or, Bool.or_true, Bool.true_or, Bool.and_true, Bool.true_and, Bool.and_false, Bool.false_and, Bool.not_true, Bool.not_false, decide_true, decide_false, decide_eq_true_eq, if_true, if_false, ite_true, ite_false, reduceIte, reduceCtorEq, Nat.reduceEqDiff, Nat.succ_ne_zero, Nat.one_ne_zero, small_def, PySem.sizeLine, Nat.reduceMul, beq_self_eq_true, Int.reduceMul, Int.reduceSub, Option.map_some, Option.map_none, true_and, and_true, and_self, Int.reduceNeg, Int.reduceAdd, Int.reduceLT, Int.reduceLE, Int.reducePow, Nat.reducePow, Int.reduceToNat, push_cons, if_pos h, decide_eq_true h]
        · have hb : (t.reverse ++ [y]).length < 16777216 := by simp at hl ⊢; omega
          simp only [F_reduced, runR_rt, runR_nx, x_skip, x_seq, x_ite, x_asg, x_par, x_ret, x_retv, x_rett, x_app, x_pop, x_put, x_put2, sq_nx, sq_rt, ic_t, ic_f, setO_one, parO_some, setT, setT.go, setV, esc, esc0, ownd, demote, cov, cov.covL, List.any_cons, List.any_nil, vars, varsS, chgR, chg, pthD, Pth.root, Pth.toE, mvR, RT.slots, minK, e_cst, e_var, e_lst, e_tup, e_bin, e_neg, e_cmp, e_chn, e_and, e_or, e_not, e_idx, e_sli, e_bck, e_blt, e_call, es_nil, es_cons, cond_def, aB_t, aB_f, oB_t, oB_f, add_i, sub_i, mul_i, div_i, mod_i, pow_18, c_eq, c_ne, c_lt, c_le, c_gt, c_ge, c_is, c_isn, isNon_n, isNon_i, isNon_b, isNon_t, isNon_L, tr_b, tr_i, tr_n, abs_i, int_i, max_i, min_i, isD_i, isD_b, isD_n, isD_t, isD_s, isD_L, val_L, val_t, ix_L, ix_t, at_0, at_1, at_2, atI_last, cat_isEmpty, dz, dpos,  List.dropLast_concat, List.reverse_nil, List.reverse_cons, bltD, optInt, itE_def, itD, isRng, bindT, bindT.go, wipe, fold_l, sum_l, cov_W, cov_M, eqD_MWr, eqD_MMr, imm_l, fr_l, fr_i, fr_b, fr_n, fr_s, fr_lst, lenD_l, listD_l, valD_l, revD_l, bckD_l, truth_l, isD_l, isNon_l, add_l, popD_l, appD_l, eqD_I, eqD_W, eqD_M, ixD_l, u_0, u_1, u_2, u_3, u_8, d_0, d_1, d_2, d_3, d_4, d_8, List.getElem?_cons_succ, List.getElem?_cons_zero, List.set_cons_succ, List.set_cons_zero, List.getD_cons_succ, List.getD_cons_zero, List.map_cons, List.map_nil, List.length_cons, List.length_nil, List.append_nil, List.nil_append, List.cons_append, List.replicate_succ, List.replicate_zero, Nat.reduceAdd, Nat.reduceSub, Nat.reduceLeDiff, Nat.reduceLT, Nat.zero_le, Nat.le_refl, ne_eq, not_true_eq_false, not_false_eq_true, Bool.or_self, Bool.or_false, Bool.false_or, Bool.or_true, Bool.true_or, Bool.and_true, Bool.true_and, Bool.and_false, Bool.false_and, Bool.not_true, Bool.not_false, decide_true, decide_false, decide_eq_true_eq, if_true, if_false, ite_true, ite_false, reduceIte, reduceCtorEq, Nat.reduceEqDiff, Nat.succ_ne_zero, Nat.one_ne_zero, small_def, PySem.sizeLine, Nat.reduceMul, beq_self_eq_true, Int.reduceMul, Int.reduceSub, Option.map_some, Option.map_none, true_and, and_true, and_self, Int.reduceNeg, Int.reduceAdd, Int.reduceLT, Int.reduceLE, Int.reducePow, Nat.reducePow, Int.reduceToNat, push_cons, if_neg h, decide_eq_false h, hb]
  obtain ⟨σ', h1, ⟨j, rfl⟩, -⟩ := L
  simp only [F_reduced, nth] at h1
  rw [runF_of rfl]
  simp only [F_reduced, runR_rt, runR_nx, x_skip, x_seq, x_ite, x_asg, x_par, x_ret, x_retv, x_rett, x_app, x_pop, x_put, x_put2, sq_nx, sq_rt, ic_t, ic_f, setO_one, parO_some, setT, setT.go, setV, esc, esc0, ownd, demote, cov, cov.covL, List.any_cons, List.any_nil, vars, varsS, chgR, chg, pthD, Pth.root, Pth.toE, mvR, RT.slots, minK, e_cst, e_var, e_lst, e_tup, e_bin, e_neg, e_cmp, e_chn, e_and, e_or, e_not, e_idx, e_sli, e_bck, e_blt, e_call, es_nil, es_cons, cond_def, aB_t, aB_f, oB_t, oB_f, add_i, sub_i, mul_i, div_i, mod_i, pow_18, c_eq, c_ne, c_lt, c_le, c_gt, c_ge, c_is, c_isn, isNon_n, isNon_i, isNon_b, isNon_t, isNon_L, tr_b, tr_i, tr_n, abs_i, int_i, max_i, min_i, isD_i, isD_b, isD_n, isD_t, isD_s, isD_L, val_L, val_t, ix_L, ix_t, at_0, at_1, at_2, atI_last, cat_isEmpty, dz, dpos,  List.dropLast_concat, List.reverse_nil, List.reverse_cons, bltD, optInt, itE_def, itD, isRng, bindT, bindT.go, wipe, fold_l, sum_l, cov_W, cov_M, eqD_MWr, eqD_MMr, imm_l, fr_l, fr_i, fr_b, fr_n, fr_s, fr_lst, lenD_l, listD_l, valD_l, revD_l, bckD_l, truth_l, isD_l, isNon_l, add_l, popD_l, appD_l, eqD_I, eqD_W, eqD_M, ixD_l, u_0, u_1, u_2, u_3, u_8, d_0, d_1, d_2, d_3, d_4, d_8, List.getElem?_cons_succ, List.getElem?_cons_zero, List.set_cons_succ, List.set_cons_zero, List.getD_cons_succ, List.getD_cons_zero, List.map_cons, List.map_nil, List.length_cons, List.length_nil, List.append_nil, List.nil_append, List.cons_append, List.replicate_succ, List.replicate_zero, Nat.reduceAdd, Nat.reduceSub, Nat.reduceLeDiff, Nat.reduceLT, Nat.zero_le, Nat.le_refl, ne_eq, not_true_eq_false, not_false_eq_true, Bool.or_self, Bool.or_false, Bool.false_or, Bool.or_true, Bool.true_or, Bool.and_true, Bool.true_and, Bool.and_false, Bool.false_and, Bool.not_true, Bool.not_false, decide_true, decide_false, decide_eq_true_eq, if_true, if_false, ite_true, ite_false, reduceIte, reduceCtorEq, Nat.reduceEqDiff, Nat.succ_ne_zero, Nat.one_ne_zero, small_def, PySem.sizeLine, Nat.reduceMul, beq_self_eq_true, Int.reduceMul, Int.reduceSub, Option.map_some, Option.map_none, true_and, and_true, and_self, Int.reduceNeg, Int.reduceAdd, Int.reduceLT, Int.reduceLE, Int.reducePow, Nat.reducePow, Int.reduceToNat, nil_W D.int, h1]
  rfl
theorem ev_reduced (n : Nat) (xs : List Int) (hx : xs.length ≤ 16777216) : Phi prog (n + 1) i_reduced [eW xs] = some (eW (red xs), 1, .non) := by rw [Phi_succ (fn := F_reduced) rfl]; exact run_reduced _ xs hx
theorem ev_turned_round (n : Nat) (xs : List Int) (hx : xs.length ≤ 16777216) : Phi prog (n + 1) i_turned_round [eW xs] = some (eW (back xs), 8, .non) := by
  rw [Phi_succ (fn := F_turned_round) rfl]
  have L : evalE (Phi prog n) (retE (nth F_turned_round.body 0)) [some (eW xs, 0), none, none] = some (eW (xs.reverse.map fun x => -x), up 8) := by
    refine e_mapF D.int D.int (fun x => -x) xs.reverse ?_ (by simpa using hx) ?_
    · simp only [e_cst, e_var, e_lst, e_tup, e_bin, e_neg, e_cmp, e_chn, e_and, e_or, e_not, e_idx, e_sli, e_bck, e_blt, e_call, es_nil, es_cons, cond_def, aB_t, aB_f, oB_t, oB_f, add_i, sub_i, mul_i, div_i, mod_i, pow_18, c_eq, c_ne, c_lt, c_le, c_gt, c_ge, c_is, c_isn, isNon_n, isNon_i, isNon_b, isNon_t, isNon_L, tr_b, tr_i, tr_n, abs_i, int_i, max_i, min_i, isD_i, isD_b, isD_n, isD_t, isD_s, isD_L, val_L, val_t, ix_L, ix_t, at_0, at_1, at_2, atI_last, cat_isEmpty, dz, dpos,  List.dropLast_concat, List.reverse_nil, List.reverse_cons, bltD, optInt, itE_def, itD, isRng, bindT, bindT.go, wipe, fold_l, sum_l, cov_W, cov_M, eqD_MWr, eqD_MMr, imm_l, fr_l, fr_i, fr_b, fr_n, fr_s, fr_lst, lenD_l, listD_l, valD_l, revD_l, bckD_l, truth_l, isD_l, isNon_l, add_l, popD_l, appD_l, eqD_I, eqD_W, eqD_M, ixD_l, u_0, u_1, u_2, u_3, u_8, d_0, d_1, d_2, d_3, d_4, d_8, List.getElem?_cons_succ, List.getElem?_cons_zero, List.set_cons_succ, List.set_cons_zero, List.getD_cons_succ, List.getD_cons_zero, List.map_cons, List.map_nil, List.length_cons, List.length_nil, List.append_nil, List.nil_append, List.cons_append, List.replicate_succ, List.replicate_zero, Nat.reduceAdd, Nat.reduceSub, Nat.reduceLeDiff, Nat.reduceLT, Nat.zero_le, Nat.le_refl, ne_eq, not_true_eq_false, not_false_eq_true, Bool.or_self, Bool.or_false, Bool.false_or, Bool.or_true, Bool.true_or, Bool.and_true, Bool.true_and, Bool.and_false, Bool.false_and, Bool.not_true, Bool.not_false, decide_true, decide_false, decide_eq_true_eq, if_true, if_false, ite_true, ite_false, reduceIte, reduceCtorEq, Nat.reduceEqDiff, Nat.succ_ne_zero, Nat.one_ne_zero, small_def, PySem.sizeLine, Nat.reduceMul, beq_self_eq_true, Int.reduceMul, Int.reduceSub, Option.map_some, Option.map_none, true_and, and_true, and_self, Int.reduceNeg, Int.reduceAdd, Int.reduceLT, Int.reduceLE, Int.reducePow, Nat.reducePow, Int.reduceToNat]
    · intro a ha
      simp only [cmB_def, runR_rt, runR_nx, x_skip, x_seq, x_ite, x_asg, x_par, x_ret, x_retv, x_rett, x_app, x_pop, x_put, x_put2, sq_nx, sq_rt, ic_t, ic_f, setO_one, parO_some, setT, setT.go, setV, esc, esc0, ownd, demote, cov, cov.covL, List.any_cons, List.any_nil, vars, varsS, chgR, chg, pthD, Pth.root, Pth.toE, mvR, RT.slots, minK, e_cst, e_var, e_lst, e_tup, e_bin, e_neg, e_cmp, e_chn, e_and, e_or, e_not, e_idx, e_sli, e_bck, e_blt, e_call, es_nil, es_cons, cond_def, aB_t, aB_f, oB_t, oB_f, add_i, sub_i, mul_i, div_i, mod_i, pow_18, c_eq, c_ne, c_lt, c_le, c_gt, c_ge, c_is, c_isn, isNon_n, isNon_i, isNon_b, isNon_t, isNon_L, tr_b, tr_i, tr_n, abs_i, int_i, max_i, min_i, isD_i, isD_b, isD_n, isD_t, isD_s, isD_L, val_L, val_t, ix_L, ix_t, at_0, at_1, at_2, atI_last, cat_isEmpty, dz, dpos,  List.dropLast_concat, List.reverse_nil, List.reverse_cons, bltD, optInt, itE_def, itD, isRng, bindT, bindT.go, wipe, fold_l, sum_l, cov_W, cov_M, eqD_MWr, eqD_MMr, imm_l, fr_l, fr_i, fr_b, fr_n, fr_s, fr_lst, lenD_l, listD_l, valD_l, revD_l, bckD_l, truth_l, isD_l, isNon_l, add_l, popD_l, appD_l, eqD_I, eqD_W, eqD_M, ixD_l, u_0, u_1, u_2, u_3, u_8, d_0, d_1, d_2, d_3, d_4, d_8, List.getElem?_cons_succ, List.getElem?_cons_zero, List.set_cons_succ, List.set_cons_zero, List.getD_cons_succ, List.getD_cons_zero, List.map_cons, List.map_nil, List.length_cons, List.length_nil, List.append_nil, List.nil_append, List.cons_append, List.replicate_succ, List.replicate_zero, Nat.reduceAdd, Nat.reduceSub, Nat.reduceLeDiff, Nat.reduceLT, Nat.zero_le, Nat.le_refl, ne_eq, not_true_eq_false, not_false_eq_true, Bool.or_self, Bool.or_false, Bool.false_or, Bool.or_true, Bool.true_or, Bool.and_true, Bool.true_and, Bool.and_false, Bool.false_and, Bool.not_true, Bool.not_false, decide_true, decide_false, decide_eq_true_eq, if_true, if_false, ite_true, ite_false, reduceIte, reduceCtorEq, Nat.reduceEqDiff, Nat.succ_ne_zero, Nat.one_ne_zero, small_def, PySem.sizeLine, Nat.reduceMul, beq_self_eq_true, Int.reduceMul, Int.reduceSub, Option.map_some, Option.map_none, true_and, and_true, and_self, Int.reduceNeg, Int.reduceAdd, Int.reduceLT, Int.reduceLE, Int.reducePow, Nat.reducePow, Int.reduceToNat]
  simp only [F_turned_round, nth, retE] at L
  rw [runF_of rfl]
  simp only [F_turned_round, runR_rt, runR_nx, x_skip, x_seq, x_ite, x_asg, x_par, x_ret, x_retv, x_rett, x_app, x_pop, x_put, x_put2, sq_nx, sq_rt, ic_t, ic_f, setO_one, parO_some, setT, setT.go, setV, esc, esc0, ownd, demote, cov, cov.covL, List.any_cons, List.any_nil, vars, varsS, chgR, chg, pthD, Pth.root, Pth.toE, mvR, RT.slots, minK, e_cst, e_var, e_lst, e_tup, e_bin, e_neg, e_cmp, e_chn, e_and, e_or, e_not, e_idx, e_sli, e_bck, e_blt, e_call, es_nil, es_cons, cond_def, aB_t, aB_f, oB_t, oB_f, add_i, sub_i, mul_i, div_i, mod_i, pow_18, c_eq, c_ne, c_lt, c_le, c_gt, c_ge, c_is, c_isn, isNon_n, isNon_i, isNon_b, isNon_t, isNon_L, tr_b, tr_i, tr_n, abs_i, int_i, max_i, min_i, isD_i, isD_b, isD_n, isD_t, isD_s, isD_L, val_L, val_t, ix_L, ix_t, at_0, at_1, at_2, atI_last, cat_isEmpty, dz, dpos,  List.dropLast_concat, List.reverse_nil, List.reverse_cons, bltD, optInt, itE_def, itD, isRng, bindT, bindT.go, wipe, fold_l, sum_l, cov_W, cov_M, eqD_MWr, eqD_MMr, imm_l, fr_l, fr_i, fr_b, fr_n, fr_s, fr_lst, lenD_l, listD_l, valD_l, revD_l, bckD_l, truth_l, isD_l, isNon_l, add_l, popD_l, appD_l, eqD_I, eqD_W, eqD_M, ixD_l, u_0, u_1, u_2, u_3, u_8, d_0, d_1, d_2, d_3, d_4, d_8, List.getElem?_cons_succ, List.getElem?_cons_zero, List.set_cons_succ, List.set_cons_zero, List.getD_cons_succ, List.getD_cons_zero, List.map_cons, List.map_nil, List.length_cons, List.length_nil, List.append_nil, List.nil_append, List.cons_append, List.replicate_succ, List.replicate_zero, Nat.reduceAdd, Nat.reduceSub, Nat.reduceLeDiff, Nat.reduceLT, Nat.zero_le, Nat.le_refl, ne_eq, not_true_eq_false, not_false_eq_true, Bool.or_self, Bool.or_false, Bool.false_or, Bool.or_true, Bool.true_or, Bool.and_true, Bool.true_and, Bool.and_false, Bool.false_and, Bool.not_true, Bool.not_false, decide_true, decide_false, decide_eq_true_eq, if_true, if_false, ite_true, ite_false, reduceIte, reduceCtorEq, Nat.reduceEqDiff, Nat.succ_ne_zero, Nat.one_ne_zero, small_def, PySem.sizeLine, Nat.reduceMul, beq_self_eq_true, Int.reduceMul, Int.reduceSub, Option.map_some, Option.map_none, true_and, and_true, and_self, Int.reduceNeg, Int.reduceAdd, Int.reduceLT, Int.reduceLE, Int.reducePow, Nat.reducePow, Int.reduceToNat, L]
  rfl
theorem ev_opposite (n : Nat) (xs : List Int) (hx : xs.length ≤ 16777216) : Phi prog (n + 2) i_opposite [eW xs] = some (eW (red (back xs)), 1, .non) := by
  rw [Phi_succ (fn := F_opposite) rfl]
  have h1 := ev_turned_round n xs hx
  have h2 := ev_reduced n (back xs) (by simpa [back] using hx)
  rw [runF_of rfl]
  simp only [F_opposite, runR_rt, runR_nx, x_skip, x_seq, x_ite, x_asg, x_par, x_ret, x_retv, x_rett, x_app, x_pop, x_put, x_put2, sq_nx, sq_rt, ic_t, ic_f, setO_one, parO_some, setT, setT.go, setV, esc, esc0, ownd, demote, cov, cov.covL, List.any_cons, List.any_nil, vars, varsS, chgR, chg, pthD, Pth.root, Pth.toE, mvR, RT.slots, minK, e_cst, e_var, e_lst, e_tup, e_bin, e_neg, e_cmp, e_chn, e_and, e_or, e_not, e_idx, e_sli, e_bck, e_blt, e_call, es_nil, es_cons, cond_def, aB_t, aB_f, oB_t, oB_f, add_i, sub_i, mul_i, div_i, mod_i, pow_18, c_eq, c_ne, c_lt, c_le, c_gt, c_ge, c_is, c_isn, isNon_n, isNon_i, isNon_b, isNon_t, isNon_L, tr_b, tr_i, tr_n, abs_i, int_i, max_i, min_i, isD_i, isD_b, isD_n, isD_t, isD_s, isD_L, val_L, val_t, ix_L, ix_t, at_0, at_1, at_2, atI_last, cat_isEmpty, dz, dpos,  List.dropLast_concat, List.reverse_nil, List.reverse_cons, bltD, optInt, itE_def, itD, isRng, bindT, bindT.go, wipe, fold_l, sum_l, cov_W, cov_M, eqD_MWr, eqD_MMr, imm_l, fr_l, fr_i, fr_b, fr_n, fr_s, fr_lst, lenD_l, listD_l, valD_l, revD_l, bckD_l, truth_l, isD_l, isNon_l, add_l, popD_l, appD_l, eqD_I, eqD_W, eqD_M, ixD_l, u_0, u_1, u_2, u_3, u_8, d_0, d_1, d_2, d_3, d_4, d_8, List.getElem?_cons_succ, List.getElem?_cons_zero, List.set_cons_succ, List.set_cons_zero, List.getD_cons_succ, List.getD_cons_zero, List.map_cons, List.map_nil, List.length_cons, List.length_nil, List.append_nil, List.nil_append, List.cons_append, List.replicate_succ, List.replicate_zero, Nat.reduceAdd, Nat.reduceSub, Nat.reduceLeDiff, Nat.reduceLT, Nat.zero_le, Nat.le_refl, ne_eq, not_true_eq_false, not_false_eq_true, Bool.or_self, Bool.or_false, Bool.false_or, Bool.or_true, Bool.true_or, Bool.and_true, Bool.true_and, Bool.and_false, Bool.false_and, Bool.not_true, Bool.not_false, decide_true, decide_false, decide_eq_true_eq, if_true, if_false, ite_true, ite_false, reduceIte, reduceCtorEq, Nat.reduceEqDiff, Nat.succ_ne_zero, Nat.one_ne_zero, small_def, PySem.sizeLine, Nat.reduceMul, beq_self_eq_true, Int.reduceMul, Int.reduceSub, Option.map_some, Option.map_none, true_and, and_true, and_self, Int.reduceNeg, Int.reduceAdd, Int.reduceLT, Int.reduceLE, Int.reducePow, Nat.reducePow, Int.reduceToNat, h1, h2]
theorem ev_product_of (n : Nat) (xs : List (List Int)) (hx : xs.flatten.length ≤ 16777216) : Phi prog (n + 2) i_product_of [eM xs] = some (eW (red xs.flatten), 1, .non) := by
  rw [Phi_succ (fn := F_product_of) rfl]
  have L : evalE (Phi prog (n + 1)) (argE (retE (nth F_product_of.body 0)) 0) [some (eM xs, 0), none, none, none] = some (.lst (xs.flatMap fun x => x.map D.int), up 0) := by
    refine e_mapmap eW (fun x => x.map D.int) xs ?_ ?_ ?_
    · simp only [e_cst, e_var, e_lst, e_tup, e_bin, e_neg, e_cmp, e_chn, e_and, e_or, e_not, e_idx, e_sli, e_bck, e_blt, e_call, es_nil, es_cons, cond_def, aB_t, aB_f, oB_t, oB_f, add_i, sub_i, mul_i, div_i, mod_i, pow_18, c_eq, c_ne, c_lt, c_le, c_gt, c_ge, c_is, c_isn, isNon_n, isNon_i, isNon_b, isNon_t, isNon_L, tr_b, tr_i, tr_n, abs_i, int_i, max_i, min_i, isD_i, isD_b, isD_n, isD_t, isD_s, isD_L, val_L, val_t, ix_L, ix_t, at_0, at_1, at_2, atI_last, cat_isEmpty, dz, dpos,  List.dropLast_concat, List.reverse_nil, List.reverse_cons, bltD, optInt, itE_def, itD, isRng, bindT, bindT.go, wipe, fold_l, sum_l, cov_W, cov_M, eqD_MWr, eqD_MMr, imm_l, fr_l, fr_i, fr_b, fr_n, fr_s, fr_lst, lenD_l, listD_l, valD_l, revD_l, bckD_l, truth_l, isD_l, isNon_l, add_l, popD_l, appD_l, eqD_I, eqD_W, eqD_M, ixD_l, u_0, u_1, u_2, u_3, u_8, d_0, d_1, d_2, d_3, d_4, d_8, List.getElem?_cons_succ, List.getElem?_cons_zero, List.set_cons_succ, List.set_cons_zero, List.getD_cons_succ, List.getD_cons_zero, List.map_cons, List.map_nil, List.length_cons, List.length_nil, List.append_nil, List.nil_append, List.cons_append, List.replicate_succ, List.replicate_zero, Nat.reduceAdd, Nat.reduceSub, Nat.reduceLeDiff, Nat.reduceLT, Nat.zero_le, Nat.le_refl, ne_eq, not_true_eq_false, not_false_eq_true, Bool.or_self, Bool.or_false, Bool.false_or, Bool.or_true, Bool.true_or, Bool.and_true, Bool.true_and, Bool.and_false, Bool.false_and, Bool.not_true, Bool.not_false, decide_true, decide_false, decide_eq_true_eq, if_true, if_false, ite_true, ite_false, reduceIte, reduceCtorEq, Nat.reduceEqDiff, Nat.succ_ne_zero, Nat.one_ne_zero, small_def, PySem.sizeLine, Nat.reduceMul, beq_self_eq_true, Int.reduceMul, Int.reduceSub, Option.map_some, Option.map_none, true_and, and_true, and_self, Int.reduceNeg, Int.reduceAdd, Int.reduceLT, Int.reduceLE, Int.reducePow, Nat.reducePow, Int.reduceToNat]
    · intro a ha
      simp only [cmB2_def, runR_rt, runR_nx, x_skip, x_seq, x_ite, x_asg, x_par, x_ret, x_retv, x_rett, x_app, x_pop, x_put, x_put2, sq_nx, sq_rt, ic_t, ic_f, setO_one, parO_some, setT, setT.go, setV, esc, esc0, ownd, demote, cov, cov.covL, List.any_cons, List.any_nil, vars, varsS, chgR, chg, pthD, Pth.root, Pth.toE, mvR, RT.slots, minK, e_cst, e_var, e_lst, e_tup, e_bin, e_neg, e_cmp, e_chn, e_and, e_or, e_not, e_idx, e_sli, e_bck, e_blt, e_call, es_nil, es_cons, cond_def, aB_t, aB_f, oB_t, oB_f, add_i, sub_i, mul_i, div_i, mod_i, pow_18, c_eq, c_ne, c_lt, c_le, c_gt, c_ge, c_is, c_isn, isNon_n, isNon_i, isNon_b, isNon_t, isNon_L, tr_b, tr_i, tr_n, abs_i, int_i, max_i, min_i, isD_i, isD_b, isD_n, isD_t, isD_s, isD_L, val_L, val_t, ix_L, ix_t, at_0, at_1, at_2, atI_last, cat_isEmpty, dz, dpos,  List.dropLast_concat, List.reverse_nil, List.reverse_cons, bltD, optInt, itE_def, itD, isRng, bindT, bindT.go, wipe, fold_l, sum_l, cov_W, cov_M, eqD_MWr, eqD_MMr, imm_l, fr_l, fr_i, fr_b, fr_n, fr_s, fr_lst, lenD_l, listD_l, valD_l, revD_l, bckD_l, truth_l, isD_l, isNon_l, add_l, popD_l, appD_l, eqD_I, eqD_W, eqD_M, ixD_l, u_0, u_1, u_2, u_3, u_8, d_0, d_1, d_2, d_3, d_4, d_8, List.getElem?_cons_succ, List.getElem?_cons_zero, List.set_cons_succ, List.set_cons_zero, List.getD_cons_succ, List.getD_cons_zero, List.map_cons, List.map_nil, List.length_cons, List.length_nil, List.append_nil, List.nil_append, List.cons_append, List.replicate_succ, List.replicate_zero, Nat.reduceAdd, Nat.reduceSub, Nat.reduceLeDiff, Nat.reduceLT, Nat.zero_le, Nat.le_refl, ne_eq, not_true_eq_false, not_false_eq_true, Bool.or_self, Bool.or_false, Bool.false_or, Bool.or_true, Bool.true_or, Bool.and_true, Bool.true_and, Bool.and_false, Bool.false_and, Bool.not_true, Bool.not_false, decide_true, decide_false, decide_eq_true_eq, if_true, if_false, ite_true, ite_false, reduceIte, reduceCtorEq, Nat.reduceEqDiff, Nat.succ_ne_zero, Nat.one_ne_zero, small_def, PySem.sizeLine, Nat.reduceMul, beq_self_eq_true, Int.reduceMul, Int.reduceSub, Option.map_some, Option.map_none, true_and, and_true, and_self, Int.reduceNeg, Int.reduceAdd, Int.reduceLT, Int.reduceLE, Int.reducePow, Nat.reducePow, Int.reduceToNat]
      have := compL_map (f := cmB (Phi prog (n + 1)) (.one 3) [3] (.cst (.bl true)) (.var 3) 0 [some (eM xs, 0), none, some (eW a, 0), none]) (e := D.int) (g := D.int) (xs := a) (by
        intro b hb
        simp only [cmB_def, runR_rt, runR_nx, x_skip, x_seq, x_ite, x_asg, x_par, x_ret, x_retv, x_rett, x_app, x_pop, x_put, x_put2, sq_nx, sq_rt, ic_t, ic_f, setO_one, parO_some, setT, setT.go, setV, esc, esc0, ownd, demote, cov, cov.covL, List.any_cons, List.any_nil, vars, varsS, chgR, chg, pthD, Pth.root, Pth.toE, mvR, RT.slots, minK, e_cst, e_var, e_lst, e_tup, e_bin, e_neg, e_cmp, e_chn, e_and, e_or, e_not, e_idx, e_sli, e_bck, e_blt, e_call, es_nil, es_cons, cond_def, aB_t, aB_f, oB_t, oB_f, add_i, sub_i, mul_i, div_i, mod_i, pow_18, c_eq, c_ne, c_lt, c_le, c_gt, c_ge, c_is, c_isn, isNon_n, isNon_i, isNon_b, isNon_t, isNon_L, tr_b, tr_i, tr_n, abs_i, int_i, max_i, min_i, isD_i, isD_b, isD_n, isD_t, isD_s, isD_L, val_L, val_t, ix_L, ix_t, at_0, at_1, at_2, atI_last, cat_isEmpty, dz, dpos,  List.dropLast_concat, List.reverse_nil, List.reverse_cons, bltD, optInt, itE_def, itD, isRng, bindT, bindT.go, wipe, fold_l, sum_l, cov_W, cov_M, eqD_MWr, eqD_MMr, imm_l, fr_l, fr_i, fr_b, fr_n, fr_s, fr_lst, lenD_l, listD_l, valD_l, revD_l, bckD_l, truth_l, isD_l, isNon_l, add_l, popD_l, appD_l, eqD_I, eqD_W, eqD_M, ixD_l, u_0, u_1, u_2, u_3, u_8, d_0, d_1, d_2, d_3, d_4, d_8, List.getElem?_cons_succ, List.getElem?_cons_zero, List.set_cons_succ, List.set_cons_zero, List.getD_cons_succ, List.getD_cons_zero, List.map_cons, List.map_nil, List.length_cons, List.length_nil, List.append_nil, List.nil_append, List.cons_append, List.replicate_succ, List.replicate_zero, Nat.reduceAdd, Nat.reduceSub, Nat.reduceLeDiff, Nat.reduceLT, Nat.zero_le, Nat.le_refl, ne_eq, not_true_eq_false, not_false_eq_true, Bool.or_self, Bool.or_false, Bool.false_or, Bool.or_true, Bool.true_or, Bool.and_true, Bool.true_and, Bool.and_false, Bool.false_and, Bool.not_true, Bool.not_false, decide_true, decide_false, decide_eq_true_eq, if_true, if_false, ite_true, ite_false, reduceIte, reduceCtorEq, Nat.reduceEqDiff, Nat.succ_ne_zero, Nat.one_ne_zero, small_def, PySem.sizeLine, Nat.reduceMul, beq_self_eq_true, Int.reduceMul, Int.reduceSub, Option.map_some, Option.map_none, true_and, and_true, and_self, Int.reduceNeg, Int.reduceAdd, Int.reduceLT, Int.reduceLE, Int.reducePow, Nat.reducePow, Int.reduceToNat])
      exact this
    · rw [List.length_flatMap]
      simpa [List.length_flatten] using hx
  have e : (xs.flatMap fun x => x.map D.int) = xs.flatten.map D.int := by simp [List.flatMap_def, List.map_flatten]
  rw [e] at L
  simp only [F_product_of, nth, retE, argE, argE.go] at L
  have h2 := ev_reduced n xs.flatten hx
  rw [runF_of rfl]
  simp only [F_product_of, runR_rt, runR_nx, x_skip, x_seq, x_ite, x_asg, x_par, x_ret, x_retv, x_rett, x_app, x_pop, x_put, x_put2, sq_nx, sq_rt, ic_t, ic_f, setO_one, parO_some, setT, setT.go, setV, esc, esc0, ownd, demote, cov, cov.covL, List.any_cons, List.any_nil, vars, varsS, chgR, chg, pthD, Pth.root, Pth.toE, mvR, RT.slots, minK, e_cst, e_var, e_lst, e_tup, e_bin, e_neg, e_cmp, e_chn, e_and, e_or, e_not, e_idx, e_sli, e_bck, e_blt, e_call, es_nil, es_cons, cond_def, aB_t, aB_f, oB_t, oB_f, add_i, sub_i, mul_i, div_i, mod_i, pow_18, c_eq, c_ne, c_lt, c_le, c_gt, c_ge, c_is, c_isn, isNon_n, isNon_i, isNon_b, isNon_t, isNon_L, tr_b, tr_i, tr_n, abs_i, int_i, max_i, min_i, isD_i, isD_b, isD_n, isD_t, isD_s, isD_L, val_L, val_t, ix_L, ix_t, at_0, at_1, at_2, atI_last, cat_isEmpty, dz, dpos,  List.dropLast_concat, List.reverse_nil, List.reverse_cons, bltD, optInt, itE_def, itD, isRng, bindT, bindT.go, wipe, fold_l, sum_l, cov_W, cov_M, eqD_MWr, eqD_MMr, imm_l, fr_l, fr_i, fr_b, fr_n, fr_s, fr_lst, lenD_l, listD_l, valD_l, revD_l, bckD_l, truth_l, isD_l, isNon_l, add_l, popD_l, appD_l, eqD_I, eqD_W, eqD_M, ixD_l, u_0, u_1, u_2, u_3, u_8, d_0, d_1, d_2, d_3, d_4, d_8, List.getElem?_cons_succ, List.getElem?_cons_zero, List.set_cons_succ, List.set_cons_zero, List.getD_cons_succ, List.getD_cons_zero, List.map_cons, List.map_nil, List.length_cons, List.length_nil, List.append_nil, List.nil_append, List.cons_append, List.replicate_succ, List.replicate_zero, Nat.reduceAdd, Nat.reduceSub, Nat.reduceLeDiff, Nat.reduceLT, Nat.zero_le, Nat.le_refl, ne_eq, not_true_eq_false, not_false_eq_true, Bool.or_self, Bool.or_false, Bool.false_or, Bool.or_true, Bool.true_or, Bool.and_true, Bool.true_and, Bool.and_false, Bool.false_and, Bool.not_true, Bool.not_false, decide_true, decide_false, decide_eq_true_eq, if_true, if_false, ite_true, ite_false, reduceIte, reduceCtorEq, Nat.reduceEqDiff, Nat.succ_ne_zero, Nat.one_ne_zero, small_def, PySem.sizeLine, Nat.reduceMul, beq_self_eq_true, Int.reduceMul, Int.reduceSub, Option.map_some, Option.map_none, true_and, and_true, and_self, Int.reduceNeg, Int.reduceAdd, Int.reduceLT, Int.reduceLE, Int.reducePow, Nat.reducePow, Int.reduceToNat, L, h2]
theorem ev_image_of_number (n : Nat) (m : List (List Int)) (x : Int) (hx : x ≠ 0 ∧ -(m.length : Int) ≤ x ∧ x ≤ m.length) (hs : (lt m x).length ≤ 16777216) : Phi prog (n + 3) i_image_of_number [eM m, .int x] = some (eW (lt1 m x), 0, .non) := by
  rw [Phi_succ (fn := F_image_of_number) rfl]
  by_cases h : 0 < x
  · have h1 := atI_at (xs := m) (i := x - 1) [] (by omega) (by omega)
    rw [runF_of rfl]
    simp only [F_image_of_number, runR_rt, runR_nx, x_skip, x_seq, x_ite, x_asg, x_par, x_ret, x_retv, x_rett, x_app, x_pop, x_put, x_put2, sq_nx, sq_rt, ic_t, ic_f, setO_one, parO_some, setT, setT.go, setV, esc, esc0, ownd, demote, cov, cov.covL, List.any_cons, List.any_nil, vars, varsS, chgR, chg, pthD, Pth.root, Pth.toE, mvR, RT.slots, minK, e_cst, e_var, e_lst, e_tup, e_bin, e_neg, e_cmp, e_chn, e_and, e_or, e_not, e_idx, e_sli, e_bck, e_blt, e_call, es_nil, es_cons, cond_def, aB_t, aB_f, oB_t, oB_f, add_i, sub_i, mul_i, div_i, mod_i, pow_18, c_eq, c_ne, c_lt, c_le, c_gt, c_ge, c_is, c_isn, isNon_n, isNon_i, isNon_b, isNon_t, isNon_L, tr_b, tr_i, tr_n, abs_i, int_i, max_i, min_i, isD_i, isD_b, isD_n, isD_t, isD_s, isD_L, val_L, val_t, ix_L, ix_t, at_0, at_1, at_2, atI_last, cat_isEmpty, dz, dpos,  List.dropLast_concat, List.reverse_nil, List.reverse_cons, bltD, optInt, itE_def, itD, isRng, bindT, bindT.go, wipe, fold_l, sum_l, cov_W, cov_M, eqD_MWr, eqD_MMr, imm_l, fr_l, fr_i, fr_b, fr_n, fr_s, fr_lst, lenD_l, listD_l, valD_l, revD_l, bckD_l, truth_l, isD_l, isNon_l, add_l, popD_l, appD_l, eqD_I, eqD_W, eqD_M, ixD_l, u_0, u_1, u_2, u_3, u_8, d_0, d_1, d_2, d_3, d_4, d_8, List.getElem?_cons_succ, List.getElem?_cons_zero, List.set_cons_succ, List.set_cons_zero, List.getD_cons_succ, List.getD_cons_zero, List.map_cons, List.map_nil, List.length_cons, List.length_nil, List.append_nil, List.nil_append, List.cons_append, List.replicate_succ, List.replicate_zero, Nat.reduceAdd, Nat.reduceSub, Nat.reduceLeDiff, Nat.reduceLT, Nat.zero_le, Nat.le_refl, ne_eq, not_true_eq_false, not_false_eq_true, Bool.or_self, Bool.or_false, Bool.false_or, Bool.or_true, Bool.true_or, Bool.and_true, Bool.true_and, Bool.and_false, Bool.false_and, Bool.not_true, Bool.not_false, decide_true, decide_false, decide_eq_true_eq, if_true, if_false, ite_true, ite_false, reduceIte, reduceCtorEq, Nat.reduceEqDiff, Nat.succ_ne_zero, Nat.one_ne_zero, small_def, PySem.sizeLine, Nat.reduceMul, beq_self_eq_true, Int.reduceMul, Int.reduceSub, Option.map_some, Option.map_none, true_and, and_true, and_self, Int.reduceNeg, Int.reduceAdd, Int.reduceLT, Int.reduceLE, Int.reducePow, Nat.reducePow, Int.reduceToNat, decide_eq_true h, h1, lt1, if_pos h]
  · have h1 := atI_at (xs := m) (i := -x - 1) [] (by omega) (by omega)
    rw [lt_length, if_neg h] at hs
    have h2 := ev_opposite n _ hs
    rw [runF_of rfl]
    simp only [F_image_of_number, runR_rt, runR_nx, x_skip, x_seq, x_ite, x_asg, x_par, x_ret, x_retv, x_rett, x_app, x_pop, x_put, x_put2, sq_nx, sq_rt, ic_t, ic_f, setO_one, parO_some, setT, setT.go, setV, esc, esc0, ownd, demote, cov, cov.covL, List.any_cons, List.any_nil, vars, varsS, chgR, chg, pthD, Pth.root, Pth.toE, mvR, RT.slots, minK, e_cst, e_var, e_lst, e_tup, e_bin, e_neg, e_cmp, e_chn, e_and, e_or, e_not, e_idx, e_sli, e_bck, e_blt, e_call, es_nil, es_cons, cond_def, aB_t, aB_f, oB_t, oB_f, add_i, sub_i, mul_i, div_i, mod_i, pow_18, c_eq, c_ne, c_lt, c_le, c_gt, c_ge, c_is, c_isn, isNon_n, isNon_i, isNon_b, isNon_t, isNon_L, tr_b, tr_i, tr_n, abs_i, int_i, max_i, min_i, isD_i, isD_b, isD_n, isD_t, isD_s, isD_L, val_L, val_t, ix_L, ix_t, at_0, at_1, at_2, atI_last, cat_isEmpty, dz, dpos,  List.dropLast_concat, List.reverse_nil, List.reverse_cons, bltD, optInt, itE_def, itD, isRng, bindT, bindT.go, wipe, fold_l, sum_l, cov_W, cov_M, eqD_MWr, eqD_MMr, imm_l, fr_l, fr_i, fr_b, fr_n, fr_s, fr_lst, lenD_l, listD_l, valD_l, revD_l, bckD_l, truth_l, isD_l, isNon_l, add_l, popD_l, appD_l, eqD_I, eqD_W, eqD_M, ixD_l, u_0, u_1, u_2, u_3, u_8, d_0, d_1, d_2, d_3, d_4, d_8, List.getElem?_cons_succ, List.getElem?_cons_zero, List.set_cons_succ, List.set_cons_zero, List.getD_cons_succ, List.getD_cons_zero, List.map_cons, List.map_nil, List.length_cons, List.length_nil, List.append_nil, List.nil_append, List.cons_append, List.replicate_succ, List.replicate_zero, Nat.reduceAdd, Nat.reduceSub, Nat.reduceLeDiff, Nat.reduceLT, Nat.zero_le, Nat.le_refl, ne_eq, not_true_eq_false, not_false_eq_true, Bool.or_self, Bool.or_false, Bool.false_or, Bool.or_true, Bool.true_or, Bool.and_true, Bool.true_and, Bool.and_false, Bool.false_and, Bool.not_true, Bool.not_false, decide_true, decide_false, decide_eq_true_eq, if_true, if_false, ite_true, ite_false, reduceIte, reduceCtorEq, Nat.reduceEqDiff, Nat.succ_ne_zero, Nat.one_ne_zero, small_def, PySem.sizeLine, Nat.reduceMul, beq_self_eq_true, Int.reduceMul, Int.reduceSub, Option.map_some, Option.map_none, true_and, and_true, and_self, Int.reduceNeg, Int.reduceAdd, Int.reduceLT, Int.reduceLE, Int.reducePow, Nat.reducePow, Int.reduceToNat, decide_eq_false h, h1, h2, lt1, if_neg h]
theorem ev_image (n : Nat) (m : List (List Int)) (w : List Int) (h : Ok m w) : Phi prog (n + 4) i_image [eM m, eW w] = some (eW (red (img m w)), 1, .non) := by
  rw [Phi_succ (fn := F_image) rfl]
  have L : evalE (Phi prog (n + 3)) (argE (retE (nth F_image.body 0)) 0) [some (eM m, 0), some (eW w, 0), none, none] = some (eM (w.map (lt1 m)), up 0) := by
    refine e_mapF D.int eW (lt1 m) w ?_ h.len ?_
    · simp only [e_cst, e_var, e_lst, e_tup, e_bin, e_neg, e_cmp, e_chn, e_and, e_or, e_not, e_idx, e_sli, e_bck, e_blt, e_call, es_nil, es_cons, cond_def, aB_t, aB_f, oB_t, oB_f, add_i, sub_i, mul_i, div_i, mod_i, pow_18, c_eq, c_ne, c_lt, c_le, c_gt, c_ge, c_is, c_isn, isNon_n, isNon_i, isNon_b, isNon_t, isNon_L, tr_b, tr_i, tr_n, abs_i, int_i, max_i, min_i, isD_i, isD_b, isD_n, isD_t, isD_s, isD_L, val_L, val_t, ix_L, ix_t, at_0, at_1, at_2, atI_last, cat_isEmpty, dz, dpos,  List.dropLast_concat, List.reverse_nil, List.reverse_cons, bltD, optInt, itE_def, itD, isRng, bindT, bindT.go, wipe, fold_l, sum_l, cov_W, cov_M, eqD_MWr, eqD_MMr, imm_l, fr_l, fr_i, fr_b, fr_n, fr_s, fr_lst, lenD_l, listD_l, valD_l, revD_l, bckD_l, truth_l, isD_l, isNon_l, add_l, popD_l, appD_l, eqD_I, eqD_W, eqD_M, ixD_l, u_0, u_1, u_2, u_3, u_8, d_0, d_1, d_2, d_3, d_4, d_8, List.getElem?_cons_succ, List.getElem?_cons_zero, List.set_cons_succ, List.set_cons_zero, List.getD_cons_succ, List.getD_cons_zero, List.map_cons, List.map_nil, List.length_cons, List.length_nil, List.append_nil, List.nil_append, List.cons_append, List.replicate_succ, List.replicate_zero, Nat.reduceAdd, Nat.reduceSub, Nat.reduceLeDiff, Nat.reduceLT, Nat.zero_le, Nat.le_refl, ne_eq, not_true_eq_false, not_false_eq_true, Bool.or_self, Bool.or_false, Bool.false_or, Bool.or_true, Bool.true_or, Bool.and_true, Bool.true_and, Bool.and_false, Bool.false_and, Bool.not_true, Bool.not_false, decide_true, decide_false, decide_eq_true_eq, if_true, if_false, ite_true, ite_false, reduceIte, reduceCtorEq, Nat.reduceEqDiff, Nat.succ_ne_zero, Nat.one_ne_zero, small_def, PySem.sizeLine, Nat.reduceMul, beq_self_eq_true, Int.reduceMul, Int.reduceSub, Option.map_some, Option.map_none, true_and, and_true, and_self, Int.reduceNeg, Int.reduceAdd, Int.reduceLT, Int.reduceLE, Int.reducePow, Nat.reducePow, Int.reduceToNat]
    · intro a ha
      have h1 := ev_image_of_number n m a (h.inn a ha) (Nat.le_trans (mem_sz ha) h.sz)
      simp only [cmB_def, runR_rt, runR_nx, x_skip, x_seq, x_ite, x_asg, x_par, x_ret, x_retv, x_rett, x_app, x_pop, x_put, x_put2, sq_nx, sq_rt, ic_t, ic_f, setO_one, parO_some, setT, setT.go, setV, esc, esc0, ownd, demote, cov, cov.covL, List.any_cons, List.any_nil, vars, varsS, chgR, chg, pthD, Pth.root, Pth.toE, mvR, RT.slots, minK, e_cst, e_var, e_lst, e_tup, e_bin, e_neg, e_cmp, e_chn, e_and, e_or, e_not, e_idx, e_sli, e_bck, e_blt, e_call, es_nil, es_cons, cond_def, aB_t, aB_f, oB_t, oB_f, add_i, sub_i, mul_i, div_i, mod_i, pow_18, c_eq, c_ne, c_lt, c_le, c_gt, c_ge, c_is, c_isn, isNon_n, isNon_i, isNon_b, isNon_t, isNon_L, tr_b, tr_i, tr_n, abs_i, int_i, max_i, min_i, isD_i, isD_b, isD_n, isD_t, isD_s, isD_L, val_L, val_t, ix_L, ix_t, at_0, at_1, at_2, atI_last, cat_isEmpty, dz, dpos,  List.dropLast_concat, List.reverse_nil, List.reverse_cons, bltD, optInt, itE_def, itD, isRng, bindT, bindT.go, wipe, fold_l, sum_l, cov_W, cov_M, eqD_MWr, eqD_MMr, imm_l, fr_l, fr_i, fr_b, fr_n, fr_s, fr_lst, lenD_l, listD_l, valD_l, revD_l, bckD_l, truth_l, isD_l, isNon_l, add_l, popD_l, appD_l, eqD_I, eqD_W, eqD_M, ixD_l, u_0, u_1, u_2, u_3, u_8, d_0, d_1, d_2, d_3, d_4, d_8, List.getElem?_cons_succ, List.getElem?_cons_zero, List.set_cons_succ, List.set_cons_zero, List.getD_cons_succ, List.getD_cons_zero, List.map_cons, List.map_nil, List.length_cons, List.length_nil, List.append_nil, List.nil_append, List.cons_append, List.replicate_succ, List.replicate_zero, Nat.reduceAdd, Nat.reduceSub, Nat.reduceLeDiff, Nat.reduceLT, Nat.zero_le, Nat.le_refl, ne_eq, not_true_eq_false, not_false_eq_true, Bool.or_self, Bool.or_false, Bool.false_or, Bool.or_true, Bool.true_or, Bool.and_true, Bool.true_and, Bool.and_false, Bool.false_and, Bool.not_true, Bool.not_false, decide_true, decide_false, decide_eq_true_eq, if_true, if_false, ite_true, ite_false, reduceIte, reduceCtorEq, Nat.reduceEqDiff, Nat.succ_ne_zero, Nat.one_ne_zero, small_def, PySem.sizeLine, Nat.reduceMul, beq_self_eq_true, Int.reduceMul, Int.reduceSub, Option.map_some, Option.map_none, true_and, and_true, and_self, Int.reduceNeg, Int.reduceAdd, Int.reduceLT, Int.reduceLE, Int.reducePow, Nat.reducePow, Int.reduceToNat, h1]
  simp only [F_image, nth, retE, argE, argE.go] at L
  have h2 := ev_product_of (n + 1) (w.map (lt1 m)) (Nat.le_trans (img1_len m w) h.sz)
  rw [(img1_eqv m w).eq] at h2
  rw [runF_of rfl]
  simp only [F_image, runR_rt, runR_nx, x_skip, x_seq, x_ite, x_asg, x_par, x_ret, x_retv, x_rett, x_app, x_pop, x_put, x_put2, sq_nx, sq_rt, ic_t, ic_f, setO_one, parO_some, setT, setT.go, setV, esc, esc0, ownd, demote, cov, cov.covL, List.any_cons, List.any_nil, vars, varsS, chgR, chg, pthD, Pth.root, Pth.toE, mvR, RT.slots, minK, e_cst, e_var, e_lst, e_tup, e_bin, e_neg, e_cmp, e_chn, e_and, e_or, e_not, e_idx, e_sli, e_bck, e_blt, e_call, es_nil, es_cons, cond_def, aB_t, aB_f, oB_t, oB_f, add_i, sub_i, mul_i, div_i, mod_i, pow_18, c_eq, c_ne, c_lt, c_le, c_gt, c_ge, c_is, c_isn, isNon_n, isNon_i, isNon_b, isNon_t, isNon_L, tr_b, tr_i, tr_n, abs_i, int_i, max_i, min_i, isD_i, isD_b, isD_n, isD_t, isD_s, isD_L, val_L, val_t, ix_L, ix_t, at_0, at_1, at_2, atI_last, cat_isEmpty, dz, dpos,  List.dropLast_concat, List.reverse_nil, List.reverse_cons, bltD, optInt, itE_def, itD, isRng, bindT, bindT.go, wipe, fold_l, sum_l, cov_W, cov_M, eqD_MWr, eqD_MMr, imm_l, fr_l, fr_i, fr_b, fr_n, fr_s, fr_lst, lenD_l, listD_l, valD_l, revD_l, bckD_l, truth_l, isD_l, isNon_l, add_l, popD_l, appD_l, eqD_I, eqD_W, eqD_M, ixD_l, u_0, u_1, u_2, u_3, u_8, d_0, d_1, d_2, d_3, d_4, d_8, List.getElem?_cons_succ, List.getElem?_cons_zero, List.set_cons_succ, List.set_cons_zero, List.getD_cons_succ, List.getD_cons_zero, List.map_cons, List.map_nil, List.length_cons, List.length_nil, List.append_nil, List.nil_append, List.cons_append, List.replicate_succ, List.replicate_zero, Nat.reduceAdd, Nat.reduceSub, Nat.reduceLeDiff, Nat.reduceLT, Nat.zero_le, Nat.le_refl, ne_eq, not_true_eq_false, not_false_eq_true, Bool.or_self, Bool.or_false, Bool.false_or, Bool.or_true, Bool.true_or, Bool.and_true, Bool.true_and, Bool.and_false, Bool.false_and, Bool.not_true, Bool.not_false, decide_true, decide_false, decide_eq_true_eq, if_true, if_false, ite_true, ite_false, reduceIte, reduceCtorEq, Nat.reduceEqDiff, Nat.succ_ne_zero, Nat.one_ne_zero, small_def, PySem.sizeLine, Nat.reduceMul, beq_self_eq_true, Int.reduceMul, Int.reduceSub, Option.map_some, Option.map_none, true_and, and_true, and_self, Int.reduceNeg, Int.reduceAdd, Int.reduceLT, Int.reduceLE, Int.reducePow, Nat.reducePow, Int.reduceToNat, L, h2]
theorem ev_map_after (n : Nat) (f g : List (List Int)) (hf : f.length ≤ 16777216) (h : ∀ w ∈ f, Ok g w) : Phi prog (n + 5) i_map_after [eM f, eM g] = some (eM (after f g), 2, .non) := by
  rw [Phi_succ (fn := F_map_after) rfl]
  have L : evalE (Phi prog (n + 4)) (retE (nth F_map_after.body 0)) [some (eM f, 0), some (eM g, 0), none, none] = some (eM (f.map fun w => red (img g w)), up 1) := by
    refine e_mapF eW eW (fun w => red (img g w)) f ?_ hf ?_
    · simp only [e_cst, e_var, e_lst, e_tup, e_bin, e_neg, e_cmp, e_chn, e_and, e_or, e_not, e_idx, e_sli, e_bck, e_blt, e_call, es_nil, es_cons, cond_def, aB_t, aB_f, oB_t, oB_f, add_i, sub_i, mul_i, div_i, mod_i, pow_18, c_eq, c_ne, c_lt, c_le, c_gt, c_ge, c_is, c_isn, isNon_n, isNon_i, isNon_b, isNon_t, isNon_L, tr_b, tr_i, tr_n, abs_i, int_i, max_i, min_i, isD_i, isD_b, isD_n, isD_t, isD_s, isD_L, val_L, val_t, ix_L, ix_t, at_0, at_1, at_2, atI_last, cat_isEmpty, dz, dpos,  List.dropLast_concat, List.reverse_nil, List.reverse_cons, bltD, optInt, itE_def, itD, isRng, bindT, bindT.go, wipe, fold_l, sum_l, cov_W, cov_M, eqD_MWr, eqD_MMr, imm_l, fr_l, fr_i, fr_b, fr_n, fr_s, fr_lst, lenD_l, listD_l, valD_l, revD_l, bckD_l, truth_l, isD_l, isNon_l, add_l, popD_l, appD_l, eqD_I, eqD_W, eqD_M, ixD_l, u_0, u_1, u_2, u_3, u_8, d_0, d_1, d_2, d_3, d_4, d_8, List.getElem?_cons_succ, List.getElem?_cons_zero, List.set_cons_succ, List.set_cons_zero, List.getD_cons_succ, List.getD_cons_zero, List.map_cons, List.map_nil, List.length_cons, List.length_nil, List.append_nil, List.nil_append, List.cons_append, List.replicate_succ, List.replicate_zero, Nat.reduceAdd, Nat.reduceSub, Nat.reduceLeDiff, Nat.reduceLT, Nat.zero_le, Nat.le_refl, ne_eq, not_true_eq_false, not_false_eq_true, Bool.or_self, Bool.or_false, Bool.false_or, Bool.or_true, Bool.true_or, Bool.and_true, Bool.true_and, Bool.and_false, Bool.false_and, Bool.not_true, Bool.not_false, decide_true, decide_false, decide_eq_true_eq, if_true, if_false, ite_true, ite_false, reduceIte, reduceCtorEq, Nat.reduceEqDiff, Nat.succ_ne_zero, Nat.one_ne_zero, small_def, PySem.sizeLine, Nat.reduceMul, beq_self_eq_true, Int.reduceMul, Int.reduceSub, Option.map_some, Option.map_none, true_and, and_true, and_self, Int.reduceNeg, Int.reduceAdd, Int.reduceLT, Int.reduceLE, Int.reducePow, Nat.reducePow, Int.reduceToNat]
    · intro a ha
      have h1 := ev_image n g a (h a ha)
      simp only [cmB_def, runR_rt, runR_nx, x_skip, x_seq, x_ite, x_asg, x_par, x_ret, x_retv, x_rett, x_app, x_pop, x_put, x_put2, sq_nx, sq_rt, ic_t, ic_f, setO_one, parO_some, setT, setT.go, setV, esc, esc0, ownd, demote, cov, cov.covL, List.any_cons, List.any_nil, vars, varsS, chgR, chg, pthD, Pth.root, Pth.toE, mvR, RT.slots, minK, e_cst, e_var, e_lst, e_tup, e_bin, e_neg, e_cmp, e_chn, e_and, e_or, e_not, e_idx, e_sli, e_bck, e_blt, e_call, es_nil, es_cons, cond_def, aB_t, aB_f, oB_t, oB_f, add_i, sub_i, mul_i, div_i, mod_i, pow_18, c_eq, c_ne, c_lt, c_le, c_gt, c_ge, c_is, c_isn, isNon_n, isNon_i, isNon_b, isNon_t, isNon_L, tr_b, tr_i, tr_n, abs_i, int_i, max_i, min_i, isD_i, isD_b, isD_n, isD_t, isD_s, isD_L, val_L, val_t, ix_L, ix_t, at_0, at_1, at_2, atI_last, cat_isEmpty, dz, dpos,  List.dropLast_concat, List.reverse_nil, List.reverse_cons, bltD, optInt, itE_def, itD, isRng, bindT, bindT.go, wipe, fold_l, sum_l, cov_W, cov_M, eqD_MWr, eqD_MMr, imm_l, fr_l, fr_i, fr_b, fr_n, fr_s, fr_lst, lenD_l, listD_l, valD_l, revD_l, bckD_l, truth_l, isD_l, isNon_l, add_l, popD_l, appD_l, eqD_I, eqD_W, eqD_M, ixD_l, u_0, u_1, u_2, u_3, u_8, d_0, d_1, d_2, d_3, d_4, d_8, List.getElem?_cons_succ, List.getElem?_cons_zero, List.set_cons_succ, List.set_cons_zero, List.getD_cons_succ, List.getD_cons_zero, List.map_cons, List.map_nil, List.length_cons, List.length_nil, List.append_nil, List.nil_append, List.cons_append, List.replicate_succ, List.replicate_zero, Nat.reduceAdd, Nat.reduceSub, Nat.reduceLeDiff, Nat.reduceLT, Nat.zero_le, Nat.le_refl, ne_eq, not_true_eq_false, not_false_eq_true, Bool.or_self, Bool.or_false, Bool.false_or, Bool.or_true, Bool.true_or, Bool.and_true, Bool.true_and, Bool.and_false, Bool.false_and, Bool.not_true, Bool.not_false, decide_true, decide_false, decide_eq_true_eq, if_true, if_false, ite_true, ite_false, reduceIte, reduceCtorEq, Nat.reduceEqDiff, Nat.succ_ne_zero, Nat.one_ne_zero, small_def, PySem.sizeLine, Nat.reduceMul, beq_self_eq_true, Int.reduceMul, Int.reduceSub, Option.map_some, Option.map_none, true_and, and_true, and_self, Int.reduceNeg, Int.reduceAdd, Int.reduceLT, Int.reduceLE, Int.reducePow, Nat.reducePow, Int.reduceToNat, h1]
  simp only [F_map_after, nth, retE] at L
  rw [runF_of rfl]
  simp only [F_map_after, runR_rt, runR_nx, x_skip, x_seq, x_ite, x_asg, x_par, x_ret, x_retv, x_rett, x_app, x_pop, x_put, x_put2, sq_nx, sq_rt, ic_t, ic_f, setO_one, parO_some, setT, setT.go, setV, esc, esc0, ownd, demote, cov, cov.covL, List.any_cons, List.any_nil, vars, varsS, chgR, chg, pthD, Pth.root, Pth.toE, mvR, RT.slots, minK, e_cst, e_var, e_lst, e_tup, e_bin, e_neg, e_cmp, e_chn, e_and, e_or, e_not, e_idx, e_sli, e_bck, e_blt, e_call, es_nil, es_cons, cond_def, aB_t, aB_f, oB_t, oB_f, add_i, sub_i, mul_i, div_i, mod_i, pow_18, c_eq, c_ne, c_lt, c_le, c_gt, c_ge, c_is, c_isn, isNon_n, isNon_i, isNon_b, isNon_t, isNon_L, tr_b, tr_i, tr_n, abs_i, int_i, max_i, min_i, isD_i, isD_b, isD_n, isD_t, isD_s, isD_L, val_L, val_t, ix_L, ix_t, at_0, at_1, at_2, atI_last, cat_isEmpty, dz, dpos,  List.dropLast_concat, List.reverse_nil, List.reverse_cons, bltD, optInt, itE_def, itD, isRng, bindT, bindT.go, wipe, fold_l, sum_l, cov_W, cov_M, eqD_MWr, eqD_MMr, imm_l, fr_l, fr_i, fr_b, fr_n, fr_s, fr_lst, lenD_l, listD_l, valD_l, revD_l, bckD_l, truth_l, isD_l, isNon_l, add_l, popD_l, appD_l, eqD_I, eqD_W, eqD_M, ixD_l, u_0, u_1, u_2, u_3, u_8, d_0, d_1, d_2, d_3, d_4, d_8, List.getElem?_cons_succ, List.getElem?_cons_zero, List.set_cons_succ, List.set_cons_zero, List.getD_cons_succ, List.getD_cons_zero, List.map_cons, List.map_nil, List.length_cons, List.length_nil, List.append_nil, List.nil_append, List.cons_append, List.replicate_succ, List.replicate_zero, Nat.reduceAdd, Nat.reduceSub, Nat.reduceLeDiff, Nat.reduceLT, Nat.zero_le, Nat.le_refl, ne_eq, not_true_eq_false, not_false_eq_true, Bool.or_self, Bool.or_false, Bool.false_or, Bool.or_true, Bool.true_or, Bool.and_true, Bool.true_and, Bool.and_false, Bool.false_and, Bool.not_true, Bool.not_false, decide_true, decide_false, decide_eq_true_eq, if_true, if_false, ite_true, ite_false, reduceIte, reduceCtorEq, Nat.reduceEqDiff, Nat.succ_ne_zero, Nat.one_ne_zero, small_def, PySem.sizeLine, Nat.reduceMul, beq_self_eq_true, Int.reduceMul, Int.reduceSub, Option.map_some, Option.map_none, true_and, and_true, and_self, Int.reduceNeg, Int.reduceAdd, Int.reduceLT, Int.reduceLE, Int.reducePow, Nat.reducePow, Int.reduceToNat, L]
  rfl
theorem run_rest_map (Φ : PhiT) (k : Nat) (hk : k ≤ 100) : runF Φ F_rest_map [.int k] = some (eM (rest k), 2, .non) := by
  have L : evalE Φ (retE (nth F_rest_map.body 0)) [some (.int k, 0), none, none] = some (eM (rest k), up 1) := by
    refine e_mapF (fun i : Nat => .int (1 + (i : Int))) eW (fun (i : Nat) => [1 + (i : Int)]) (List.range k) ?_ (by rw [List.length_range]; omega) ?_
    · simp only [e_cst, e_var, e_lst, e_tup, e_bin, e_neg, e_cmp, e_chn, e_and, e_or, e_not, e_idx, e_sli, e_bck, e_blt, e_call, es_nil, es_cons, cond_def, aB_t, aB_f, oB_t, oB_f, add_i, sub_i, mul_i, div_i, mod_i, pow_18, c_eq, c_ne, c_lt, c_le, c_gt, c_ge, c_is, c_isn, isNon_n, isNon_i, isNon_b, isNon_t, isNon_L, tr_b, tr_i, tr_n, abs_i, int_i, max_i, min_i, isD_i, isD_b, isD_n, isD_t, isD_s, isD_L, val_L, val_t, ix_L, ix_t, at_0, at_1, at_2, atI_last, cat_isEmpty, dz, dpos,  List.dropLast_concat, List.reverse_nil, List.reverse_cons, bltD, optInt, itE_def, itD, isRng, bindT, bindT.go, wipe, fold_l, sum_l, cov_W, cov_M, eqD_MWr, eqD_MMr, imm_l, fr_l, fr_i, fr_b, fr_n, fr_s, fr_lst, lenD_l, listD_l, valD_l, revD_l, bckD_l, truth_l, isD_l, isNon_l, add_l, popD_l, appD_l, eqD_I, eqD_W, eqD_M, ixD_l, u_0, u_1, u_2, u_3, u_8, d_0, d_1, d_2, d_3, d_4, d_8, List.getElem?_cons_succ, List.getElem?_cons_zero, List.set_cons_succ, List.set_cons_zero, List.getD_cons_succ, List.getD_cons_zero, List.map_cons, List.map_nil, List.length_cons, List.length_nil, List.append_nil, List.nil_append, List.cons_append, List.replicate_succ, List.replicate_zero, Nat.reduceAdd, Nat.reduceSub, Nat.reduceLeDiff, Nat.reduceLT, Nat.zero_le, Nat.le_refl, ne_eq, not_true_eq_false, not_false_eq_true, Bool.or_self, Bool.or_false, Bool.false_or, Bool.or_true, Bool.true_or, Bool.and_true, Bool.true_and, Bool.and_false, Bool.false_and, Bool.not_true, Bool.not_false, decide_true, decide_false, decide_eq_true_eq, if_true, if_false, ite_true, ite_false, reduceIte, reduceCtorEq, Nat.reduceEqDiff, Nat.succ_ne_zero, Nat.one_ne_zero, small_def, PySem.sizeLine, Nat.reduceMul, beq_self_eq_true, Int.reduceMul, Int.reduceSub, Option.map_some, Option.map_none, true_and, and_true, and_self, Int.reduceNeg, Int.reduceAdd, Int.reduceLT, Int.reduceLE, Int.reducePow, Nat.reducePow, Int.reduceToNat, rng2_k k (by omega)]
    · intro a ha
      simp only [cmB_def, runR_rt, runR_nx, x_skip, x_seq, x_ite, x_asg, x_par, x_ret, x_retv, x_rett, x_app, x_pop, x_put, x_put2, sq_nx, sq_rt, ic_t, ic_f, setO_one, parO_some, setT, setT.go, setV, esc, esc0, ownd, demote, cov, cov.covL, List.any_cons, List.any_nil, vars, varsS, chgR, chg, pthD, Pth.root, Pth.toE, mvR, RT.slots, minK, e_cst, e_var, e_lst, e_tup, e_bin, e_neg, e_cmp, e_chn, e_and, e_or, e_not, e_idx, e_sli, e_bck, e_blt, e_call, es_nil, es_cons, cond_def, aB_t, aB_f, oB_t, oB_f, add_i, sub_i, mul_i, div_i, mod_i, pow_18, c_eq, c_ne, c_lt, c_le, c_gt, c_ge, c_is, c_isn, isNon_n, isNon_i, isNon_b, isNon_t, isNon_L, tr_b, tr_i, tr_n, abs_i, int_i, max_i, min_i, isD_i, isD_b, isD_n, isD_t, isD_s, isD_L, val_L, val_t, ix_L, ix_t, at_0, at_1, at_2, atI_last, cat_isEmpty, dz, dpos,  List.dropLast_concat, List.reverse_nil, List.reverse_cons, bltD, optInt, itE_def, itD, isRng, bindT, bindT.go, wipe, fold_l, sum_l, cov_W, cov_M, eqD_MWr, eqD_MMr, imm_l, fr_l, fr_i, fr_b, fr_n, fr_s, fr_lst, lenD_l, listD_l, valD_l, revD_l, bckD_l, truth_l, isD_l, isNon_l, add_l, popD_l, appD_l, eqD_I, eqD_W, eqD_M, ixD_l, u_0, u_1, u_2, u_3, u_8, d_0, d_1, d_2, d_3, d_4, d_8, List.getElem?_cons_succ, List.getElem?_cons_zero, List.set_cons_succ, List.set_cons_zero, List.getD_cons_succ, List.getD_cons_zero, List.map_cons, List.map_nil, List.length_cons, List.length_nil, List.append_nil, List.nil_append, List.cons_append, List.replicate_succ, List.replicate_zero, Nat.reduceAdd, Nat.reduceSub, Nat.reduceLeDiff, Nat.reduceLT, Nat.zero_le, Nat.le_refl, ne_eq, not_true_eq_false, not_false_eq_true, Bool.or_self, Bool.or_false, Bool.false_or, Bool.or_true, Bool.true_or, Bool.and_true, Bool.true_and, Bool.and_false, Bool.false_and, Bool.not_true, Bool.not_false, decide_true, decide_false, decide_eq_true_eq, if_true, if_false, ite_true, ite_false, reduceIte, reduceCtorEq, Nat.reduceEqDiff, Nat.succ_ne_zero, Nat.one_ne_zero, small_def, PySem.sizeLine, Nat.reduceMul, beq_self_eq_true, Int.reduceMul, Int.reduceSub, Option.map_some, Option.map_none, true_and, and_true, and_self, Int.reduceNeg, Int.reduceAdd, Int.reduceLT, Int.reduceLE, Int.reducePow, Nat.reducePow, Int.reduceToNat]
      rfl
  exact runF_ret (f := F_rest_map) rfl rfl L (by decide)
theorem ev_rest_map (n : Nat) (k : Nat) (hk : k ≤ 100) : Phi prog (n + 1) i_rest_map [.int k] = some (eM (rest k), 2, .non) := by rw [Phi_succ (fn := F_rest_map) rfl]; exact run_rest_map _ k hk
end LW

namespace LW
open PD


theorem draws_in1 (Φ : PhiT) (ns : List Int) (m : Int) (fs : List Int) (v : Int) (j3 j5 j6 j7 : Option (D × Nat)) (hf : Dr fs) (hl : fs.length ≤ 60 * 62) :
    ∃ σ', exec Φ F__law_draws.own F__law_draws.ret (nth (thenS (nth (thenS (nth F__law_draws.body 1)) 1)) 0) [some (.scr ns, 0), some (.int m, 0), some (eW fs, 1), j3, some (.int v, 0), j5, j6, j7] = some (.nx σ') ∧
      ∃ fs' v j5, σ' = [some (.scr ns, 0), some (.int m, 0), some (eW fs', 1), j3, some (.int v, 0), j5, j6, j7] ∧ Dr fs' ∧ fs'.length ≤ fs.length + 60 := by
  have d1 : divOk 1000003 = true := div_ok (by omega) (by omega)
  obtain ⟨σ', h1, h2⟩ : ∃ σ', exec Φ F__law_draws.own F__law_draws.ret (nth (thenS (nth (thenS (nth F__law_draws.body 1)) 1)) 0) [some (.scr ns, 0), some (.int m, 0), some (eW fs, 1), j3, some (.int v, 0), j5, j6, j7] = some (.nx σ') ∧
      ∃ fs' v j5, σ' = [some (.scr ns, 0), some (.int m, 0), some (eW fs', 1), j3, some (.int v, 0), j5, j6, j7] ∧ Dr fs' ∧ fs'.length ≤ fs.length + (List.range 60).length := by
    refine x_frQ (fun ys σ => ∃ fs' v j5, σ = [some (.scr ns, 0), some (.int m, 0), some (eW fs', 1), j3, some (.int v, 0), j5, j6, j7] ∧ Dr fs' ∧ fs'.length ≤ fs.length + ys.length) (fun i : Nat => .int (0 + (i : Int))) (List.range 60) ?_ ?_ ?_
    · simp only [e_cst, e_var, e_lst, e_tup, e_bin, e_neg, e_cmp, e_chn, e_and, e_or, e_not, e_idx, e_sli, e_bck, e_blt, e_call, es_nil, es_cons, cond_def, aB_t, aB_f, oB_t, oB_f, add_i, sub_i, mul_i, div_i, mod_i, pow_18, c_eq, c_ne, c_lt, c_le, c_gt, c_ge, c_is, c_isn, isNon_n, isNon_i, isNon_b, isNon_t, isNon_L, tr_b, tr_i, tr_n, abs_i, int_i, max_i, min_i, isD_i, isD_b, isD_n, isD_t, isD_s, isD_L, val_L, val_t, ix_L, ix_t, at_0, at_1, at_2, atI_last, cat_isEmpty, dz, dpos,  List.dropLast_concat, List.reverse_nil, List.reverse_cons, bltD, optInt, itE_def, itD, isRng, bindT, bindT.go, wipe, fold_l, sum_l, cov_W, cov_M, eqD_MWr, eqD_MMr, imm_l, fr_l, fr_i, fr_b, fr_n, fr_s, fr_lst, lenD_l, listD_l, valD_l, revD_l, bckD_l, truth_l, isD_l, isNon_l, add_l, popD_l, appD_l, eqD_I, eqD_W, eqD_M, ixD_l, u_0, u_1, u_2, u_3, u_8, d_0, d_1, d_2, d_3, d_4, d_8, List.getElem?_cons_succ, List.getElem?_cons_zero, List.set_cons_succ, List.set_cons_zero, List.getD_cons_succ, List.getD_cons_zero, List.map_cons, List.map_nil, List.length_cons, List.length_nil, List.append_nil, List.nil_append, List.cons_append, List.replicate_succ, List.replicate_zero, Nat.reduceAdd, Nat.reduceSub, Nat.reduceLeDiff, Nat.reduceLT, Nat.zero_le, Nat.le_refl, ne_eq, not_true_eq_false, not_false_eq_true, Bool.or_self, Bool.or_false, Bool.false_or, Bool.or_true, Bool.true_or, Bool.and_true, Bool.true_and, Bool.and_false, Bool.false_and, Bool.not_true, Bool.not_false, decide_true, decide_false, decide_eq_true_eq, if_true, if_false, ite_true, ite_false, reduceIte, reduceCtorEq, Nat.reduceEqDiff, Nat.succ_ne_zero, Nat.one_ne_zero, small_def, PySem.sizeLine, Nat.reduceMul, beq_self_eq_true, Int.reduceMul, Int.reduceSub, Option.map_some, Option.map_none, true_and, and_true, and_self, Int.reduceNeg, Int.reduceAdd, Int.reduceLT, Int.reduceLE, Int.reducePow, Nat.reducePow, Int.reduceToNat, rng1_i]
    · exact ⟨fs, v, j5, rfl, hf, by simp⟩
    · rintro a ys zs σ hw ⟨fs', v, j5, rfl, hd, hq⟩
      have hn := len_of_split hw
      rw [List.length_range] at hn
      by_cases h : 0 < v
      · have hb : fs'.length < 16777216 := by omega
        refine ⟨_, rfl, [some (.scr ns, 0), some (.int m, 0), some (eW (fs' ++ [v % 1000003]), 1), j3, some (.int (v / 1000003), 0), some (.int (0 + (a : Int)), 0), j6, j7], .inl ?_, _, _, _, rfl, hd.app (by omega) (by omega), by simp; omega⟩
        simp only [F__law_draws, nth, thenS, runR_rt, runR_nx, x_skip, x_seq, x_ite, x_asg, x_par, x_ret, x_retv, x_rett, x_app, x_pop, x_put, x_put2, sq_nx, sq_rt, ic_t, ic_f, setO_one, parO_some, setT, setT.go, setV, esc, esc0, ownd, demote, cov, cov.covL, List.any_cons, List.any_nil, vars, varsS, chgR, chg, pthD, Pth.root, Pth.toE, mvR, RT.slots, minK, e_cst, e_var, e_lst, e_tup, e_bin, e_neg, e_cmp, e_chn, e_and, e_or, e_not, e_idx, e_sli, e_bck, e_blt, e_call, es_nil, es_cons, cond_def, aB_t, aB_f, oB_t, oB_f, add_i, sub_i, mul_i, div_i, mod_i, pow_18, c_eq, c_ne, c_lt, c_le, c_gt, c_ge, c_is, c_isn, isNon_n, isNon_i, isNon_b, isNon_t, isNon_L, tr_b, tr_i, tr_n, abs_i, int_i, max_i, min_i, isD_i, isD_b, isD_n, isD_t, isD_s, isD_L, val_L, val_t, ix_L, ix_t, at_0, at_1, at_2, atI_last, cat_isEmpty, dz, dpos,  List.dropLast_concat, List.reverse_nil, List.reverse_cons, bltD, optInt, itE_def, itD, isRng, bindT, bindT.go, wipe, fold_l, sum_l, cov_W, cov_M, eqD_MWr, eqD_MMr, imm_l, fr_l, fr_i, fr_b, fr_n, fr_s, fr_lst, lenD_l, listD_l, valD_l, revD_l, bckD_l, truth_l, isD_l, isNon_l, add_l, popD_l, appD_l, eqD_I, eqD_W, eqD_M, ixD_l, u_0, u_1, u_2, u_3, u_8, d_0, d_1, d_2, d_3, d_4, d_8, List.getElem?_cons_succ, List.getElem?_cons_zero, List.set_cons_succ, List.set_cons_zero, List.getD_cons_succ, List.getD_cons_zero, List.map_cons, List.map_nil, List.length_cons, List.length_nil, List.append_nil, List.nil_append, List.cons_append, List.replicate_succ, List.replicate_zero, Nat.reduceAdd, Nat.reduceSub, Nat.reduceLeDiff, Nat.reduceLT, Nat.zero_le, Nat.le_refl, ne_eq, not_true_eq_false, not_false_eq_true, Bool.or_self, Bool.or_false, Bool.false_or, Bool.or_true, Bool.true_or, Bool.and_true, Bool.true_and, Bool.and_false, Bool.false_and, Bool.not_true, Bool.not_false, decide_true, decide_false, decide_eq_true_eq, if_true, if_false, ite_true, ite_false, reduceIte, reduceCtorEq, Nat.reduceEqDiff, Nat.succ_ne_zero, Nat.one_ne_zero, small_def, PySem.sizeLine, Nat.reduceMul, beq_self_eq_true, Int.reduceMul, Int.reduceSub, Option.map_some, Option.map_none, true_and, and_true, and_self, Int.reduceNeg, Int.reduceAdd, Int.reduceLT, Int.reduceLE, Int.reducePow, Nat.reducePow, Int.reduceToNat, decide_eq_true h, hb, d1]
      · refine ⟨_, rfl, [some (.scr ns, 0), some (.int m, 0), some (eW fs', 1), j3, some (.int v, 0), some (.int (0 + (a : Int)), 0), j6, j7], .inl ?_, _, _, _, rfl, hd, by simp; omega⟩
        simp only [F__law_draws, nth, thenS, runR_rt, runR_nx, x_skip, x_seq, x_ite, x_asg, x_par, x_ret, x_retv, x_rett, x_app, x_pop, x_put, x_put2, sq_nx, sq_rt, ic_t, ic_f, setO_one, parO_some, setT, setT.go, setV, esc, esc0, ownd, demote, cov, cov.covL, List.any_cons, List.any_nil, vars, varsS, chgR, chg, pthD, Pth.root, Pth.toE, mvR, RT.slots, minK, e_cst, e_var, e_lst, e_tup, e_bin, e_neg, e_cmp, e_chn, e_and, e_or, e_not, e_idx, e_sli, e_bck, e_blt, e_call, es_nil, es_cons, cond_def, aB_t, aB_f, oB_t, oB_f, add_i, sub_i, mul_i, div_i, mod_i, pow_18, c_eq, c_ne, c_lt, c_le, c_gt, c_ge, c_is, c_isn, isNon_n, isNon_i, isNon_b, isNon_t, isNon_L, tr_b, tr_i, tr_n, abs_i, int_i, max_i, min_i, isD_i, isD_b, isD_n, isD_t, isD_s, isD_L, val_L, val_t, ix_L, ix_t, at_0, at_1, at_2, atI_last, cat_isEmpty, dz, dpos,  List.dropLast_concat, List.reverse_nil, List.reverse_cons, bltD, optInt, itE_def, itD, isRng, bindT, bindT.go, wipe, fold_l, sum_l, cov_W, cov_M, eqD_MWr, eqD_MMr, imm_l, fr_l, fr_i, fr_b, fr_n, fr_s, fr_lst, lenD_l, listD_l, valD_l, revD_l, bckD_l, truth_l, isD_l, isNon_l, add_l, popD_l, appD_l, eqD_I, eqD_W, eqD_M, ixD_l, u_0, u_1, u_2, u_3, u_8, d_0, d_1, d_2, d_3, d_4, d_8, List.getElem?_cons_succ, List.getElem?_cons_zero, List.set_cons_succ, List.set_cons_zero, List.getD_cons_succ, List.getD_cons_zero, List.map_cons, List.map_nil, List.length_cons, List.length_nil, List.append_nil, List.nil_append, List.cons_append, List.replicate_succ, List.replicate_zero, Nat.reduceAdd, Nat.reduceSub, Nat.reduceLeDiff, Nat.reduceLT, Nat.zero_le, Nat.le_refl, ne_eq, not_true_eq_false, not_false_eq_true, Bool.or_self, Bool.or_false, Bool.false_or, Bool.or_true, Bool.true_or, Bool.and_true, Bool.true_and, Bool.and_false, Bool.false_and, Bool.not_true, Bool.not_false, decide_true, decide_false, decide_eq_true_eq, if_true, if_false, ite_true, ite_false, reduceIte, reduceCtorEq, Nat.reduceEqDiff, Nat.succ_ne_zero, Nat.one_ne_zero, small_def, PySem.sizeLine, Nat.reduceMul, beq_self_eq_true, Int.reduceMul, Int.reduceSub, Option.map_some, Option.map_none, true_and, and_true, and_self, Int.reduceNeg, Int.reduceAdd, Int.reduceLT, Int.reduceLE, Int.reducePow, Nat.reducePow, Int.reduceToNat, decide_eq_false h, d1]
  exact ⟨σ', h1, by simpa using h2⟩
theorem draws_in2 (Φ : PhiT) (ns : List Int) (m : Int) (fs : List Int) (w : Int) (j3 j4 j5 j7 : Option (D × Nat)) (hf : Dr fs) (hl : fs.length ≤ 60 * 62) (hw0 : 0 ≤ w) (hw1 : w < 2147483647) :
    ∃ σ', exec Φ F__law_draws.own F__law_draws.ret (nth (elseS (nth (thenS (nth F__law_draws.body 1)) 1)) 1) [some (.scr ns, 0), some (.int m, 0), some (eW fs, 1), j3, j4, j5, some (.int w, 0), j7] = some (.nx σ') ∧
      ∃ fs' w j5, σ' = [some (.scr ns, 0), some (.int m, 0), some (eW fs', 1), j3, j4, j5, some (.int w, 0), j7] ∧ Dr fs' ∧ fs'.length ≤ fs.length + 60 := by
  have d1 : divOk 65536 = true := div_ok (by omega) (by omega)
  have d2 : divOk 8 = true := div_ok (by omega) (by omega)
  obtain ⟨σ', h1, fs', w', j', e, h2, h3, h4⟩ : ∃ σ', exec Φ F__law_draws.own F__law_draws.ret (nth (elseS (nth (thenS (nth F__law_draws.body 1)) 1)) 1) [some (.scr ns, 0), some (.int m, 0), some (eW fs, 1), j3, j4, j5, some (.int w, 0), j7] = some (.nx σ') ∧
      ∃ fs' w j5, σ' = [some (.scr ns, 0), some (.int m, 0), some (eW fs', 1), j3, j4, j5, some (.int w, 0), j7] ∧ Dr fs' ∧ fs'.length ≤ fs.length + (List.range 4).length ∧ 0 ≤ w ∧ w < 2147483647 := by
    refine x_frQ (fun ys σ => ∃ fs' w j5, σ = [some (.scr ns, 0), some (.int m, 0), some (eW fs', 1), j3, j4, j5, some (.int w, 0), j7] ∧ Dr fs' ∧ fs'.length ≤ fs.length + ys.length ∧ 0 ≤ w ∧ w < 2147483647) (fun i : Nat => .int (0 + (i : Int))) (List.range 4) ?_ ?_ ?_
    · simp only [e_cst, e_var, e_lst, e_tup, e_bin, e_neg, e_cmp, e_chn, e_and, e_or, e_not, e_idx, e_sli, e_bck, e_blt, e_call, es_nil, es_cons, cond_def, aB_t, aB_f, oB_t, oB_f, add_i, sub_i, mul_i, div_i, mod_i, pow_18, c_eq, c_ne, c_lt, c_le, c_gt, c_ge, c_is, c_isn, isNon_n, isNon_i, isNon_b, isNon_t, isNon_L, tr_b, tr_i, tr_n, abs_i, int_i, max_i, min_i, isD_i, isD_b, isD_n, isD_t, isD_s, isD_L, val_L, val_t, ix_L, ix_t, at_0, at_1, at_2, atI_last, cat_isEmpty, dz, dpos,  List.dropLast_concat, List.reverse_nil, List.reverse_cons, bltD, optInt, itE_def, itD, isRng, bindT, bindT.go, wipe, fold_l, sum_l, cov_W, cov_M, eqD_MWr, eqD_MMr, imm_l, fr_l, fr_i, fr_b, fr_n, fr_s, fr_lst, lenD_l, listD_l, valD_l, revD_l, bckD_l, truth_l, isD_l, isNon_l, add_l, popD_l, appD_l, eqD_I, eqD_W, eqD_M, ixD_l, u_0, u_1, u_2, u_3, u_8, d_0, d_1, d_2, d_3, d_4, d_8, List.getElem?_cons_succ, List.getElem?_cons_zero, List.set_cons_succ, List.set_cons_zero, List.getD_cons_succ, List.getD_cons_zero, List.map_cons, List.map_nil, List.length_cons, List.length_nil, List.append_nil, List.nil_append, List.cons_append, List.replicate_succ, List.replicate_zero, Nat.reduceAdd, Nat.reduceSub, Nat.reduceLeDiff, Nat.reduceLT, Nat.zero_le, Nat.le_refl, ne_eq, not_true_eq_false, not_false_eq_true, Bool.or_self, Bool.or_false, Bool.false_or, Bool.or_true, Bool.true_or, Bool.and_true, Bool.true_and, Bool.and_false, Bool.false_and, Bool.not_true, Bool.not_false, decide_true, decide_false, decide_eq_true_eq, if_true, if_false, ite_true, ite_false, reduceIte, reduceCtorEq, Nat.reduceEqDiff, Nat.succ_ne_zero, Nat.one_ne_zero, small_def, PySem.sizeLine, Nat.reduceMul, beq_self_eq_true, Int.reduceMul, Int.reduceSub, Option.map_some, Option.map_none, true_and, and_true, and_self, Int.reduceNeg, Int.reduceAdd, Int.reduceLT, Int.reduceLE, Int.reducePow, Nat.reducePow, Int.reduceToNat, rng1_i]
    · exact ⟨fs, w, j5, rfl, hf, by simp, hw0, hw1⟩
    · rintro a ys zs σ hw ⟨fs', w, j5, rfl, hd, hq, hw0, hw1⟩
      have hn := len_of_split hw
      have ha := mem_of_split hw
      rw [List.length_range] at hn
      rw [List.mem_range] at ha
      have hb : fs'.length < 16777216 := by omega
      have m1 : mulOk w 69621 = true := mul_ok (by omega) (by omega)
      have m2 : mulOk 13 (0 + (a : Int)) = true := mul_ok (by omega) (by omega)
      refine ⟨_, rfl, [some (.scr ns, 0), some (.int m, 0), some (eW (fs' ++ [(w * 69621 + w / 65536 + 13 * (0 + (a : Int)) + 5) % 2147483629 / 8 % 1000003]), 1), j3, j4, some (.int (0 + (a : Int)), 0), some (.int ((w * 69621 + w / 65536 + 13 * (0 + (a : Int)) + 5) % 2147483629), 0), j7], .inl ?_, _, _, _, rfl, hd.app (by omega) (by omega), by simp; omega, by omega, by omega⟩
      simp only [F__law_draws, nth, thenS, elseS, runR_rt, runR_nx, x_skip, x_seq, x_ite, x_asg, x_par, x_ret, x_retv, x_rett, x_app, x_pop, x_put, x_put2, sq_nx, sq_rt, ic_t, ic_f, setO_one, parO_some, setT, setT.go, setV, esc, esc0, ownd, demote, cov, cov.covL, List.any_cons, List.any_nil, vars, varsS, chgR, chg, pthD, Pth.root, Pth.toE, mvR, RT.slots, minK, e_cst, e_var, e_lst, e_tup, e_bin, e_neg, e_cmp, e_chn, e_and, e_or, e_not, e_idx, e_sli, e_bck, e_blt, e_call, es_nil, es_cons, cond_def, aB_t, aB_f, oB_t, oB_f, add_i, sub_i, mul_i, div_i, mod_i, pow_18, c_eq, c_ne, c_lt, c_le, c_gt, c_ge, c_is, c_isn, isNon_n, isNon_i, isNon_b, isNon_t, isNon_L, tr_b, tr_i, tr_n, abs_i, int_i, max_i, min_i, isD_i, isD_b, isD_n, isD_t, isD_s, isD_L, val_L, val_t, ix_L, ix_t, at_0, at_1, at_2, atI_last, cat_isEmpty, dz, dpos,  List.dropLast_concat, List.reverse_nil, List.reverse_cons, bltD, optInt, itE_def, itD, isRng, bindT, bindT.go, wipe, fold_l, sum_l, cov_W, cov_M, eqD_MWr, eqD_MMr, imm_l, fr_l, fr_i, fr_b, fr_n, fr_s, fr_lst, lenD_l, listD_l, valD_l, revD_l, bckD_l, truth_l, isD_l, isNon_l, add_l, popD_l, appD_l, eqD_I, eqD_W, eqD_M, ixD_l, u_0, u_1, u_2, u_3, u_8, d_0, d_1, d_2, d_3, d_4, d_8, List.getElem?_cons_succ, List.getElem?_cons_zero, List.set_cons_succ, List.set_cons_zero, List.getD_cons_succ, List.getD_cons_zero, List.map_cons, List.map_nil, List.length_cons, List.length_nil, List.append_nil, List.nil_append, List.cons_append, List.replicate_succ, List.replicate_zero, Nat.reduceAdd, Nat.reduceSub, Nat.reduceLeDiff, Nat.reduceLT, Nat.zero_le, Nat.le_refl, ne_eq, not_true_eq_false, not_false_eq_true, Bool.or_self, Bool.or_false, Bool.false_or, Bool.or_true, Bool.true_or, Bool.and_true, Bool.true_and, Bool.and_false, Bool.false_and, Bool.not_true, Bool.not_false, decide_true, decide_false, decide_eq_true_eq, if_true, if_false, ite_true, ite_false, reduceIte, reduceCtorEq, Nat.reduceEqDiff, Nat.succ_ne_zero, Nat.one_ne_zero, small_def, PySem.sizeLine, Nat.reduceMul, beq_self_eq_true, Int.reduceMul, Int.reduceSub, Option.map_some, Option.map_none, true_and, and_true, and_self, Int.reduceNeg, Int.reduceAdd, Int.reduceLT, Int.reduceLE, Int.reducePow, Nat.reducePow, Int.reduceToNat, hb, d1, d2, m1, m2]
  exact ⟨σ', h1, fs', w', j', e, h2, by rw [List.length_range] at h3; omega⟩
theorem draws_1 (Φ : PhiT) (ns : List Int) (m : Int) :
    ∃ σ', exec Φ F__law_draws.own F__law_draws.ret (nth F__law_draws.body 1) [some (.scr ns, 0), some (.int m, 0), some (eW [], 1), none, none, none, none, none] = some (.nx σ') ∧
      ∃ fs j3 j4 j5 j6, σ' = [some (.scr ns, 0), some (.int m, 0), some (eW fs, 1), j3, j4, j5, j6, none] ∧ Dr fs ∧ fs.length ≤ 3780 := by
  have hc := cutI_len ns 63
  generalize hxs : cutI ns none (some ((63 : Nat) : Int)) = xs at hc
  obtain ⟨σ', h1, h2⟩ : ∃ σ', exec Φ F__law_draws.own F__law_draws.ret (nth F__law_draws.body 1) [some (.scr ns, 0), some (.int m, 0), some (eW [], 1), none, none, none, none, none] = some (.nx σ') ∧
      ∃ fs j3 j4 j5 j6, σ' = [some (.scr ns, 0), some (.int m, 0), some (eW fs, 1), j3, j4, j5, j6, none] ∧ Dr fs ∧ fs.length ≤ 60 * xs.length := by
    refine x_frQ (fun ys σ => ∃ fs j3 j4 j5 j6, σ = [some (.scr ns, 0), some (.int m, 0), some (eW fs, 1), j3, j4, j5, j6, none] ∧ Dr fs ∧ fs.length ≤ 60 * ys.length) D.int xs ?_ ?_ ?_
    · simp only [e_cst, e_var, e_lst, e_tup, e_bin, e_neg, e_cmp, e_chn, e_and, e_or, e_not, e_idx, e_sli, e_bck, e_blt, e_call, es_nil, es_cons, cond_def, aB_t, aB_f, oB_t, oB_f, add_i, sub_i, mul_i, div_i, mod_i, pow_18, c_eq, c_ne, c_lt, c_le, c_gt, c_ge, c_is, c_isn, isNon_n, isNon_i, isNon_b, isNon_t, isNon_L, tr_b, tr_i, tr_n, abs_i, int_i, max_i, min_i, isD_i, isD_b, isD_n, isD_t, isD_s, isD_L, val_L, val_t, ix_L, ix_t, at_0, at_1, at_2, atI_last, cat_isEmpty, dz, dpos,  List.dropLast_concat, List.reverse_nil, List.reverse_cons, bltD, optInt, itE_def, itD, isRng, bindT, bindT.go, wipe, fold_l, sum_l, cov_W, cov_M, eqD_MWr, eqD_MMr, imm_l, fr_l, fr_i, fr_b, fr_n, fr_s, fr_lst, lenD_l, listD_l, valD_l, revD_l, bckD_l, truth_l, isD_l, isNon_l, add_l, popD_l, appD_l, eqD_I, eqD_W, eqD_M, ixD_l, u_0, u_1, u_2, u_3, u_8, d_0, d_1, d_2, d_3, d_4, d_8, List.getElem?_cons_succ, List.getElem?_cons_zero, List.set_cons_succ, List.set_cons_zero, List.getD_cons_succ, List.getD_cons_zero, List.map_cons, List.map_nil, List.length_cons, List.length_nil, List.append_nil, List.nil_append, List.cons_append, List.replicate_succ, List.replicate_zero, Nat.reduceAdd, Nat.reduceSub, Nat.reduceLeDiff, Nat.reduceLT, Nat.zero_le, Nat.le_refl, ne_eq, not_true_eq_false, not_false_eq_true, Bool.or_self, Bool.or_false, Bool.false_or, Bool.or_true, Bool.true_or, Bool.and_true, Bool.true_and, Bool.and_false, Bool.false_and, Bool.not_true, Bool.not_false, decide_true, decide_false, decide_eq_true_eq, if_true, if_false, ite_true, ite_false, reduceIte, reduceCtorEq, Nat.reduceEqDiff, Nat.succ_ne_zero, Nat.one_ne_zero, small_def, PySem.sizeLine, Nat.reduceMul, beq_self_eq_true, Int.reduceMul, Int.reduceSub, Option.map_some, Option.map_none, true_and, and_true, and_self, Int.reduceNeg, Int.reduceAdd, Int.reduceLT, Int.reduceLE, Int.reducePow, Nat.reducePow, Int.reduceToNat, sliD]
      rw [← hxs]
      rfl
    · exact ⟨[], none, none, none, none, rfl, Dr.nil, by simp⟩
    · rintro a ys zs σ hw ⟨fs, j3, j4, j5, j6, rfl, hd, hq⟩
      have hn := len_of_split hw
      by_cases h : (if a < 0 then -a else a) ≥ 1000000000000000000
      · obtain ⟨σ', g1, fs', v, j', rfl, g3, g4⟩ := draws_in1 Φ ns m fs (if a < 0 then -a else a) (some (.int a, 0)) j5 j6 none hd (by omega)
        refine ⟨_, rfl, _, .inl ?_, fs', some (.int a, 0), some (.int v, 0), j', j6, rfl, g3, by simp; omega⟩
        simp only [F__law_draws, nth, thenS, elseS] at g1
        have p : decide ((1000000000000000000 : Int) ≤ if a < 0 then -a else a) = true := decide_eq_true h
        simp only [F__law_draws, nth, thenS, elseS, runR_rt, runR_nx, x_skip, x_seq, x_ite, x_asg, x_par, x_ret, x_retv, x_rett, x_app, x_pop, x_put, x_put2, sq_nx, sq_rt, ic_t, ic_f, setO_one, parO_some, setT, setT.go, setV, esc, esc0, ownd, demote, cov, cov.covL, List.any_cons, List.any_nil, vars, varsS, chgR, chg, pthD, Pth.root, Pth.toE, mvR, RT.slots, minK, e_cst, e_var, e_lst, e_tup, e_bin, e_neg, e_cmp, e_chn, e_and, e_or, e_not, e_idx, e_sli, e_bck, e_blt, e_call, es_nil, es_cons, cond_def, aB_t, aB_f, oB_t, oB_f, add_i, sub_i, mul_i, div_i, mod_i, pow_18, c_eq, c_ne, c_lt, c_le, c_gt, c_ge, c_is, c_isn, isNon_n, isNon_i, isNon_b, isNon_t, isNon_L, tr_b, tr_i, tr_n, abs_i, int_i, max_i, min_i, isD_i, isD_b, isD_n, isD_t, isD_s, isD_L, val_L, val_t, ix_L, ix_t, at_0, at_1, at_2, atI_last, cat_isEmpty, dz, dpos,  List.dropLast_concat, List.reverse_nil, List.reverse_cons, bltD, optInt, itE_def, itD, isRng, bindT, bindT.go, wipe, fold_l, sum_l, cov_W, cov_M, eqD_MWr, eqD_MMr, imm_l, fr_l, fr_i, fr_b, fr_n, fr_s, fr_lst, lenD_l, listD_l, valD_l, revD_l, bckD_l, truth_l, isD_l, isNon_l, add_l, popD_l, appD_l, eqD_I, eqD_W, eqD_M, ixD_l, u_0, u_1, u_2, u_3, u_8, d_0, d_1, d_2, d_3, d_4, d_8, List.getElem?_cons_succ, List.getElem?_cons_zero, List.set_cons_succ, List.set_cons_zero, List.getD_cons_succ, List.getD_cons_zero, List.map_cons, List.map_nil, List.length_cons, List.length_nil, List.append_nil, List.nil_append, List.cons_append, List.replicate_succ, List.replicate_zero, Nat.reduceAdd, Nat.reduceSub, Nat.reduceLeDiff, Nat.reduceLT, Nat.zero_le, Nat.le_refl, ne_eq, not_true_eq_false, not_false_eq_true, Bool.or_self, Bool.or_false, Bool.false_or, Bool.or_true, Bool.true_or, Bool.and_true, Bool.true_and, Bool.and_false, Bool.false_and, Bool.not_true, Bool.not_false, decide_true, decide_false, decide_eq_true_eq, if_true, if_false, ite_true, ite_false, reduceIte, reduceCtorEq, Nat.reduceEqDiff, Nat.succ_ne_zero, Nat.one_ne_zero, small_def, PySem.sizeLine, Nat.reduceMul, beq_self_eq_true, Int.reduceMul, Int.reduceSub, Option.map_some, Option.map_none, true_and, and_true, and_self, Int.reduceNeg, Int.reduceAdd, Int.reduceLT, Int.reduceLE, Int.reducePow, Nat.reducePow, Int.reduceToNat, pow_18, p, g1]
      · have m1 : mulOk (if a < 0 then -a else a) 48271 = true := mul_ok (by omega) (by omega)
        have m2 : mulOk 7 (fs.length : Int) = true := mul_ok (by omega) (by omega)
        obtain ⟨σ', g1, fs', v, j', rfl, g3, g4⟩ := draws_in2 Φ ns m fs (((if a < 0 then -a else a) * 48271 + 7 * (fs.length : Int) + 11) % 2147483647) (some (.int a, 0)) (some (.int (if a < 0 then -a else a), 0)) j5 none hd (by omega) (by omega) (by omega)
        refine ⟨_, rfl, _, .inl ?_, fs', some (.int a, 0), some (.int (if a < 0 then -a else a), 0), j', some (.int v, 0), rfl, g3, by simp; omega⟩
        simp only [F__law_draws, nth, thenS, elseS] at g1
        have p : decide ((1000000000000000000 : Int) ≤ if a < 0 then -a else a) = false := decide_eq_false h
        simp only [F__law_draws, nth, thenS, elseS, runR_rt, runR_nx, x_skip, x_seq, x_ite, x_asg, x_par, x_ret, x_retv, x_rett, x_app, x_pop, x_put, x_put2, sq_nx, sq_rt, ic_t, ic_f, setO_one, parO_some, setT, setT.go, setV, esc, esc0, ownd, demote, cov, cov.covL, List.any_cons, List.any_nil, vars, varsS, chgR, chg, pthD, Pth.root, Pth.toE, mvR, RT.slots, minK, e_cst, e_var, e_lst, e_tup, e_bin, e_neg, e_cmp, e_chn, e_and, e_or, e_not, e_idx, e_sli, e_bck, e_blt, e_call, es_nil, es_cons, cond_def, aB_t, aB_f, oB_t, oB_f, add_i, sub_i, mul_i, div_i, mod_i, pow_18, c_eq, c_ne, c_lt, c_le, c_gt, c_ge, c_is, c_isn, isNon_n, isNon_i, isNon_b, isNon_t, isNon_L, tr_b, tr_i, tr_n, abs_i, int_i, max_i, min_i, isD_i, isD_b, isD_n, isD_t, isD_s, isD_L, val_L, val_t, ix_L, ix_t, at_0, at_1, at_2, atI_last, cat_isEmpty, dz, dpos,  List.dropLast_concat, List.reverse_nil, List.reverse_cons, bltD, optInt, itE_def, itD, isRng, bindT, bindT.go, wipe, fold_l, sum_l, cov_W, cov_M, eqD_MWr, eqD_MMr, imm_l, fr_l, fr_i, fr_b, fr_n, fr_s, fr_lst, lenD_l, listD_l, valD_l, revD_l, bckD_l, truth_l, isD_l, isNon_l, add_l, popD_l, appD_l, eqD_I, eqD_W, eqD_M, ixD_l, u_0, u_1, u_2, u_3, u_8, d_0, d_1, d_2, d_3, d_4, d_8, List.getElem?_cons_succ, List.getElem?_cons_zero, List.set_cons_succ, List.set_cons_zero, List.getD_cons_succ, List.getD_cons_zero, List.map_cons, List.map_nil, List.length_cons, List.length_nil, List.append_nil, List.nil_append, List.cons_append, List.replicate_succ, List.replicate_zero, Nat.reduceAdd, Nat.reduceSub, Nat.reduceLeDiff, Nat.reduceLT, Nat.zero_le, Nat.le_refl, ne_eq, not_true_eq_false, not_false_eq_true, Bool.or_self, Bool.or_false, Bool.false_or, Bool.or_true, Bool.true_or, Bool.and_true, Bool.true_and, Bool.and_false, Bool.false_and, Bool.not_true, Bool.not_false, decide_true, decide_false, decide_eq_true_eq, if_true, if_false, ite_true, ite_false, reduceIte, reduceCtorEq, Nat.reduceEqDiff, Nat.succ_ne_zero, Nat.one_ne_zero, small_def, PySem.sizeLine, Nat.reduceMul, beq_self_eq_true, Int.reduceMul, Int.reduceSub, Option.map_some, Option.map_none, true_and, and_true, and_self, Int.reduceNeg, Int.reduceAdd, Int.reduceLT, Int.reduceLE, Int.reducePow, Nat.reducePow, Int.reduceToNat, pow_18, p, m1, m2, g1]
  obtain ⟨fs, j3, j4, j5, j6, e, h3, h4⟩ := h2
  exact ⟨σ', h1, fs, j3, j4, j5, j6, e, h3, by omega⟩
theorem draws_2 (Φ : PhiT) (ns : List Int) (m : Nat) (fs : List Int) (j3 j4 j5 j6 : Option (D × Nat)) (hd : Dr fs) (hl : fs.length ≤ 3780) (hm : m ≤ 1000) :
    ∃ σ', exec Φ F__law_draws.own F__law_draws.ret (nth F__law_draws.body 2) [some (.scr ns, 0), some (.int m, 0), some (eW fs, 1), j3, j4, j5, j6, none] = some (.nx σ') ∧
      ∃ fs j5 j7, σ' = [some (.scr ns, 0), some (.int m, 0), some (eW fs, 1), j3, j4, j5, j6, j7] ∧ Dr fs ∧ m ≤ fs.length ∧ fs.length ≤ 4780 := by
  obtain ⟨σ', h1, fs', j5', j7', e, h2, h3, h4⟩ : ∃ σ', exec Φ F__law_draws.own F__law_draws.ret (nth F__law_draws.body 2) [some (.scr ns, 0), some (.int m, 0), some (eW fs, 1), j3, j4, j5, j6, none] = some (.nx σ') ∧
      ∃ fs j5 j7, σ' = [some (.scr ns, 0), some (.int m, 0), some (eW fs, 1), j3, j4, j5, j6, j7] ∧ Dr fs ∧ min m (List.range m).length ≤ fs.length ∧ fs.length ≤ 3780 + (List.range m).length := by
    refine x_frQ (fun ys σ => ∃ fs j5 j7, σ = [some (.scr ns, 0), some (.int m, 0), some (eW fs, 1), j3, j4, j5, j6, j7] ∧ Dr fs ∧ min m ys.length ≤ fs.length ∧ fs.length ≤ 3780 + ys.length) (fun i : Nat => .int (0 + (i : Int))) (List.range m) ?_ ?_ ?_
    · simp only [e_cst, e_var, e_lst, e_tup, e_bin, e_neg, e_cmp, e_chn, e_and, e_or, e_not, e_idx, e_sli, e_bck, e_blt, e_call, es_nil, es_cons, cond_def, aB_t, aB_f, oB_t, oB_f, add_i, sub_i, mul_i, div_i, mod_i, pow_18, c_eq, c_ne, c_lt, c_le, c_gt, c_ge, c_is, c_isn, isNon_n, isNon_i, isNon_b, isNon_t, isNon_L, tr_b, tr_i, tr_n, abs_i, int_i, max_i, min_i, isD_i, isD_b, isD_n, isD_t, isD_s, isD_L, val_L, val_t, ix_L, ix_t, at_0, at_1, at_2, atI_last, cat_isEmpty, dz, dpos,  List.dropLast_concat, List.reverse_nil, List.reverse_cons, bltD, optInt, itE_def, itD, isRng, bindT, bindT.go, wipe, fold_l, sum_l, cov_W, cov_M, eqD_MWr, eqD_MMr, imm_l, fr_l, fr_i, fr_b, fr_n, fr_s, fr_lst, lenD_l, listD_l, valD_l, revD_l, bckD_l, truth_l, isD_l, isNon_l, add_l, popD_l, appD_l, eqD_I, eqD_W, eqD_M, ixD_l, u_0, u_1, u_2, u_3, u_8, d_0, d_1, d_2, d_3, d_4, d_8, List.getElem?_cons_succ, List.getElem?_cons_zero, List.set_cons_succ, List.set_cons_zero, List.getD_cons_succ, List.getD_cons_zero, List.map_cons, List.map_nil, List.length_cons, List.length_nil, List.append_nil, List.nil_append, List.cons_append, List.replicate_succ, List.replicate_zero, Nat.reduceAdd, Nat.reduceSub, Nat.reduceLeDiff, Nat.reduceLT, Nat.zero_le, Nat.le_refl, ne_eq, not_true_eq_false, not_false_eq_true, Bool.or_self, Bool.or_false, Bool.false_or, Bool.or_true, Bool.true_or, Bool.and_true, Bool.true_and, Bool.and_false, Bool.false_and, Bool.not_true, Bool.not_false, decide_true, decide_false, decide_eq_true_eq, if_true, if_false, ite_true, ite_false, reduceIte, reduceCtorEq, Nat.reduceEqDiff, Nat.succ_ne_zero, Nat.one_ne_zero, small_def, PySem.sizeLine, Nat.reduceMul, beq_self_eq_true, Int.reduceMul, Int.reduceSub, Option.map_some, Option.map_none, true_and, and_true, and_self, Int.reduceNeg, Int.reduceAdd, Int.reduceLT, Int.reduceLE, Int.reducePow, Nat.reducePow, Int.reduceToNat, rng1_k m (by omega)]
    · exact ⟨fs, j5, none, rfl, hd, by simp, by simpa using hl⟩
    · rintro a ys zs σ hw ⟨fs, j5, j7, rfl, hd, hq, hq'⟩
      have hn := len_of_split hw
      rw [List.length_range] at hn
      by_cases h : (fs.length : Int) < m
      · have hb : fs.length < 16777216 := by omega
        have m3 : mulOk 31 (fs.length : Int) = true := mul_ok (by omega) (by omega)
        by_cases h0 : (0 : Int) < fs.length
        · have hx := atI_at (xs := fs) (i := (0 + (a : Int)) % (fs.length : Int)) 0 (Int.emod_nonneg _ (by omega)) (Int.emod_lt_of_pos _ h0)
          have hg := hd.get ((0 + (a : Int)) % (fs.length : Int)).toNat
          have m1 : mulOk (fs.getD ((0 + (a : Int)) % (fs.length : Int)).toNat 0) 16807 = true := mul_ok (by omega) (by omega)
          refine ⟨_, rfl, [some (.scr ns, 0), some (.int m, 0), some (eW (fs ++ [(fs.getD ((0 + (a : Int)) % (fs.length : Int)).toNat 0 * 16807 + 31 * (fs.length : Int) + 17) % 1000003]), 1), j3, j4, some (.int (0 + (a : Int)), 0), j6, some (.int (fs.getD ((0 + (a : Int)) % (fs.length : Int)).toNat 0), 0)], .inl ?_, _, _, _, rfl, hd.app (by omega) (by omega), by simp; omega, by simp; omega⟩
          simp only [F__law_draws, nth, thenS, elseS, runR_rt, runR_nx, x_skip, x_seq, x_ite, x_asg, x_par, x_ret, x_retv, x_rett, x_app, x_pop, x_put, x_put2, sq_nx, sq_rt, ic_t, ic_f, setO_one, parO_some, setT, setT.go, setV, esc, esc0, ownd, demote, cov, cov.covL, List.any_cons, List.any_nil, vars, varsS, chgR, chg, pthD, Pth.root, Pth.toE, mvR, RT.slots, minK, e_cst, e_var, e_lst, e_tup, e_bin, e_neg, e_cmp, e_chn, e_and, e_or, e_not, e_idx, e_sli, e_bck, e_blt, e_call, es_nil, es_cons, cond_def, aB_t, aB_f, oB_t, oB_f, add_i, sub_i, mul_i, div_i, mod_i, pow_18, c_eq, c_ne, c_lt, c_le, c_gt, c_ge, c_is, c_isn, isNon_n, isNon_i, isNon_b, isNon_t, isNon_L, tr_b, tr_i, tr_n, abs_i, int_i, max_i, min_i, isD_i, isD_b, isD_n, isD_t, isD_s, isD_L, val_L, val_t, ix_L, ix_t, at_0, at_1, at_2, atI_last, cat_isEmpty, dz, dpos,  List.dropLast_concat, List.reverse_nil, List.reverse_cons, bltD, optInt, itE_def, itD, isRng, bindT, bindT.go, wipe, fold_l, sum_l, cov_W, cov_M, eqD_MWr, eqD_MMr, imm_l, fr_l, fr_i, fr_b, fr_n, fr_s, fr_lst, lenD_l, listD_l, valD_l, revD_l, bckD_l, truth_l, isD_l, isNon_l, add_l, popD_l, appD_l, eqD_I, eqD_W, eqD_M, ixD_l, u_0, u_1, u_2, u_3, u_8, d_0, d_1, d_2, d_3, d_4, d_8, List.getElem?_cons_succ, List.getElem?_cons_zero, List.set_cons_succ, List.set_cons_zero, List.getD_cons_succ, List.getD_cons_zero, List.map_cons, List.map_nil, List.length_cons, List.length_nil, List.append_nil, List.nil_append, List.cons_append, List.replicate_succ, List.replicate_zero, Nat.reduceAdd, Nat.reduceSub, Nat.reduceLeDiff, Nat.reduceLT, Nat.zero_le, Nat.le_refl, ne_eq, not_true_eq_false, not_false_eq_true, Bool.or_self, Bool.or_false, Bool.false_or, Bool.or_true, Bool.true_or, Bool.and_true, Bool.true_and, Bool.and_false, Bool.false_and, Bool.not_true, Bool.not_false, decide_true, decide_false, decide_eq_true_eq, if_true, if_false, ite_true, ite_false, reduceIte, reduceCtorEq, Nat.reduceEqDiff, Nat.succ_ne_zero, Nat.one_ne_zero, small_def, PySem.sizeLine, Nat.reduceMul, beq_self_eq_true, Int.reduceMul, Int.reduceSub, Option.map_some, Option.map_none, true_and, and_true, and_self, Int.reduceNeg, Int.reduceAdd, Int.reduceLT, Int.reduceLE, Int.reducePow, Nat.reducePow, Int.reduceToNat, decide_eq_true h, decide_eq_true h0, hb, m1, m3, hx, h0]
        · have m1 : mulOk 0 16807 = true := mul_ok (by omega) (by omega)
          refine ⟨_, rfl, [some (.scr ns, 0), some (.int m, 0), some (eW (fs ++ [(0 * 16807 + 31 * (fs.length : Int) + 17) % 1000003]), 1), j3, j4, some (.int (0 + (a : Int)), 0), j6, some (.int 0, 0)], .inl ?_, _, _, _, rfl, hd.app (by omega) (by omega), by simp; omega, by simp; omega⟩
          simp only [F__law_draws, nth, thenS, elseS, runR_rt, runR_nx, x_skip, x_seq, x_ite, x_asg, x_par, x_ret, x_retv, x_rett, x_app, x_pop, x_put, x_put2, sq_nx, sq_rt, ic_t, ic_f, setO_one, parO_some, setT, setT.go, setV, esc, esc0, ownd, demote, cov, cov.covL, List.any_cons, List.any_nil, vars, varsS, chgR, chg, pthD, Pth.root, Pth.toE, mvR, RT.slots, minK, e_cst, e_var, e_lst, e_tup, e_bin, e_neg, e_cmp, e_chn, e_and, e_or, e_not, e_idx, e_sli, e_bck, e_blt, e_call, es_nil, es_cons, cond_def, aB_t, aB_f, oB_t, oB_f, add_i, sub_i, mul_i, div_i, mod_i, pow_18, c_eq, c_ne, c_lt, c_le, c_gt, c_ge, c_is, c_isn, isNon_n, isNon_i, isNon_b, isNon_t, isNon_L, tr_b, tr_i, tr_n, abs_i, int_i, max_i, min_i, isD_i, isD_b, isD_n, isD_t, isD_s, isD_L, val_L, val_t, ix_L, ix_t, at_0, at_1, at_2, atI_last, cat_isEmpty, dz, dpos,  List.dropLast_concat, List.reverse_nil, List.reverse_cons, bltD, optInt, itE_def, itD, isRng, bindT, bindT.go, wipe, fold_l, sum_l, cov_W, cov_M, eqD_MWr, eqD_MMr, imm_l, fr_l, fr_i, fr_b, fr_n, fr_s, fr_lst, lenD_l, listD_l, valD_l, revD_l, bckD_l, truth_l, isD_l, isNon_l, add_l, popD_l, appD_l, eqD_I, eqD_W, eqD_M, ixD_l, u_0, u_1, u_2, u_3, u_8, d_0, d_1, d_2, d_3, d_4, d_8, List.getElem?_cons_succ, List.getElem?_cons_zero, List.set_cons_succ, List.set_cons_zero, List.getD_cons_succ, List.getD_cons_zero, List.map_cons, List.map_nil, List.length_cons, List.length_nil, List.append_nil, List.nil_append, List.cons_append, List.replicate_succ, List.replicate_zero, Nat.reduceAdd, Nat.reduceSub, Nat.reduceLeDiff, Nat.reduceLT, Nat.zero_le, Nat.le_refl, ne_eq, not_true_eq_false, not_false_eq_true, Bool.or_self, Bool.or_false, Bool.false_or, Bool.or_true, Bool.true_or, Bool.and_true, Bool.true_and, Bool.and_false, Bool.false_and, Bool.not_true, Bool.not_false, decide_true, decide_false, decide_eq_true_eq, if_true, if_false, ite_true, ite_false, reduceIte, reduceCtorEq, Nat.reduceEqDiff, Nat.succ_ne_zero, Nat.one_ne_zero, small_def, PySem.sizeLine, Nat.reduceMul, beq_self_eq_true, Int.reduceMul, Int.reduceSub, Option.map_some, Option.map_none, true_and, and_true, and_self, Int.reduceNeg, Int.reduceAdd, Int.reduceLT, Int.reduceLE, Int.reducePow, Nat.reducePow, Int.reduceToNat, decide_eq_true h, decide_eq_false h0, hb, m1, m3]
      · refine ⟨_, rfl, [some (.scr ns, 0), some (.int m, 0), some (eW fs, 1), j3, j4, some (.int (0 + (a : Int)), 0), j6, j7], .inl ?_, _, _, _, rfl, hd, by simp; omega, by simp; omega⟩
        simp only [F__law_draws, nth, thenS, elseS, runR_rt, runR_nx, x_skip, x_seq, x_ite, x_asg, x_par, x_ret, x_retv, x_rett, x_app, x_pop, x_put, x_put2, sq_nx, sq_rt, ic_t, ic_f, setO_one, parO_some, setT, setT.go, setV, esc, esc0, ownd, demote, cov, cov.covL, List.any_cons, List.any_nil, vars, varsS, chgR, chg, pthD, Pth.root, Pth.toE, mvR, RT.slots, minK, e_cst, e_var, e_lst, e_tup, e_bin, e_neg, e_cmp, e_chn, e_and, e_or, e_not, e_idx, e_sli, e_bck, e_blt, e_call, es_nil, es_cons, cond_def, aB_t, aB_f, oB_t, oB_f, add_i, sub_i, mul_i, div_i, mod_i, pow_18, c_eq, c_ne, c_lt, c_le, c_gt, c_ge, c_is, c_isn, isNon_n, isNon_i, isNon_b, isNon_t, isNon_L, tr_b, tr_i, tr_n, abs_i, int_i, max_i, min_i, isD_i, isD_b, isD_n, isD_t, isD_s, isD_L, val_L, val_t, ix_L, ix_t, at_0, at_1, at_2, atI_last, cat_isEmpty, dz, dpos,  List.dropLast_concat, List.reverse_nil, List.reverse_cons, bltD, optInt, itE_def, itD, isRng, bindT, bindT.go, wipe, fold_l, sum_l, cov_W, cov_M, eqD_MWr, eqD_MMr, imm_l, fr_l, fr_i, fr_b, fr_n, fr_s, fr_lst, lenD_l, listD_l, valD_l, revD_l, bckD_l, truth_l, isD_l, isNon_l, add_l, popD_l, appD_l, eqD_I, eqD_W, eqD_M, ixD_l, u_0, u_1, u_2, u_3, u_8, d_0, d_1, d_2, d_3, d_4, d_8, List.getElem?_cons_succ, List.getElem?_cons_zero, List.set_cons_succ, List.set_cons_zero, List.getD_cons_succ, List.getD_cons_zero, List.map_cons, List.map_nil, List.length_cons, List.length_nil, List.append_nil, List.nil_append, List.cons_append, List.replicate_succ, List.replicate_zero, Nat.reduceAdd, Nat.reduceSub, Nat.reduceLeDiff, Nat.reduceLT, Nat.zero_le, Nat.le_refl, ne_eq, not_true_eq_false, not_false_eq_true, Bool.or_self, Bool.or_false, Bool.false_or, Bool.or_true, Bool.true_or, Bool.and_true, Bool.true_and, Bool.and_false, Bool.false_and, Bool.not_true, Bool.not_false, decide_true, decide_false, decide_eq_true_eq, if_true, if_false, ite_true, ite_false, reduceIte, reduceCtorEq, Nat.reduceEqDiff, Nat.succ_ne_zero, Nat.one_ne_zero, small_def, PySem.sizeLine, Nat.reduceMul, beq_self_eq_true, Int.reduceMul, Int.reduceSub, Option.map_some, Option.map_none, true_and, and_true, and_self, Int.reduceNeg, Int.reduceAdd, Int.reduceLT, Int.reduceLE, Int.reducePow, Nat.reducePow, Int.reduceToNat, decide_eq_false h]
  refine ⟨σ', h1, fs', j5', j7', e, h2, ?_, ?_⟩
  · rw [List.length_range] at h3; omega
  · rw [List.length_range] at h4; omega
theorem draws_end (Φ : PhiT) (ns : List Int) (M : Int) (fs1 fs2 fs3 : List Int) (j3 j4 j5 j6 j5' j7 : Option (D × Nat))
    (h1 : exec Φ F__law_draws.own F__law_draws.ret (nth F__law_draws.body 1) [some (.scr ns, 0), some (.int M, 0), some (eW [], 1), none, none, none, none, none] = some (.nx [some (.scr ns, 0), some (.int M, 0), some (eW fs1, 1), j3, j4, j5, j6, none]))
    (h2 : exec Φ F__law_draws.own F__law_draws.ret (nth F__law_draws.body 2) [some (.scr ns, 0), some (.int M, 0), some (eW fs1, 1), j3, j4, j5, j6, none] = some (.nx [some (.scr ns, 0), some (.int M, 0), some (eW fs2, 1), j3, j4, j5', j6, j7]))
    (h3 : sliD (eW fs2) none (some M) = some (eW fs3, 1)) : runF Φ F__law_draws [.scr ns, .int M] = some (eW fs3, 1, .non) := by
  simp only [F__law_draws, nth] at h1 h2
  rw [runF_of rfl]
  simp only [F__law_draws, runR_rt, runR_nx, x_skip, x_seq, x_ite, x_asg, x_par, x_ret, x_retv, x_rett, x_app, x_pop, x_put, x_put2, sq_nx, sq_rt, ic_t, ic_f, setO_one, parO_some, setT, setT.go, setV, esc, esc0, ownd, demote, cov, cov.covL, List.any_cons, List.any_nil, vars, varsS, chgR, chg, pthD, Pth.root, Pth.toE, mvR, RT.slots, minK, e_cst, e_var, e_lst, e_tup, e_bin, e_neg, e_cmp, e_chn, e_and, e_or, e_not, e_idx, e_sli, e_bck, e_blt, e_call, es_nil, es_cons, cond_def, aB_t, aB_f, oB_t, oB_f, add_i, sub_i, mul_i, div_i, mod_i, pow_18, c_eq, c_ne, c_lt, c_le, c_gt, c_ge, c_is, c_isn, isNon_n, isNon_i, isNon_b, isNon_t, isNon_L, tr_b, tr_i, tr_n, abs_i, int_i, max_i, min_i, isD_i, isD_b, isD_n, isD_t, isD_s, isD_L, val_L, val_t, ix_L, ix_t, at_0, at_1, at_2, atI_last, cat_isEmpty, dz, dpos,  List.dropLast_concat, List.reverse_nil, List.reverse_cons, bltD, optInt, itE_def, itD, isRng, bindT, bindT.go, wipe, fold_l, sum_l, cov_W, cov_M, eqD_MWr, eqD_MMr, imm_l, fr_l, fr_i, fr_b, fr_n, fr_s, fr_lst, lenD_l, listD_l, valD_l, revD_l, bckD_l, truth_l, isD_l, isNon_l, add_l, popD_l, appD_l, eqD_I, eqD_W, eqD_M, ixD_l, u_0, u_1, u_2, u_3, u_8, d_0, d_1, d_2, d_3, d_4, d_8, List.getElem?_cons_succ, List.getElem?_cons_zero, List.set_cons_succ, List.set_cons_zero, List.getD_cons_succ, List.getD_cons_zero, List.map_cons, List.map_nil, List.length_cons, List.length_nil, List.append_nil, List.nil_append, List.cons_append, List.replicate_succ, List.replicate_zero, Nat.reduceAdd, Nat.reduceSub, Nat.reduceLeDiff, Nat.reduceLT, Nat.zero_le, Nat.le_refl, ne_eq, not_true_eq_false, not_false_eq_true, Bool.or_self, Bool.or_false, Bool.false_or, Bool.or_true, Bool.true_or, Bool.and_true, Bool.true_and, Bool.and_false, Bool.false_and, Bool.not_true, Bool.not_false, decide_true, decide_false, decide_eq_true_eq, if_true, if_false, ite_true, ite_false, reduceIte, reduceCtorEq, Nat.reduceEqDiff, Nat.succ_ne_zero, Nat.one_ne_zero, small_def, PySem.sizeLine, Nat.reduceMul, beq_self_eq_true, Int.reduceMul, Int.reduceSub, Option.map_some, Option.map_none, true_and, and_true, and_self, Int.reduceNeg, Int.reduceAdd, Int.reduceLT, Int.reduceLE, Int.reducePow, Nat.reducePow, Int.reduceToNat, nil_W D.int, h1, h2, h3]
theorem run_draws (Φ : PhiT) (ns : List Int) (m : Nat) (hm : m ≤ 1000) : ∃ fs : List Int, Dr fs ∧ fs.length = m ∧ runF Φ F__law_draws [.scr ns, .int m] = some (eW fs, 1, .non) := by
  obtain ⟨σ1, h1, fs1, j3, j4, j5, j6, rfl, hd1, hl1⟩ := draws_1 Φ ns m
  obtain ⟨σ2, h2, fs2, j5', j7, rfl, hd2, hm2, hl2⟩ := draws_2 Φ ns m fs1 j3 j4 j5 j6 hd1 hl1 hm
  refine ⟨fs2.take m, fun x hx => hd2 x (List.mem_of_mem_take hx), by rw [List.length_take]; omega, ?_⟩
  have e : (fs2.drop (HT.sIx fs2.length 0 none)).take (HT.sIx fs2.length fs2.length (some (m : Int)) - HT.sIx fs2.length 0 none) = fs2.take m := by
    rw [HT.sIx_none, HT.sIx_nat, List.drop_zero, Nat.sub_zero, Nat.min_eq_left hm2]
  have h3 : sliD (eW fs2) none (some (m : Int)) = some (eW (fs2.take m), 1) := by rw [sliD_l, e]
  exact draws_end Φ ns m fs1 fs2 (fs2.take m) j3 j4 j5 j6 j5' j7 h1 h2 h3
end LW

namespace LW
open PD


theorem ev_cell (n : Nat) (ds : List Int) (k : Int) (hd : Dr ds) (h0 : 0 < ds.length) (h1 : ds.length ≤ 5000) (k0 : 0 ≤ k) (k1 : k < 1000000000) : Phi prog (n + 1) i__law_cell [eW ds, .int k] = some (.int (cellF ds k), 0, .non) := by
  rw [Phi_succ (fn := F__law_cell) rfl, runF_of rfl]
  unfold cellF
  by_cases h : k < ds.length
  · have hx := atI_at (xs := ds) (i := k) 0 k0 h
    simp only [F__law_cell, runR_rt, runR_nx, x_skip, x_seq, x_ite, x_asg, x_par, x_ret, x_retv, x_rett, x_app, x_pop, x_put, x_put2, sq_nx, sq_rt, ic_t, ic_f, setO_one, parO_some, setT, setT.go, setV, esc, esc0, ownd, demote, cov, cov.covL, List.any_cons, List.any_nil, vars, varsS, chgR, chg, pthD, Pth.root, Pth.toE, mvR, RT.slots, minK, e_cst, e_var, e_lst, e_tup, e_bin, e_neg, e_cmp, e_chn, e_and, e_or, e_not, e_idx, e_sli, e_bck, e_blt, e_call, es_nil, es_cons, cond_def, aB_t, aB_f, oB_t, oB_f, add_i, sub_i, mul_i, div_i, mod_i, pow_18, c_eq, c_ne, c_lt, c_le, c_gt, c_ge, c_is, c_isn, isNon_n, isNon_i, isNon_b, isNon_t, isNon_L, tr_b, tr_i, tr_n, abs_i, int_i, max_i, min_i, isD_i, isD_b, isD_n, isD_t, isD_s, isD_L, val_L, val_t, ix_L, ix_t, at_0, at_1, at_2, atI_last, cat_isEmpty, dz, dpos,  List.dropLast_concat, List.reverse_nil, List.reverse_cons, bltD, optInt, itE_def, itD, isRng, bindT, bindT.go, wipe, fold_l, sum_l, cov_W, cov_M, eqD_MWr, eqD_MMr, imm_l, fr_l, fr_i, fr_b, fr_n, fr_s, fr_lst, lenD_l, listD_l, valD_l, revD_l, bckD_l, truth_l, isD_l, isNon_l, add_l, popD_l, appD_l, eqD_I, eqD_W, eqD_M, ixD_l, u_0, u_1, u_2, u_3, u_8, d_0, d_1, d_2, d_3, d_4, d_8, List.getElem?_cons_succ, List.getElem?_cons_zero, List.set_cons_succ, List.set_cons_zero, List.getD_cons_succ, List.getD_cons_zero, List.map_cons, List.map_nil, List.length_cons, List.length_nil, List.append_nil, List.nil_append, List.cons_append, List.replicate_succ, List.replicate_zero, Nat.reduceAdd, Nat.reduceSub, Nat.reduceLeDiff, Nat.reduceLT, Nat.zero_le, Nat.le_refl, ne_eq, not_true_eq_false, not_false_eq_true, Bool.or_self, Bool.or_false, Bool.false_or, Bool.or_true, Bool.true_or, Bool.and_true, Bool.true_and, Bool.and_false, Bool.false_and, Bool.not_true, Bool.not_false, decide_true, decide_false, decide_eq_true_eq, if_true, if_false, ite_true, ite_false, reduceIte, reduceCtorEq, Nat.reduceEqDiff, Nat.succ_ne_zero, Nat.one_ne_zero, small_def, PySem.sizeLine, Nat.reduceMul, beq_self_eq_true, Int.reduceMul, Int.reduceSub, Option.map_some, Option.map_none, true_and, and_true, and_self, Int.reduceNeg, Int.reduceAdd, Int.reduceLT, Int.reduceLE, Int.reducePow, Nat.reducePow, Int.reduceToNat, decide_eq_true h, hx, h]
  · have hp : (0 : Int) < ds.length := by omega
    have hx := atI_at (xs := ds) (i := k % (ds.length : Int)) 0 (Int.emod_nonneg _ (by omega)) (Int.emod_lt_of_pos _ hp)
    have hy := atI_at (xs := ds) (i := 7 * k % (ds.length : Int)) 0 (Int.emod_nonneg _ (by omega)) (Int.emod_lt_of_pos _ hp)
    have g1 := hd.get (k % (ds.length : Int)).toNat
    have g2 := hd.get (7 * k % (ds.length : Int)).toNat
    have m1 : mulOk (ds.getD (k % (ds.length : Int)).toNat 0) 31 = true := mul_ok (by omega) (by omega)
    have m2 : mulOk (ds.getD (7 * k % (ds.length : Int)).toNat 0) 17 = true := mul_ok (by omega) (by omega)
    have m3 : mulOk 101 k = true := mul_ok (by omega) (by omega)
    have m4 : mulOk 7 k = true := mul_ok (by omega) (by omega)
    simp only [F__law_cell, runR_rt, runR_nx, x_skip, x_seq, x_ite, x_asg, x_par, x_ret, x_retv, x_rett, x_app, x_pop, x_put, x_put2, sq_nx, sq_rt, ic_t, ic_f, setO_one, parO_some, setT, setT.go, setV, esc, esc0, ownd, demote, cov, cov.covL, List.any_cons, List.any_nil, vars, varsS, chgR, chg, pthD, Pth.root, Pth.toE, mvR, RT.slots, minK, e_cst, e_var, e_lst, e_tup, e_bin, e_neg, e_cmp, e_chn, e_and, e_or, e_not, e_idx, e_sli, e_bck, e_blt, e_call, es_nil, es_cons, cond_def, aB_t, aB_f, oB_t, oB_f, add_i, sub_i, mul_i, div_i, mod_i, pow_18, c_eq, c_ne, c_lt, c_le, c_gt, c_ge, c_is, c_isn, isNon_n, isNon_i, isNon_b, isNon_t, isNon_L, tr_b, tr_i, tr_n, abs_i, int_i, max_i, min_i, isD_i, isD_b, isD_n, isD_t, isD_s, isD_L, val_L, val_t, ix_L, ix_t, at_0, at_1, at_2, atI_last, cat_isEmpty, dz, dpos,  List.dropLast_concat, List.reverse_nil, List.reverse_cons, bltD, optInt, itE_def, itD, isRng, bindT, bindT.go, wipe, fold_l, sum_l, cov_W, cov_M, eqD_MWr, eqD_MMr, imm_l, fr_l, fr_i, fr_b, fr_n, fr_s, fr_lst, lenD_l, listD_l, valD_l, revD_l, bckD_l, truth_l, isD_l, isNon_l, add_l, popD_l, appD_l, eqD_I, eqD_W, eqD_M, ixD_l, u_0, u_1, u_2, u_3, u_8, d_0, d_1, d_2, d_3, d_4, d_8, List.getElem?_cons_succ, List.getElem?_cons_zero, List.set_cons_succ, List.set_cons_zero, List.getD_cons_succ, List.getD_cons_zero, List.map_cons, List.map_nil, List.length_cons, List.length_nil, List.append_nil, List.nil_append, List.cons_append, List.replicate_succ, List.replicate_zero, Nat.reduceAdd, Nat.reduceSub, Nat.reduceLeDiff, Nat.reduceLT, Nat.zero_le, Nat.le_refl, ne_eq, not_true_eq_false, not_false_eq_true, Bool.or_self, Bool.or_false, Bool.false_or, Bool.or_true, Bool.true_or, Bool.and_true, Bool.true_and, Bool.and_false, Bool.false_and, Bool.not_true, Bool.not_false, decide_true, decide_false, decide_eq_true_eq, if_true, if_false, ite_true, ite_false, reduceIte, reduceCtorEq, Nat.reduceEqDiff, Nat.succ_ne_zero, Nat.one_ne_zero, small_def, PySem.sizeLine, Nat.reduceMul, beq_self_eq_true, Int.reduceMul, Int.reduceSub, Option.map_some, Option.map_none, true_and, and_true, and_self, Int.reduceNeg, Int.reduceAdd, Int.reduceLT, Int.reduceLE, Int.reducePow, Nat.reducePow, Int.reduceToNat, decide_eq_false h, hx, hy, hp, m1, m2, m3, m4, h]
theorem ev_is_number (n : Nat) (x : Int) : Phi prog (n + 1) i__law_is_number [.int x] = some (.bl true, 0, .non) := by
  rw [Phi_succ (fn := F__law_is_number) rfl, runF_of rfl]
  simp only [F__law_is_number, runR_rt, runR_nx, x_skip, x_seq, x_ite, x_asg, x_par, x_ret, x_retv, x_rett, x_app, x_pop, x_put, x_put2, sq_nx, sq_rt, ic_t, ic_f, setO_one, parO_some, setT, setT.go, setV, esc, esc0, ownd, demote, cov, cov.covL, List.any_cons, List.any_nil, vars, varsS, chgR, chg, pthD, Pth.root, Pth.toE, mvR, RT.slots, minK, e_cst, e_var, e_lst, e_tup, e_bin, e_neg, e_cmp, e_chn, e_and, e_or, e_not, e_idx, e_sli, e_bck, e_blt, e_call, es_nil, es_cons, cond_def, aB_t, aB_f, oB_t, oB_f, add_i, sub_i, mul_i, div_i, mod_i, pow_18, c_eq, c_ne, c_lt, c_le, c_gt, c_ge, c_is, c_isn, isNon_n, isNon_i, isNon_b, isNon_t, isNon_L, tr_b, tr_i, tr_n, abs_i, int_i, max_i, min_i, isD_i, isD_b, isD_n, isD_t, isD_s, isD_L, val_L, val_t, ix_L, ix_t, at_0, at_1, at_2, atI_last, cat_isEmpty, dz, dpos,  List.dropLast_concat, List.reverse_nil, List.reverse_cons, bltD, optInt, itE_def, itD, isRng, bindT, bindT.go, wipe, fold_l, sum_l, cov_W, cov_M, eqD_MWr, eqD_MMr, imm_l, fr_l, fr_i, fr_b, fr_n, fr_s, fr_lst, lenD_l, listD_l, valD_l, revD_l, bckD_l, truth_l, isD_l, isNon_l, add_l, popD_l, appD_l, eqD_I, eqD_W, eqD_M, ixD_l, u_0, u_1, u_2, u_3, u_8, d_0, d_1, d_2, d_3, d_4, d_8, List.getElem?_cons_succ, List.getElem?_cons_zero, List.set_cons_succ, List.set_cons_zero, List.getD_cons_succ, List.getD_cons_zero, List.map_cons, List.map_nil, List.length_cons, List.length_nil, List.append_nil, List.nil_append, List.cons_append, List.replicate_succ, List.replicate_zero, Nat.reduceAdd, Nat.reduceSub, Nat.reduceLeDiff, Nat.reduceLT, Nat.zero_le, Nat.le_refl, ne_eq, not_true_eq_false, not_false_eq_true, Bool.or_self, Bool.or_false, Bool.false_or, Bool.or_true, Bool.true_or, Bool.and_true, Bool.true_and, Bool.and_false, Bool.false_and, Bool.not_true, Bool.not_false, decide_true, decide_false, decide_eq_true_eq, if_true, if_false, ite_true, ite_false, reduceIte, reduceCtorEq, Nat.reduceEqDiff, Nat.succ_ne_zero, Nat.one_ne_zero, small_def, PySem.sizeLine, Nat.reduceMul, beq_self_eq_true, Int.reduceMul, Int.reduceSub, Option.map_some, Option.map_none, true_and, and_true, and_self, Int.reduceNeg, Int.reduceAdd, Int.reduceLT, Int.reduceLE, Int.reducePow, Nat.reducePow, Int.reduceToNat, String.reduceBEq]
theorem is_numbers_end (Φ : PhiT) (xs : List Int) (j : Option (D × Nat))
    (h1 : exec Φ F__law_is_numbers.own F__law_is_numbers.ret (nth F__law_is_numbers.body 1) [some (eW xs, 0), none] = some (.nx [some (eW xs, 0), j])) : runF Φ F__law_is_numbers [eW xs] = some (.bl true, 8, .non) := by
  simp only [F__law_is_numbers, nth] at h1
  rw [runF_of rfl]
  simp only [F__law_is_numbers, runR_rt, runR_nx, x_skip, x_seq, x_ite, x_asg, x_par, x_ret, x_retv, x_rett, x_app, x_pop, x_put, x_put2, sq_nx, sq_rt, ic_t, ic_f, setO_one, parO_some, setT, setT.go, setV, esc, esc0, ownd, demote, cov, cov.covL, List.any_cons, List.any_nil, vars, varsS, chgR, chg, pthD, Pth.root, Pth.toE, mvR, RT.slots, minK, e_cst, e_var, e_lst, e_tup, e_bin, e_neg, e_cmp, e_chn, e_and, e_or, e_not, e_idx, e_sli, e_bck, e_blt, e_call, es_nil, es_cons, cond_def, aB_t, aB_f, oB_t, oB_f, add_i, sub_i, mul_i, div_i, mod_i, pow_18, c_eq, c_ne, c_lt, c_le, c_gt, c_ge, c_is, c_isn, isNon_n, isNon_i, isNon_b, isNon_t, isNon_L, tr_b, tr_i, tr_n, abs_i, int_i, max_i, min_i, isD_i, isD_b, isD_n, isD_t, isD_s, isD_L, val_L, val_t, ix_L, ix_t, at_0, at_1, at_2, atI_last, cat_isEmpty, dz, dpos,  List.dropLast_concat, List.reverse_nil, List.reverse_cons, bltD, optInt, itE_def, itD, isRng, bindT, bindT.go, wipe, fold_l, sum_l, cov_W, cov_M, eqD_MWr, eqD_MMr, imm_l, fr_l, fr_i, fr_b, fr_n, fr_s, fr_lst, lenD_l, listD_l, valD_l, revD_l, bckD_l, truth_l, isD_l, isNon_l, add_l, popD_l, appD_l, eqD_I, eqD_W, eqD_M, ixD_l, u_0, u_1, u_2, u_3, u_8, d_0, d_1, d_2, d_3, d_4, d_8, List.getElem?_cons_succ, List.getElem?_cons_zero, List.set_cons_succ, List.set_cons_zero, List.getD_cons_succ, List.getD_cons_zero, List.map_cons, List.map_nil, List.length_cons, List.length_nil, List.append_nil, List.nil_append, List.cons_append, List.replicate_succ, List.replicate_zero, Nat.reduceAdd, Nat.reduceSub, Nat.reduceLeDiff, Nat.reduceLT, Nat.zero_le, Nat.le_refl, ne_eq, not_true_eq_false, not_false_eq_true, Bool.or_self, Bool.or_false, Bool.false_or, Bool.or_true, Bool.true_or, Bool.and_true, Bool.true_and, Bool.and_false, Bool.false_and, Bool.not_true, Bool.not_false, decide_true, decide_false, decide_eq_true_eq, if_true, if_false, ite_true, ite_false, reduceIte, reduceCtorEq, Nat.reduceEqDiff, Nat.succ_ne_zero, Nat.one_ne_zero, small_def, PySem.sizeLine, Nat.reduceMul, beq_self_eq_true, Int.reduceMul, Int.reduceSub, Option.map_some, Option.map_none, true_and, and_true, and_self, Int.reduceNeg, Int.reduceAdd, Int.reduceLT, Int.reduceLE, Int.reducePow, Nat.reducePow, Int.reduceToNat, h1, String.reduceBEq]
theorem ev_is_numbers (n : Nat) (xs : List Int) : Phi prog (n + 2) i__law_is_numbers [eW xs] = some (.bl true, 8, .non) := by
  rw [Phi_succ (fn := F__law_is_numbers) rfl]
  obtain ⟨σ', h1, j, rfl⟩ : ∃ σ', exec (Phi prog (n + 1)) F__law_is_numbers.own F__law_is_numbers.ret (nth F__law_is_numbers.body 1) [some (eW xs, 0), none] = some (.nx σ') ∧ ∃ j, σ' = [some (eW xs, 0), j] := by
    refine x_frQ (fun _ σ => ∃ j, σ = [some (eW xs, 0), j]) D.int xs ?_ ?_ ?_
    · simp only [e_cst, e_var, e_lst, e_tup, e_bin, e_neg, e_cmp, e_chn, e_and, e_or, e_not, e_idx, e_sli, e_bck, e_blt, e_call, es_nil, es_cons, cond_def, aB_t, aB_f, oB_t, oB_f, add_i, sub_i, mul_i, div_i, mod_i, pow_18, c_eq, c_ne, c_lt, c_le, c_gt, c_ge, c_is, c_isn, isNon_n, isNon_i, isNon_b, isNon_t, isNon_L, tr_b, tr_i, tr_n, abs_i, int_i, max_i, min_i, isD_i, isD_b, isD_n, isD_t, isD_s, isD_L, val_L, val_t, ix_L, ix_t, at_0, at_1, at_2, atI_last, cat_isEmpty, dz, dpos,  List.dropLast_concat, List.reverse_nil, List.reverse_cons, bltD, optInt, itE_def, itD, isRng, bindT, bindT.go, wipe, fold_l, sum_l, cov_W, cov_M, eqD_MWr, eqD_MMr, imm_l, fr_l, fr_i, fr_b, fr_n, fr_s, fr_lst, lenD_l, listD_l, valD_l, revD_l, bckD_l, truth_l, isD_l, isNon_l, add_l, popD_l, appD_l, eqD_I, eqD_W, eqD_M, ixD_l, u_0, u_1, u_2, u_3, u_8, d_0, d_1, d_2, d_3, d_4, d_8, List.getElem?_cons_succ, List.getElem?_cons_zero, List.set_cons_succ, List.set_cons_zero, List.getD_cons_succ, List.getD_cons_zero, List.map_cons, List.map_nil, List.length_cons, List.length_nil, List.append_nil, List.nil_append, List.cons_append, List.replicate_succ, List.replicate_zero, Nat.reduceAdd, Nat.reduceSub, Nat.reduceLeDiff, Nat.reduceLT, Nat.zero_le, Nat.le_refl, ne_eq, not_true_eq_false, not_false_eq_true, Bool.or_self, Bool.or_false, Bool.false_or, Bool.or_true, Bool.true_or, Bool.and_true, Bool.true_and, Bool.and_false, Bool.false_and, Bool.not_true, Bool.not_false, decide_true, decide_false, decide_eq_true_eq, if_true, if_false, ite_true, ite_false, reduceIte, reduceCtorEq, Nat.reduceEqDiff, Nat.succ_ne_zero, Nat.one_ne_zero, small_def, PySem.sizeLine, Nat.reduceMul, beq_self_eq_true, Int.reduceMul, Int.reduceSub, Option.map_some, Option.map_none, true_and, and_true, and_self, Int.reduceNeg, Int.reduceAdd, Int.reduceLT, Int.reduceLE, Int.reducePow, Nat.reducePow, Int.reduceToNat]
    · exact ⟨_, rfl⟩
    · rintro a ys zs σ hw ⟨j, rfl⟩
      refine ⟨_, rfl, [some (eW xs, 0), some (.int a, 0)], .inl ?_, _, rfl⟩
      have h := ev_is_number n a
      simp only [F__law_is_numbers, nth, thenS, runR_rt, runR_nx, x_skip, x_seq, x_ite, x_asg, x_par, x_ret, x_retv, x_rett, x_app, x_pop, x_put, x_put2, sq_nx, sq_rt, ic_t, ic_f, setO_one, parO_some, setT, setT.go, setV, esc, esc0, ownd, demote, cov, cov.covL, List.any_cons, List.any_nil, vars, varsS, chgR, chg, pthD, Pth.root, Pth.toE, mvR, RT.slots, minK, e_cst, e_var, e_lst, e_tup, e_bin, e_neg, e_cmp, e_chn, e_and, e_or, e_not, e_idx, e_sli, e_bck, e_blt, e_call, es_nil, es_cons, cond_def, aB_t, aB_f, oB_t, oB_f, add_i, sub_i, mul_i, div_i, mod_i, pow_18, c_eq, c_ne, c_lt, c_le, c_gt, c_ge, c_is, c_isn, isNon_n, isNon_i, isNon_b, isNon_t, isNon_L, tr_b, tr_i, tr_n, abs_i, int_i, max_i, min_i, isD_i, isD_b, isD_n, isD_t, isD_s, isD_L, val_L, val_t, ix_L, ix_t, at_0, at_1, at_2, atI_last, cat_isEmpty, dz, dpos,  List.dropLast_concat, List.reverse_nil, List.reverse_cons, bltD, optInt, itE_def, itD, isRng, bindT, bindT.go, wipe, fold_l, sum_l, cov_W, cov_M, eqD_MWr, eqD_MMr, imm_l, fr_l, fr_i, fr_b, fr_n, fr_s, fr_lst, lenD_l, listD_l, valD_l, revD_l, bckD_l, truth_l, isD_l, isNon_l, add_l, popD_l, appD_l, eqD_I, eqD_W, eqD_M, ixD_l, u_0, u_1, u_2, u_3, u_8, d_0, d_1, d_2, d_3, d_4, d_8, List.getElem?_cons_succ, List.getElem?_cons_zero, List.set_cons_succ, List.set_cons_zero, List.getD_cons_succ, List.getD_cons_zero, List.map_cons, List.map_nil, List.length_cons, List.length_nil, List.append_nil, List.nil_append, List.cons_append, List.replicate_succ, List.replicate_zero, Nat.reduceAdd, Nat.reduceSub, Nat.reduceLeDiff, Nat.reduceLT, Nat.zero_le, Nat.le_refl, ne_eq, not_true_eq_false, not_false_eq_true, Bool.or_self, Bool.or_false, Bool.false_or, Bool.or_true, Bool.true_or, Bool.and_true, Bool.true_and, Bool.and_false, Bool.false_and, Bool.not_true, Bool.not_false, decide_true, decide_false, decide_eq_true_eq, if_true, if_false, ite_true, ite_false, reduceIte, reduceCtorEq, Nat.reduceEqDiff, Nat.succ_ne_zero, Nat.one_ne_zero, small_def, PySem.sizeLine, Nat.reduceMul, beq_self_eq_true, Int.reduceMul, Int.reduceSub, Option.map_some, Option.map_none, true_and, and_true, and_self, Int.reduceNeg, Int.reduceAdd, Int.reduceLT, Int.reduceLE, Int.reducePow, Nat.reducePow, Int.reduceToNat, h]
  exact is_numbers_end _ xs j h1
theorem word_end (Φ : PhiT) (ds ws : List Int) (at' L len : Int) (j5 j6 : Option (D × Nat))
    (h1 : exec Φ F__law_word.own F__law_word.ret (nth F__law_word.body 1) [some (eW ds, 0), some (.int at', 0), some (.int L, 0), some (.int len, 0), some (eW [], 1), none, none] = some (.nx [some (eW ds, 0), some (.int at', 0), some (.int L, 0), some (.int len, 0), some (eW ws, 1), j5, j6])) :
    runF Φ F__law_word [eW ds, .int at', .int L, .int len] = some (eW ws, 1, .non) := by
  simp only [F__law_word, nth] at h1
  rw [runF_of rfl]
  simp only [F__law_word, runR_rt, runR_nx, x_skip, x_seq, x_ite, x_asg, x_par, x_ret, x_retv, x_rett, x_app, x_pop, x_put, x_put2, sq_nx, sq_rt, ic_t, ic_f, setO_one, parO_some, setT, setT.go, setV, esc, esc0, ownd, demote, cov, cov.covL, List.any_cons, List.any_nil, vars, varsS, chgR, chg, pthD, Pth.root, Pth.toE, mvR, RT.slots, minK, e_cst, e_var, e_lst, e_tup, e_bin, e_neg, e_cmp, e_chn, e_and, e_or, e_not, e_idx, e_sli, e_bck, e_blt, e_call, es_nil, es_cons, cond_def, aB_t, aB_f, oB_t, oB_f, add_i, sub_i, mul_i, div_i, mod_i, pow_18, c_eq, c_ne, c_lt, c_le, c_gt, c_ge, c_is, c_isn, isNon_n, isNon_i, isNon_b, isNon_t, isNon_L, tr_b, tr_i, tr_n, abs_i, int_i, max_i, min_i, isD_i, isD_b, isD_n, isD_t, isD_s, isD_L, val_L, val_t, ix_L, ix_t, at_0, at_1, at_2, atI_last, cat_isEmpty, dz, dpos,  List.dropLast_concat, List.reverse_nil, List.reverse_cons, bltD, optInt, itE_def, itD, isRng, bindT, bindT.go, wipe, fold_l, sum_l, cov_W, cov_M, eqD_MWr, eqD_MMr, imm_l, fr_l, fr_i, fr_b, fr_n, fr_s, fr_lst, lenD_l, listD_l, valD_l, revD_l, bckD_l, truth_l, isD_l, isNon_l, add_l, popD_l, appD_l, eqD_I, eqD_W, eqD_M, ixD_l, u_0, u_1, u_2, u_3, u_8, d_0, d_1, d_2, d_3, d_4, d_8, List.getElem?_cons_succ, List.getElem?_cons_zero, List.set_cons_succ, List.set_cons_zero, List.getD_cons_succ, List.getD_cons_zero, List.map_cons, List.map_nil, List.length_cons, List.length_nil, List.append_nil, List.nil_append, List.cons_append, List.replicate_succ, List.replicate_zero, Nat.reduceAdd, Nat.reduceSub, Nat.reduceLeDiff, Nat.reduceLT, Nat.zero_le, Nat.le_refl, ne_eq, not_true_eq_false, not_false_eq_true, Bool.or_self, Bool.or_false, Bool.false_or, Bool.or_true, Bool.true_or, Bool.and_true, Bool.true_and, Bool.and_false, Bool.false_and, Bool.not_true, Bool.not_false, decide_true, decide_false, decide_eq_true_eq, if_true, if_false, ite_true, ite_false, reduceIte, reduceCtorEq, Nat.reduceEqDiff, Nat.succ_ne_zero, Nat.one_ne_zero, small_def, PySem.sizeLine, Nat.reduceMul, beq_self_eq_true, Int.reduceMul, Int.reduceSub, Option.map_some, Option.map_none, true_and, and_true, and_self, Int.reduceNeg, Int.reduceAdd, Int.reduceLT, Int.reduceLE, Int.reducePow, Nat.reducePow, Int.reduceToNat, nil_W D.int, h1]
theorem word_rd (n : Nat) (ds fs : List Int) (at' L len a : Int) (j5 j6 : Option (D × Nat)) (hd : Dr ds) (h0 : 0 < ds.length) (h1 : ds.length ≤ 5000) (a0 : 0 ≤ at' + a) (a1 : at' + a < 1000000000) (hL : 0 < L) (hL' : L ≤ 1000) (hf : fs.length < 16777216) :
    exec (Phi prog (n + 1)) F__law_word.own F__law_word.ret (thenS (nth F__law_word.body 1)) [some (eW ds, 0), some (.int at', 0), some (.int L, 0), some (.int len, 0), some (eW fs, 1), some (.int a, 0), j6] =
      some (.nx [some (eW ds, 0), some (.int at', 0), some (.int L, 0), some (.int len, 0), some (eW (fs ++ [(1 + cellF ds (at' + a) / 3 % (2 * L) / 2) * (1 - 2 * (cellF ds (at' + a) / 3 % (2 * L) % 2))]), 1), some (.int a, 0), some (.int (cellF ds (at' + a) / 3 % (2 * L)), 0)]) := by
  have hc := ev_cell n ds (at' + a) hd h0 h1 a0 a1
  have hg := cellF_rng hd (at' + a)
  generalize cellF ds (at' + a) = c at hc hg ⊢
  have e0 := Int.emod_nonneg (c / 3) (b := 2 * L) (by omega)
  have e1 := Int.emod_lt_of_pos (c / 3) (b := 2 * L) (by omega)
  have d3 : divOk 3 = true := div_ok (by omega) (by omega)
  have d2 : divOk 2 = true := div_ok (by omega) (by omega)
  have m1 : mulOk 2 L = true := mul_ok (by omega) (by omega)
  have hp : 0 < 2 * L := by omega
  simp only [F__law_word, nth, thenS, runR_rt, runR_nx, x_skip, x_seq, x_ite, x_asg, x_par, x_ret, x_retv, x_rett, x_app, x_pop, x_put, x_put2, sq_nx, sq_rt, ic_t, ic_f, setO_one, parO_some, setT, setT.go, setV, esc, esc0, ownd, demote, cov, cov.covL, List.any_cons, List.any_nil, vars, varsS, chgR, chg, pthD, Pth.root, Pth.toE, mvR, RT.slots, minK, e_cst, e_var, e_lst, e_tup, e_bin, e_neg, e_cmp, e_chn, e_and, e_or, e_not, e_idx, e_sli, e_bck, e_blt, e_call, es_nil, es_cons, cond_def, aB_t, aB_f, oB_t, oB_f, add_i, sub_i, mul_i, div_i, mod_i, pow_18, c_eq, c_ne, c_lt, c_le, c_gt, c_ge, c_is, c_isn, isNon_n, isNon_i, isNon_b, isNon_t, isNon_L, tr_b, tr_i, tr_n, abs_i, int_i, max_i, min_i, isD_i, isD_b, isD_n, isD_t, isD_s, isD_L, val_L, val_t, ix_L, ix_t, at_0, at_1, at_2, atI_last, cat_isEmpty, dz, dpos,  List.dropLast_concat, List.reverse_nil, List.reverse_cons, bltD, optInt, itE_def, itD, isRng, bindT, bindT.go, wipe, fold_l, sum_l, cov_W, cov_M, eqD_MWr, eqD_MMr, imm_l, fr_l, fr_i, fr_b, fr_n, fr_s, fr_lst, lenD_l, listD_l, valD_l, revD_l, bckD_l, truth_l, isD_l, isNon_l, add_l, popD_l, appD_l, eqD_I, eqD_W, eqD_M, ixD_l, u_0, u_1, u_2, u_3, u_8, d_0, d_1, d_2, d_3, d_4, d_8, List.getElem?_cons_succ, List.getElem?_cons_zero, List.set_cons_succ, List.set_cons_zero, List.getD_cons_succ, List.getD_cons_zero, List.map_cons, List.map_nil, List.length_cons, List.length_nil, List.append_nil, List.nil_append, List.cons_append, List.replicate_succ, List.replicate_zero, Nat.reduceAdd, Nat.reduceSub, Nat.reduceLeDiff, Nat.reduceLT, Nat.zero_le, Nat.le_refl, ne_eq, not_true_eq_false, not_false_eq_true, Bool.or_self, Bool.or_false, Bool.false_or, Bool.or_true, Bool.true_or, Bool.and_true, Bool.true_and, Bool.and_false, Bool.false_and, Bool.not_true, Bool.not_false, decide_true, decide_false, decide_eq_true_eq, if_true, if_false, ite_true, ite_false, reduceIte, reduceCtorEq, Nat.reduceEqDiff, Nat.succ_ne_zero, Nat.one_ne_zero, small_def, PySem.sizeLine, Nat.reduceMul, beq_self_eq_true, Int.reduceMul, Int.reduceSub, Option.map_some, Option.map_none, true_and, and_true, and_self, Int.reduceNeg, Int.reduceAdd, Int.reduceLT, Int.reduceLE, Int.reducePow, Nat.reducePow, Int.reduceToNat, hc, d3, m1, hp]
  generalize c / 3 % (2 * L) = e at e0 e1 ⊢
  have m2 : mulOk 2 (e % 2) = true := mul_ok (by omega) (by omega)
  have m3 : mulOk (1 + e / 2) (1 - 2 * (e % 2)) = true := mul_ok (by omega) (by omega)
  simp only [runR_rt, runR_nx, x_skip, x_seq, x_ite, x_asg, x_par, x_ret, x_retv, x_rett, x_app, x_pop, x_put, x_put2, sq_nx, sq_rt, ic_t, ic_f, setO_one, parO_some, setT, setT.go, setV, esc, esc0, ownd, demote, cov, cov.covL, List.any_cons, List.any_nil, vars, varsS, chgR, chg, pthD, Pth.root, Pth.toE, mvR, RT.slots, minK, e_cst, e_var, e_lst, e_tup, e_bin, e_neg, e_cmp, e_chn, e_and, e_or, e_not, e_idx, e_sli, e_bck, e_blt, e_call, es_nil, es_cons, cond_def, aB_t, aB_f, oB_t, oB_f, add_i, sub_i, mul_i, div_i, mod_i, pow_18, c_eq, c_ne, c_lt, c_le, c_gt, c_ge, c_is, c_isn, isNon_n, isNon_i, isNon_b, isNon_t, isNon_L, tr_b, tr_i, tr_n, abs_i, int_i, max_i, min_i, isD_i, isD_b, isD_n, isD_t, isD_s, isD_L, val_L, val_t, ix_L, ix_t, at_0, at_1, at_2, atI_last, cat_isEmpty, dz, dpos,  List.dropLast_concat, List.reverse_nil, List.reverse_cons, bltD, optInt, itE_def, itD, isRng, bindT, bindT.go, wipe, fold_l, sum_l, cov_W, cov_M, eqD_MWr, eqD_MMr, imm_l, fr_l, fr_i, fr_b, fr_n, fr_s, fr_lst, lenD_l, listD_l, valD_l, revD_l, bckD_l, truth_l, isD_l, isNon_l, add_l, popD_l, appD_l, eqD_I, eqD_W, eqD_M, ixD_l, u_0, u_1, u_2, u_3, u_8, d_0, d_1, d_2, d_3, d_4, d_8, List.getElem?_cons_succ, List.getElem?_cons_zero, List.set_cons_succ, List.set_cons_zero, List.getD_cons_succ, List.getD_cons_zero, List.map_cons, List.map_nil, List.length_cons, List.length_nil, List.append_nil, List.nil_append, List.cons_append, List.replicate_succ, List.replicate_zero, Nat.reduceAdd, Nat.reduceSub, Nat.reduceLeDiff, Nat.reduceLT, Nat.zero_le, Nat.le_refl, ne_eq, not_true_eq_false, not_false_eq_true, Bool.or_self, Bool.or_false, Bool.false_or, Bool.or_true, Bool.true_or, Bool.and_true, Bool.true_and, Bool.and_false, Bool.false_and, Bool.not_true, Bool.not_false, decide_true, decide_false, decide_eq_true_eq, if_true, if_false, ite_true, ite_false, reduceIte, reduceCtorEq, Nat.reduceEqDiff, Nat.succ_ne_zero, Nat.one_ne_zero, small_def, PySem.sizeLine, Nat.reduceMul, beq_self_eq_true, Int.reduceMul, Int.reduceSub, Option.map_some, Option.map_none, true_and, and_true, and_self, Int.reduceNeg, Int.reduceAdd, Int.reduceLT, Int.reduceLE, Int.reducePow, Nat.reducePow, Int.reduceToNat, d2, m2, m3, hf]
theorem ev_word (n : Nat) (ds : List Int) (at' L len : Int) (hd : Dr ds) (h0 : 0 < ds.length) (h1 : ds.length ≤ 5000) (a0 : 0 ≤ at') (a1 : at' ≤ 10000000) (hL : 0 < L) (hL' : L ≤ 1000) (l0 : 0 ≤ len) (l1 : len ≤ 1000000) : Phi prog (n + 2) i__law_word [eW ds, .int at', .int L, .int len] = some (eW (wordF ds at' L len), 1, .non) := by
  rw [Phi_succ (fn := F__law_word) rfl]
  obtain ⟨σ', g1, ⟨j5, j6, rfl⟩, -⟩ : ∃ σ', exec (Phi prog (n + 1)) F__law_word.own F__law_word.ret (nth F__law_word.body 1) [some (eW ds, 0), some (.int at', 0), some (.int L, 0), some (.int len, 0), some (eW [], 1), none, none] = some (.nx σ') ∧
      (∃ j5 j6, σ' = [some (eW ds, 0), some (.int at', 0), some (.int L, 0), some (.int len, 0), some (eW ((List.range len.toNat).foldl (fun b k => b ++ [letF ds at' L k]) []), 1), j5, j6]) ∧ ((List.range len.toNat).foldl (fun b k => b ++ [letF ds at' L k]) []).length = (List.range len.toNat).length := by
    refine x_frP (fun b σ => ∃ j5 j6, σ = [some (eW ds, 0), some (.int at', 0), some (.int L, 0), some (.int len, 0), some (eW b, 1), j5, j6]) (fun ys b => b.length = ys.length) (fun b k => b ++ [letF ds at' L k]) (fun i : Nat => .int (0 + (i : Int))) (List.range len.toNat) [] ?_ ?_ rfl ?_
    · simp only [e_cst, e_var, e_lst, e_tup, e_bin, e_neg, e_cmp, e_chn, e_and, e_or, e_not, e_idx, e_sli, e_bck, e_blt, e_call, es_nil, es_cons, cond_def, aB_t, aB_f, oB_t, oB_f, add_i, sub_i, mul_i, div_i, mod_i, pow_18, c_eq, c_ne, c_lt, c_le, c_gt, c_ge, c_is, c_isn, isNon_n, isNon_i, isNon_b, isNon_t, isNon_L, tr_b, tr_i, tr_n, abs_i, int_i, max_i, min_i, isD_i, isD_b, isD_n, isD_t, isD_s, isD_L, val_L, val_t, ix_L, ix_t, at_0, at_1, at_2, atI_last, cat_isEmpty, dz, dpos,  List.dropLast_concat, List.reverse_nil, List.reverse_cons, bltD, optInt, itE_def, itD, isRng, bindT, bindT.go, wipe, fold_l, sum_l, cov_W, cov_M, eqD_MWr, eqD_MMr, imm_l, fr_l, fr_i, fr_b, fr_n, fr_s, fr_lst, lenD_l, listD_l, valD_l, revD_l, bckD_l, truth_l, isD_l, isNon_l, add_l, popD_l, appD_l, eqD_I, eqD_W, eqD_M, ixD_l, u_0, u_1, u_2, u_3, u_8, d_0, d_1, d_2, d_3, d_4, d_8, List.getElem?_cons_succ, List.getElem?_cons_zero, List.set_cons_succ, List.set_cons_zero, List.getD_cons_succ, List.getD_cons_zero, List.map_cons, List.map_nil, List.length_cons, List.length_nil, List.append_nil, List.nil_append, List.cons_append, List.replicate_succ, List.replicate_zero, Nat.reduceAdd, Nat.reduceSub, Nat.reduceLeDiff, Nat.reduceLT, Nat.zero_le, Nat.le_refl, ne_eq, not_true_eq_false, not_false_eq_true, Bool.or_self, Bool.or_false, Bool.false_or, Bool.or_true, Bool.true_or, Bool.and_true, Bool.true_and, Bool.and_false, Bool.false_and, Bool.not_true, Bool.not_false, decide_true, decide_false, decide_eq_true_eq, if_true, if_false, ite_true, ite_false, reduceIte, reduceCtorEq, Nat.reduceEqDiff, Nat.succ_ne_zero, Nat.one_ne_zero, small_def, PySem.sizeLine, Nat.reduceMul, beq_self_eq_true, Int.reduceMul, Int.reduceSub, Option.map_some, Option.map_none, true_and, and_true, and_self, Int.reduceNeg, Int.reduceAdd, Int.reduceLT, Int.reduceLE, Int.reducePow, Nat.reducePow, Int.reduceToNat, rng1_v len (by omega) l0]
    · exact ⟨_, _, rfl⟩
    · rintro a ys zs b σ hw hl ⟨j5, j6, rfl⟩
      have hm := mem_of_split hw
      have hm2 := len_of_split hw
      rw [List.mem_range] at hm
      rw [List.length_range] at hm2
      refine ⟨⟨_, rfl, _, .inl (word_rd n ds b at' L len (0 + (a : Int)) (some (.int (0 + (a : Int)), 0)) j6 hd h0 h1 (by omega) (by omega) hL hL' (by omega)), _, _, rfl⟩, by simp [hl]⟩
  rw [fold_app] at g1
  exact word_end _ ds _ at' L len j5 j6 g1
end LW

namespace LW
open PD


theorem short_end (Φ : PhiT) (xs ws : List Int) (j : Option (D × Nat))
    (h1 : exec Φ F__law_short.own F__law_short.ret (nth F__law_short.body 1) [some (eW xs, 0), some (eW [], 1), none] = some (.nx [some (eW xs, 0), some (eW ws, 1), j])) : runF Φ F__law_short [eW xs] = some (eW ws, 1, .non) := by
  simp only [F__law_short, nth] at h1
  rw [runF_of rfl]
  simp only [F__law_short, runR_rt, runR_nx, x_skip, x_seq, x_ite, x_asg, x_par, x_ret, x_retv, x_rett, x_app, x_pop, x_put, x_put2, sq_nx, sq_rt, ic_t, ic_f, setO_one, parO_some, setT, setT.go, setV, esc, esc0, ownd, demote, cov, cov.covL, List.any_cons, List.any_nil, vars, varsS, chgR, chg, pthD, Pth.root, Pth.toE, mvR, RT.slots, minK, e_cst, e_var, e_lst, e_tup, e_bin, e_neg, e_cmp, e_chn, e_and, e_or, e_not, e_idx, e_sli, e_bck, e_blt, e_call, es_nil, es_cons, cond_def, aB_t, aB_f, oB_t, oB_f, add_i, sub_i, mul_i, div_i, mod_i, pow_18, c_eq, c_ne, c_lt, c_le, c_gt, c_ge, c_is, c_isn, isNon_n, isNon_i, isNon_b, isNon_t, isNon_L, tr_b, tr_i, tr_n, abs_i, int_i, max_i, min_i, isD_i, isD_b, isD_n, isD_t, isD_s, isD_L, val_L, val_t, ix_L, ix_t, at_0, at_1, at_2, atI_last, cat_isEmpty, dz, dpos,  List.dropLast_concat, List.reverse_nil, List.reverse_cons, bltD, optInt, itE_def, itD, isRng, bindT, bindT.go, wipe, fold_l, sum_l, cov_W, cov_M, eqD_MWr, eqD_MMr, imm_l, fr_l, fr_i, fr_b, fr_n, fr_s, fr_lst, lenD_l, listD_l, valD_l, revD_l, bckD_l, truth_l, isD_l, isNon_l, add_l, popD_l, appD_l, eqD_I, eqD_W, eqD_M, ixD_l, u_0, u_1, u_2, u_3, u_8, d_0, d_1, d_2, d_3, d_4, d_8, List.getElem?_cons_succ, List.getElem?_cons_zero, List.set_cons_succ, List.set_cons_zero, List.getD_cons_succ, List.getD_cons_zero, List.map_cons, List.map_nil, List.length_cons, List.length_nil, List.append_nil, List.nil_append, List.cons_append, List.replicate_succ, List.replicate_zero, Nat.reduceAdd, Nat.reduceSub, Nat.reduceLeDiff, Nat.reduceLT, Nat.zero_le, Nat.le_refl, ne_eq, not_true_eq_false, not_false_eq_true, Bool.or_self, Bool.or_false, Bool.false_or, Bool.or_true, Bool.true_or, Bool.and_true, Bool.true_and, Bool.and_false, Bool.false_and, Bool.not_true, Bool.not_false, decide_true, decide_false, decide_eq_true_eq, if_true, if_false, ite_true, ite_false, reduceIte, reduceCtorEq, Nat.reduceEqDiff, Nat.succ_ne_zero, Nat.one_ne_zero, small_def, PySem.sizeLine, Nat.reduceMul, beq_self_eq_true, Int.reduceMul, Int.reduceSub, Option.map_some, Option.map_none, true_and, and_true, and_self, Int.reduceNeg, Int.reduceAdd, Int.reduceLT, Int.reduceLE, Int.reducePow, Nat.reducePow, Int.reduceToNat, nil_W D.int, h1]
theorem ev_short (n : Nat) (xs : List Int) (hx : xs.length ≤ 16777216) : Phi prog (n + 1) i__law_short [eW xs] = some (eW (red xs), 1, .non) := by
  rw [Phi_succ (fn := F__law_short) rfl]
  obtain ⟨σ', h1, ⟨j, rfl⟩, -⟩ : ∃ σ', exec (Phi prog n) F__law_short.own F__law_short.ret (nth F__law_short.body 1) [some (eW xs, 0), some (eW [], 1), none] = some (.nx σ') ∧ ((∃ j, σ' = [some (eW xs, 0), some (eW (xs.foldl push []).reverse, 1), j])) ∧ (xs.foldl push []).length ≤ xs.length := by
    refine x_frP (fun (s : List Int) σ => ∃ j, σ = [some (eW xs, 0), some (eW s.reverse, 1), j]) (fun ys s => s.length ≤ ys.length) push D.int xs [] ?_ ?_ (by simp) ?_
    · simp only [e_cst, e_var, e_lst, e_tup, e_bin, e_neg, e_cmp, e_chn, e_and, e_or, e_not, e_idx, e_sli, e_bck, e_blt, e_call, es_nil, es_cons, cond_def, aB_t, aB_f, oB_t, oB_f, add_i, sub_i, mul_i, div_i, mod_i, pow_18, c_eq, c_ne, c_lt, c_le, c_gt, c_ge, c_is, c_isn, isNon_n, isNon_i, isNon_b, isNon_t, isNon_L, tr_b, tr_i, tr_n, abs_i, int_i, max_i, min_i, isD_i, isD_b, isD_n, isD_t, isD_s, isD_L, val_L, val_t, ix_L, ix_t, at_0, at_1, at_2, atI_last, cat_isEmpty, dz, dpos,  List.dropLast_concat, List.reverse_nil, List.reverse_cons, bltD, optInt, itE_def, itD, isRng, bindT, bindT.go, wipe, fold_l, sum_l, cov_W, cov_M, eqD_MWr, eqD_MMr, imm_l, fr_l, fr_i, fr_b, fr_n, fr_s, fr_lst, lenD_l, listD_l, valD_l, revD_l, bckD_l, truth_l, isD_l, isNon_l, add_l, popD_l, appD_l, eqD_I, eqD_W, eqD_M, ixD_l, u_0, u_1, u_2, u_3, u_8, d_0, d_1, d_2, d_3, d_4, d_8, List.getElem?_cons_succ, List.getElem?_cons_zero, List.set_cons_succ, List.set_cons_zero, List.getD_cons_succ, List.getD_cons_zero, List.map_cons, List.map_nil, List.length_cons, List.length_nil, List.append_nil, List.nil_append, List.cons_append, List.replicate_succ, List.replicate_zero, Nat.reduceAdd, Nat.reduceSub, Nat.reduceLeDiff, Nat.reduceLT, Nat.zero_le, Nat.le_refl, ne_eq, not_true_eq_false, not_false_eq_true, Bool.or_self, Bool.or_false, Bool.false_or, Bool.or_true, Bool.true_or, Bool.and_true, Bool.true_and, Bool.and_false, Bool.false_and, Bool.not_true, Bool.not_false, decide_true, decide_false, decide_eq_true_eq, if_true, if_false, ite_true, ite_false, reduceIte, reduceCtorEq, Nat.reduceEqDiff, Nat.succ_ne_zero, Nat.one_ne_zero, small_def, PySem.sizeLine, Nat.reduceMul, beq_self_eq_true, Int.reduceMul, Int.reduceSub, Option.map_some, Option.map_none, true_and, and_true, and_self, Int.reduceNeg, Int.reduceAdd, Int.reduceLT, Int.reduceLE, Int.reducePow, Nat.reducePow, Int.reduceToNat]
    · exact ⟨_, rfl⟩
    · rintro a ys zs b σ hw hl ⟨j, rfl⟩
      have hp := push_length b a
      have hw := congrArg List.length hw
      simp at hw
      refine ⟨⟨_, rfl, [some (eW xs, 0), some (eW (push b a).reverse, 1), some (.int a, 0)], .inl ?_, _, rfl⟩, by simp; omega⟩
      cases b with
      | nil => simp only [F__law_short, runR_rt, runR_nx, x_skip, x_seq, x_ite, x_asg, x_par, x_ret, x_retv, x_rett, x_app, x_pop, x_put, x_put2, sq_nx, sq_rt, ic_t, ic_f, setO_one, parO_some, setT, setT.go, setV, esc, esc0, ownd, demote, cov, cov.covL, List.any_cons, List.any_nil, vars, varsS, chgR, chg, pthD, Pth.root, Pth.toE, mvR, RT.slots, minK, e_cst, e_var, e_lst, e_tup, e_bin, e_neg, e_cmp, e_chn, e_and, e_or, e_not, e_idx, e_sli, e_bck, e_blt, e_call, es_nil, es_cons, cond_def, aB_t, aB_f, oB_t, oB_f, add_i, sub_i, mul_i, div_i, mod_i, pow_18, c_eq, c_ne, c_lt, c_le, c_gt, c_ge, c_is, c_isn, isNon_n, isNon_i, isNon_b, isNon_t, isNon_L, tr_b, tr_i, tr_n, abs_i, int_i, max_i, min_i, isD_i, isD_b, isD_n, isD_t, isD_s, isD_L, val_L, val_t, ix_L, ix_t, at_0, at_1, at_2, atI_last, cat_isEmpty, dz, dpos,  List.dropLast_concat, List.reverse_nil, List.reverse_cons, bltD, optInt, itE_def, itD, isRng, bindT, bindT.go, wipe, fold_l, sum_l, cov_W, cov_M, eqD_MWr, eqD_MMr, imm_l, fr_l, fr_i, fr_b, fr_n, fr_s, fr_lst, lenD_l, listD_l, valD_l, revD_l, bckD_l, truth_l, isD_l, isNon_l, add_l, popD_l, appD_l, eqD_I, eqD_W, eqD_M, ixD_l, u_0, u_1, u_2, u_3, u_8, d_0, d_1, d_2, d_3, d_4, d_8, List.getElem?_cons_succ, List.getElem?_cons_zero, List.set_cons_succ, List.set_cons_zero, List.getD_cons_succ, List.getD_cons_zero, List.map_cons, List.map_nil, List.length_cons, List.length_nil, List.append_nil, List.nil_append, List.cons_append, List.replicate_succ, List.replicate_zero, Nat.reduceAdd, Nat.reduceSub, Nat.reduceLeDiff, Nat.reduceLT, Nat.zero_le, Nat.le_refl, ne_eq, not_true_eq_false, not_false_eq_true, Bool.or_self, Bool.or_false, Bool.false_or, Bool.or_true, Bool.true_or, Bool.and_true, Bool.true_and, Bool.and_false, Bool.false_and, Bool.not_true, Bool.not_false, decide_true, decide_false, decide_eq_true_eq, if_true, if_false, ite_true, ite_false, reduceIte, reduceCtorEq, Nat.reduceEqDiff, Nat.succ_ne_zero, Nat.one_ne_zero, small_def, PySem.sizeLine, Nat.reduceMul, beq_self_eq_true, Int.reduceMul, Int.reduceSub, Option.map_some, Option.map_none, true_and, and_true, and_self, Int.reduceNeg, Int.reduceAdd, Int.reduceLT, Int.reduceLE, Int.reducePow, Nat.reducePow, Int.reduceToNat, nil_W D.int, push_nil]
      | cons y t =>
        have hne : decide (t.reverse ++ [y] = []) = false := decide_eq_false (by simp)
        by_cases h : y = -a
        · simp only [F__law_short, runR_rt, runR_nx, x_skip, x_seq, x_ite, x_asg, x_par, x_ret, x_retv, x_rett, x_app, x_pop, x_put, x_put2, sq_nx, sq_rt, ic_t, ic_f, setO_one, parO_some, setT, setT.go, setV, esc, esc0, ownd, demote, cov, cov.covL, List.any_cons, List.any_nil, vars, varsS, chgR, chg, pthD, Pth.root, Pth.toE, mvR, RT.slots, minK, e_cst, e_var, e_lst, e_tup, e_bin, e_neg, e_cmp, e_chn, e_and, e_or, e_not, e_idx, e_sli, e_bck, e_blt, e_call, es_nil, es_cons, cond_def, aB_t, aB_f, oB_t, oB_f, add_i, sub_i, mul_i, div_i, mod_i, pow_18, c_eq, c_ne, c_lt, c_le, c_gt, c_ge, c_is, c_isn, isNon_n, isNon_i, isNon_b, isNon_t, isNon_L, tr_b, tr_i, tr_n, abs_i, int_i, max_i, min_i, isD_i, isD_b, isD_n, isD_t, isD_s, isD_L, val_L, val_t, ix_L, ix_t, at_0, at_1, at_2, atI_last, cat_isEmpty, dz, dpos,  List.dropLast_concat, List.reverse_nil, List.reverse_cons, bltD, optInt, itE_def, itD, isRng, bindT, bindT.go, wipe, fold_l, sum_l, cov_W, cov_M, eqD_MWr, eqD_MMr, imm_l, fr_l, fr_i, fr_b, fr_n, fr_s, fr_lst, lenD_l, listD_l, valD_l, revD_l, bckD_l, truth_l, isD_l, isNon_l, add_l, popD_l, appD_l, eqD_I, eqD_W, eqD_M, ixD_l, u_0, u_1, u_2, u_3, u_8, d_0, d_1, d_2, d_3, d_4, d_8, List.getElem?_cons_succ, List.getElem?_cons_zero, List.set_cons_succ, List.set_cons_zero, List.getD_cons_succ, List.getD_cons_zero, List.map_cons, List.map_nil, List.length_cons, List.length_nil, List.append_nil, List.nil_append, List.cons_append, List.replicate_succ, List.replicate_zero, Nat.reduceAdd, Nat.reduceSub, Nat.reduceLeDiff, Nat.reduceLT, Nat.zero_le, Nat.le_refl, ne_eq, not_true_eq_false, not_false_eq_true, Bool.or_self, Bool.or_false, Bool.false_or, Bool.or_true, Bool.true_or, Bool.and_true, Bool.true_and, Bool.and_false, Bool.false_and, Bool.not_true, Bool.not_false, decide_true, decide_false, decide_eq_true_eq, if_true, if_false, ite_true, ite_false, reduceIte, reduceCtorEq, Nat.reduceEqDiff, Nat.succ_ne_zero, Nat.one_ne_zero, small_def, PySem.sizeLine, Nat.reduceMul, beq_self_eq_true, Int.reduceMul, Int.reduceSub, Option.map_some, Option.map_none, true_and, and_true, and_self, Int.reduceNeg, Int.reduceAdd, Int.reduceLT, Int.reduceLE, Int.reducePow, Nat.reducePow, Int.reduceToNat, nil_W D.int, push_cons, if_pos h, decide_eq_true h, hne]
        · have hb : (t.reverse ++ [y]).length < 16777216 := by simp at hl ⊢; omega
          simp only [F__law_short, runR_rt, runR_nx, x_skip, x_seq, x_ite, x_asg, x_par, x_ret, x_retv, x_rett, x_app, x_pop, x_put, x_put2, sq_nx, sq_rt, ic_t, ic_f, setO_one, parO_some, setT, setT.go, setV, esc, esc0, ownd, demote, cov, cov.covL, List.any_cons, List.any_nil, vars, varsS, chgR, chg, pthD, Pth.root, Pth.toE, mvR, RT.slots, minK, e_cst, e_var, e_lst, e_tup, e_bin, e_neg, e_cmp, e_chn, e_and, e_or, e_not, e_idx, e_sli, e_bck, e_blt, e_call, es_nil, es_cons, cond_def, aB_t, aB_f, oB_t, oB_f, add_i, sub_i, mul_i, div_i, mod_i, pow_18, c_eq, c_ne, c_lt, c_le, c_gt, c_ge, c_is, c_isn, isNon_n, isNon_i, isNon_b, isNon_t, isNon_L, tr_b, tr_i, tr_n, abs_i, int_i, max_i, min_i, isD_i, isD_b, isD_n, isD_t, isD_s, isD_L, val_L, val_t, ix_L, ix_t, at_0, at_1, at_2, atI_last, cat_isEmpty, dz, dpos,  List.dropLast_concat, List.reverse_nil, List.reverse_cons, bltD, optInt, itE_def, itD, isRng, bindT, bindT.go, wipe, fold_l, sum_l, cov_W, cov_M, eqD_MWr, eqD_MMr, imm_l, fr_l, fr_i, fr_b, fr_n, fr_s, fr_lst, lenD_l, listD_l, valD_l, revD_l, bckD_l, truth_l, isD_l, isNon_l, add_l, popD_l, appD_l, eqD_I, eqD_W, eqD_M, ixD_l, u_0, u_1, u_2, u_3, u_8, d_0, d_1, d_2, d_3, d_4, d_8, List.getElem?_cons_succ, List.getElem?_cons_zero, List.set_cons_succ, List.set_cons_zero, List.getD_cons_succ, List.getD_cons_zero, List.map_cons, List.map_nil, List.length_cons, List.length_nil, List.append_nil, List.nil_append, List.cons_append, List.replicate_succ, List.replicate_zero, Nat.reduceAdd, Nat.reduceSub, Nat.reduceLeDiff, Nat.reduceLT, Nat.zero_le, Nat.le_refl, ne_eq, not_true_eq_false, not_false_eq_true, Bool.or_self, Bool.or_false, Bool.false_or, Bool.or_true, Bool.true_or, Bool.and_true, Bool.true_and, Bool.and_false, Bool.false_and, Bool.not_true, Bool.not_false, decide_true, decide_false, decide_eq_true_eq, if_true, if_false, ite_true, ite_false, reduceIte, reduceCtorEq, Nat.reduceEqDiff, Nat.succ_ne_zero, Nat.one_ne_zero, small_def, PySem.sizeLine, Nat.reduceMul, beq_self_eq_true, Int.reduceMul, Int.reduceSub, Option.map_some, Option.map_none, true_and, and_true, and_self, Int.reduceNeg, Int.reduceAdd, Int.reduceLT, Int.reduceLE, Int.reducePow, Nat.reducePow, Int.reduceToNat, nil_W D.int, push_cons, if_neg h, decide_eq_false h, hb, hne]
  exact short_end _ xs _ j h1
theorem ev_back (n : Nat) (xs : List Int) (hx : xs.length ≤ 16777216) : Phi prog (n + 1) i__law_back [eW xs] = some (eW (back xs), 8, .non) := by
  rw [Phi_succ (fn := F__law_back) rfl]
  have L : evalE (Phi prog n) (retE (nth F__law_back.body 0)) [some (eW xs, 0), none, none] = some (eW (xs.reverse.map fun x => -x), up 8) := by
    refine e_mapF D.int D.int (fun x => -x) xs.reverse ?_ (by simpa using hx) ?_
    · simp only [e_cst, e_var, e_lst, e_tup, e_bin, e_neg, e_cmp, e_chn, e_and, e_or, e_not, e_idx, e_sli, e_bck, e_blt, e_call, es_nil, es_cons, cond_def, aB_t, aB_f, oB_t, oB_f, add_i, sub_i, mul_i, div_i, mod_i, pow_18, c_eq, c_ne, c_lt, c_le, c_gt, c_ge, c_is, c_isn, isNon_n, isNon_i, isNon_b, isNon_t, isNon_L, tr_b, tr_i, tr_n, abs_i, int_i, max_i, min_i, isD_i, isD_b, isD_n, isD_t, isD_s, isD_L, val_L, val_t, ix_L, ix_t, at_0, at_1, at_2, atI_last, cat_isEmpty, dz, dpos,  List.dropLast_concat, List.reverse_nil, List.reverse_cons, bltD, optInt, itE_def, itD, isRng, bindT, bindT.go, wipe, fold_l, sum_l, cov_W, cov_M, eqD_MWr, eqD_MMr, imm_l, fr_l, fr_i, fr_b, fr_n, fr_s, fr_lst, lenD_l, listD_l, valD_l, revD_l, bckD_l, truth_l, isD_l, isNon_l, add_l, popD_l, appD_l, eqD_I, eqD_W, eqD_M, ixD_l, u_0, u_1, u_2, u_3, u_8, d_0, d_1, d_2, d_3, d_4, d_8, List.getElem?_cons_succ, List.getElem?_cons_zero, List.set_cons_succ, List.set_cons_zero, List.getD_cons_succ, List.getD_cons_zero, List.map_cons, List.map_nil, List.length_cons, List.length_nil, List.append_nil, List.nil_append, List.cons_append, List.replicate_succ, List.replicate_zero, Nat.reduceAdd, Nat.reduceSub, Nat.reduceLeDiff, Nat.reduceLT, Nat.zero_le, Nat.le_refl, ne_eq, not_true_eq_false, not_false_eq_true, Bool.or_self, Bool.or_false, Bool.false_or, Bool.or_true, Bool.true_or, Bool.and_true, Bool.true_and, Bool.and_false, Bool.false_and, Bool.not_true, Bool.not_false, decide_true, decide_false, decide_eq_true_eq, if_true, if_false, ite_true, ite_false, reduceIte, reduceCtorEq, Nat.reduceEqDiff, Nat.succ_ne_zero, Nat.one_ne_zero, small_def, PySem.sizeLine, Nat.reduceMul, beq_self_eq_true, Int.reduceMul, Int.reduceSub, Option.map_some, Option.map_none, true_and, and_true, and_self, Int.reduceNeg, Int.reduceAdd, Int.reduceLT, Int.reduceLE, Int.reducePow, Nat.reducePow, Int.reduceToNat]
    · intro a ha
      simp only [cmB_def, runR_rt, runR_nx, x_skip, x_seq, x_ite, x_asg, x_par, x_ret, x_retv, x_rett, x_app, x_pop, x_put, x_put2, sq_nx, sq_rt, ic_t, ic_f, setO_one, parO_some, setT, setT.go, setV, esc, esc0, ownd, demote, cov, cov.covL, List.any_cons, List.any_nil, vars, varsS, chgR, chg, pthD, Pth.root, Pth.toE, mvR, RT.slots, minK, e_cst, e_var, e_lst, e_tup, e_bin, e_neg, e_cmp, e_chn, e_and, e_or, e_not, e_idx, e_sli, e_bck, e_blt, e_call, es_nil, es_cons, cond_def, aB_t, aB_f, oB_t, oB_f, add_i, sub_i, mul_i, div_i, mod_i, pow_18, c_eq, c_ne, c_lt, c_le, c_gt, c_ge, c_is, c_isn, isNon_n, isNon_i, isNon_b, isNon_t, isNon_L, tr_b, tr_i, tr_n, abs_i, int_i, max_i, min_i, isD_i, isD_b, isD_n, isD_t, isD_s, isD_L, val_L, val_t, ix_L, ix_t, at_0, at_1, at_2, atI_last, cat_isEmpty, dz, dpos,  List.dropLast_concat, List.reverse_nil, List.reverse_cons, bltD, optInt, itE_def, itD, isRng, bindT, bindT.go, wipe, fold_l, sum_l, cov_W, cov_M, eqD_MWr, eqD_MMr, imm_l, fr_l, fr_i, fr_b, fr_n, fr_s, fr_lst, lenD_l, listD_l, valD_l, revD_l, bckD_l, truth_l, isD_l, isNon_l, add_l, popD_l, appD_l, eqD_I, eqD_W, eqD_M, ixD_l, u_0, u_1, u_2, u_3, u_8, d_0, d_1, d_2, d_3, d_4, d_8, List.getElem?_cons_succ, List.getElem?_cons_zero, List.set_cons_succ, List.set_cons_zero, List.getD_cons_succ, List.getD_cons_zero, List.map_cons, List.map_nil, List.length_cons, List.length_nil, List.append_nil, List.nil_append, List.cons_append, List.replicate_succ, List.replicate_zero, Nat.reduceAdd, Nat.reduceSub, Nat.reduceLeDiff, Nat.reduceLT, Nat.zero_le, Nat.le_refl, ne_eq, not_true_eq_false, not_false_eq_true, Bool.or_self, Bool.or_false, Bool.false_or, Bool.or_true, Bool.true_or, Bool.and_true, Bool.true_and, Bool.and_false, Bool.false_and, Bool.not_true, Bool.not_false, decide_true, decide_false, decide_eq_true_eq, if_true, if_false, ite_true, ite_false, reduceIte, reduceCtorEq, Nat.reduceEqDiff, Nat.succ_ne_zero, Nat.one_ne_zero, small_def, PySem.sizeLine, Nat.reduceMul, beq_self_eq_true, Int.reduceMul, Int.reduceSub, Option.map_some, Option.map_none, true_and, and_true, and_self, Int.reduceNeg, Int.reduceAdd, Int.reduceLT, Int.reduceLE, Int.reducePow, Nat.reducePow, Int.reduceToNat]
  exact runF_ret (f := F__law_back) rfl rfl L (by decide)
theorem ev_copied (n : Nat) (xs : List (List Int)) (hx : xs.length ≤ 16777216) : Phi prog (n + 1) i__law_copied [eM xs] = some (eM xs, 2, .non) := by
  rw [Phi_succ (fn := F__law_copied) rfl]
  have L : evalE (Phi prog n) (retE (nth F__law_copied.body 0)) [some (eM xs, 0), none, none] = some (eM (xs.map fun x => x), up 1) := by
    refine e_mapF eW eW (fun x => x) xs ?_ hx ?_
    · simp only [e_cst, e_var, e_lst, e_tup, e_bin, e_neg, e_cmp, e_chn, e_and, e_or, e_not, e_idx, e_sli, e_bck, e_blt, e_call, es_nil, es_cons, cond_def, aB_t, aB_f, oB_t, oB_f, add_i, sub_i, mul_i, div_i, mod_i, pow_18, c_eq, c_ne, c_lt, c_le, c_gt, c_ge, c_is, c_isn, isNon_n, isNon_i, isNon_b, isNon_t, isNon_L, tr_b, tr_i, tr_n, abs_i, int_i, max_i, min_i, isD_i, isD_b, isD_n, isD_t, isD_s, isD_L, val_L, val_t, ix_L, ix_t, at_0, at_1, at_2, atI_last, cat_isEmpty, dz, dpos,  List.dropLast_concat, List.reverse_nil, List.reverse_cons, bltD, optInt, itE_def, itD, isRng, bindT, bindT.go, wipe, fold_l, sum_l, cov_W, cov_M, eqD_MWr, eqD_MMr, imm_l, fr_l, fr_i, fr_b, fr_n, fr_s, fr_lst, lenD_l, listD_l, valD_l, revD_l, bckD_l, truth_l, isD_l, isNon_l, add_l, popD_l, appD_l, eqD_I, eqD_W, eqD_M, ixD_l, u_0, u_1, u_2, u_3, u_8, d_0, d_1, d_2, d_3, d_4, d_8, List.getElem?_cons_succ, List.getElem?_cons_zero, List.set_cons_succ, List.set_cons_zero, List.getD_cons_succ, List.getD_cons_zero, List.map_cons, List.map_nil, List.length_cons, List.length_nil, List.append_nil, List.nil_append, List.cons_append, List.replicate_succ, List.replicate_zero, Nat.reduceAdd, Nat.reduceSub, Nat.reduceLeDiff, Nat.reduceLT, Nat.zero_le, Nat.le_refl, ne_eq, not_true_eq_false, not_false_eq_true, Bool.or_self, Bool.or_false, Bool.false_or, Bool.or_true, Bool.true_or, Bool.and_true, Bool.true_and, Bool.and_false, Bool.false_and, Bool.not_true, Bool.not_false, decide_true, decide_false, decide_eq_true_eq, if_true, if_false, ite_true, ite_false, reduceIte, reduceCtorEq, Nat.reduceEqDiff, Nat.succ_ne_zero, Nat.one_ne_zero, small_def, PySem.sizeLine, Nat.reduceMul, beq_self_eq_true, Int.reduceMul, Int.reduceSub, Option.map_some, Option.map_none, true_and, and_true, and_self, Int.reduceNeg, Int.reduceAdd, Int.reduceLT, Int.reduceLE, Int.reducePow, Nat.reducePow, Int.reduceToNat]
    · intro a ha
      simp only [cmB_def, runR_rt, runR_nx, x_skip, x_seq, x_ite, x_asg, x_par, x_ret, x_retv, x_rett, x_app, x_pop, x_put, x_put2, sq_nx, sq_rt, ic_t, ic_f, setO_one, parO_some, setT, setT.go, setV, esc, esc0, ownd, demote, cov, cov.covL, List.any_cons, List.any_nil, vars, varsS, chgR, chg, pthD, Pth.root, Pth.toE, mvR, RT.slots, minK, e_cst, e_var, e_lst, e_tup, e_bin, e_neg, e_cmp, e_chn, e_and, e_or, e_not, e_idx, e_sli, e_bck, e_blt, e_call, es_nil, es_cons, cond_def, aB_t, aB_f, oB_t, oB_f, add_i, sub_i, mul_i, div_i, mod_i, pow_18, c_eq, c_ne, c_lt, c_le, c_gt, c_ge, c_is, c_isn, isNon_n, isNon_i, isNon_b, isNon_t, isNon_L, tr_b, tr_i, tr_n, abs_i, int_i, max_i, min_i, isD_i, isD_b, isD_n, isD_t, isD_s, isD_L, val_L, val_t, ix_L, ix_t, at_0, at_1, at_2, atI_last, cat_isEmpty, dz, dpos,  List.dropLast_concat, List.reverse_nil, List.reverse_cons, bltD, optInt, itE_def, itD, isRng, bindT, bindT.go, wipe, fold_l, sum_l, cov_W, cov_M, eqD_MWr, eqD_MMr, imm_l, fr_l, fr_i, fr_b, fr_n, fr_s, fr_lst, lenD_l, listD_l, valD_l, revD_l, bckD_l, truth_l, isD_l, isNon_l, add_l, popD_l, appD_l, eqD_I, eqD_W, eqD_M, ixD_l, u_0, u_1, u_2, u_3, u_8, d_0, d_1, d_2, d_3, d_4, d_8, List.getElem?_cons_succ, List.getElem?_cons_zero, List.set_cons_succ, List.set_cons_zero, List.getD_cons_succ, List.getD_cons_zero, List.map_cons, List.map_nil, List.length_cons, List.length_nil, List.append_nil, List.nil_append, List.cons_append, List.replicate_succ, List.replicate_zero, Nat.reduceAdd, Nat.reduceSub, Nat.reduceLeDiff, Nat.reduceLT, Nat.zero_le, Nat.le_refl, ne_eq, not_true_eq_false, not_false_eq_true, Bool.or_self, Bool.or_false, Bool.false_or, Bool.or_true, Bool.true_or, Bool.and_true, Bool.true_and, Bool.and_false, Bool.false_and, Bool.not_true, Bool.not_false, decide_true, decide_false, decide_eq_true_eq, if_true, if_false, ite_true, ite_false, reduceIte, reduceCtorEq, Nat.reduceEqDiff, Nat.succ_ne_zero, Nat.one_ne_zero, small_def, PySem.sizeLine, Nat.reduceMul, beq_self_eq_true, Int.reduceMul, Int.reduceSub, Option.map_some, Option.map_none, true_and, and_true, and_self, Int.reduceNeg, Int.reduceAdd, Int.reduceLT, Int.reduceLE, Int.reducePow, Nat.reducePow, Int.reduceToNat]
  rw [List.map_id'] at L
  exact runF_ret (f := F__law_copied) rfl rfl L (by decide)
theorem ev_mapping (n : Nat) (ds : List Int) (at' L most : Int) (hd : Dr ds) (h0 : 0 < ds.length) (h1 : ds.length ≤ 5000) (a0 : 0 ≤ at') (a1 : at' ≤ 1000000) (hL : 0 < L) (hL' : L ≤ 1000) (l0 : 0 ≤ most) (l1 : most ≤ 100000) : Phi prog (n + 3) i__law_mapping [eW ds, .int at', .int L, .int most] = some (eM (mapF ds at' L most), 2, .non) := by
  rw [Phi_succ (fn := F__law_mapping) rfl]
  have L : evalE (Phi prog (n + 2)) (retE (nth F__law_mapping.body 0)) [some (eW ds, 0), some (.int at', 0), some (.int L, 0), some (.int most, 0), none, none] = some (eM (mapF ds at' L most), up 1) := by
    refine e_mapF (fun i : Nat => .int (0 + (i : Int))) eW (fun (k : Nat) => wordF ds (at' + 9 * (0 + (k : Int)) + 1) L (cellF ds (at' + 4 * (0 + (k : Int))) % (most + 1))) (List.range L.toNat) ?_ ?_ ?_
    · simp only [e_cst, e_var, e_lst, e_tup, e_bin, e_neg, e_cmp, e_chn, e_and, e_or, e_not, e_idx, e_sli, e_bck, e_blt, e_call, es_nil, es_cons, cond_def, aB_t, aB_f, oB_t, oB_f, add_i, sub_i, mul_i, div_i, mod_i, pow_18, c_eq, c_ne, c_lt, c_le, c_gt, c_ge, c_is, c_isn, isNon_n, isNon_i, isNon_b, isNon_t, isNon_L, tr_b, tr_i, tr_n, abs_i, int_i, max_i, min_i, isD_i, isD_b, isD_n, isD_t, isD_s, isD_L, val_L, val_t, ix_L, ix_t, at_0, at_1, at_2, atI_last, cat_isEmpty, dz, dpos,  List.dropLast_concat, List.reverse_nil, List.reverse_cons, bltD, optInt, itE_def, itD, isRng, bindT, bindT.go, wipe, fold_l, sum_l, cov_W, cov_M, eqD_MWr, eqD_MMr, imm_l, fr_l, fr_i, fr_b, fr_n, fr_s, fr_lst, lenD_l, listD_l, valD_l, revD_l, bckD_l, truth_l, isD_l, isNon_l, add_l, popD_l, appD_l, eqD_I, eqD_W, eqD_M, ixD_l, u_0, u_1, u_2, u_3, u_8, d_0, d_1, d_2, d_3, d_4, d_8, List.getElem?_cons_succ, List.getElem?_cons_zero, List.set_cons_succ, List.set_cons_zero, List.getD_cons_succ, List.getD_cons_zero, List.map_cons, List.map_nil, List.length_cons, List.length_nil, List.append_nil, List.nil_append, List.cons_append, List.replicate_succ, List.replicate_zero, Nat.reduceAdd, Nat.reduceSub, Nat.reduceLeDiff, Nat.reduceLT, Nat.zero_le, Nat.le_refl, ne_eq, not_true_eq_false, not_false_eq_true, Bool.or_self, Bool.or_false, Bool.false_or, Bool.or_true, Bool.true_or, Bool.and_true, Bool.true_and, Bool.and_false, Bool.false_and, Bool.not_true, Bool.not_false, decide_true, decide_false, decide_eq_true_eq, if_true, if_false, ite_true, ite_false, reduceIte, reduceCtorEq, Nat.reduceEqDiff, Nat.succ_ne_zero, Nat.one_ne_zero, small_def, PySem.sizeLine, Nat.reduceMul, beq_self_eq_true, Int.reduceMul, Int.reduceSub, Option.map_some, Option.map_none, true_and, and_true, and_self, Int.reduceNeg, Int.reduceAdd, Int.reduceLT, Int.reduceLE, Int.reducePow, Nat.reducePow, Int.reduceToNat, rng1_v L (by omega) (by omega)]
    · rw [List.length_range]; omega
    · intro a ha
      rw [List.mem_range] at ha
      obtain ⟨z, hz⟩ : ∃ z : Int, z = 0 + (a : Int) := ⟨_, rfl⟩
      rw [← hz]
      have hc := ev_cell (n + 1) ds (at' + 4 * z) hd h0 h1 (by omega) (by omega)
      have hp : 0 < most + 1 := by omega
      have e0 := Int.emod_nonneg (cellF ds (at' + 4 * z)) (b := most + 1) (by omega)
      have e1 := Int.emod_lt_of_pos (cellF ds (at' + 4 * z)) hp
      have hw := ev_word n ds (at' + 9 * z + 1) L (cellF ds (at' + 4 * z) % (most + 1)) hd h0 h1 (by omega) (by omega) hL hL' (by omega) (by omega)
      have m1 : mulOk 9 z = true := mul_ok (by omega) (by omega)
      have m2 : mulOk 4 z = true := mul_ok (by omega) (by omega)
      simp only [cmB_def, runR_rt, runR_nx, x_skip, x_seq, x_ite, x_asg, x_par, x_ret, x_retv, x_rett, x_app, x_pop, x_put, x_put2, sq_nx, sq_rt, ic_t, ic_f, setO_one, parO_some, setT, setT.go, setV, esc, esc0, ownd, demote, cov, cov.covL, List.any_cons, List.any_nil, vars, varsS, chgR, chg, pthD, Pth.root, Pth.toE, mvR, RT.slots, minK, e_cst, e_var, e_lst, e_tup, e_bin, e_neg, e_cmp, e_chn, e_and, e_or, e_not, e_idx, e_sli, e_bck, e_blt, e_call, es_nil, es_cons, cond_def, aB_t, aB_f, oB_t, oB_f, add_i, sub_i, mul_i, div_i, mod_i, pow_18, c_eq, c_ne, c_lt, c_le, c_gt, c_ge, c_is, c_isn, isNon_n, isNon_i, isNon_b, isNon_t, isNon_L, tr_b, tr_i, tr_n, abs_i, int_i, max_i, min_i, isD_i, isD_b, isD_n, isD_t, isD_s, isD_L, val_L, val_t, ix_L, ix_t, at_0, at_1, at_2, atI_last, cat_isEmpty, dz, dpos,  List.dropLast_concat, List.reverse_nil, List.reverse_cons, bltD, optInt, itE_def, itD, isRng, bindT, bindT.go, wipe, fold_l, sum_l, cov_W, cov_M, eqD_MWr, eqD_MMr, imm_l, fr_l, fr_i, fr_b, fr_n, fr_s, fr_lst, lenD_l, listD_l, valD_l, revD_l, bckD_l, truth_l, isD_l, isNon_l, add_l, popD_l, appD_l, eqD_I, eqD_W, eqD_M, ixD_l, u_0, u_1, u_2, u_3, u_8, d_0, d_1, d_2, d_3, d_4, d_8, List.getElem?_cons_succ, List.getElem?_cons_zero, List.set_cons_succ, List.set_cons_zero, List.getD_cons_succ, List.getD_cons_zero, List.map_cons, List.map_nil, List.length_cons, List.length_nil, List.append_nil, List.nil_append, List.cons_append, List.replicate_succ, List.replicate_zero, Nat.reduceAdd, Nat.reduceSub, Nat.reduceLeDiff, Nat.reduceLT, Nat.zero_le, Nat.le_refl, ne_eq, not_true_eq_false, not_false_eq_true, Bool.or_self, Bool.or_false, Bool.false_or, Bool.or_true, Bool.true_or, Bool.and_true, Bool.true_and, Bool.and_false, Bool.false_and, Bool.not_true, Bool.not_false, decide_true, decide_false, decide_eq_true_eq, if_true, if_false, ite_true, ite_false, reduceIte, reduceCtorEq, Nat.reduceEqDiff, Nat.succ_ne_zero, Nat.one_ne_zero, small_def, PySem.sizeLine, Nat.reduceMul, beq_self_eq_true, Int.reduceMul, Int.reduceSub, Option.map_some, Option.map_none, true_and, and_true, and_self, Int.reduceNeg, Int.reduceAdd, Int.reduceLT, Int.reduceLE, Int.reducePow, Nat.reducePow, Int.reduceToNat, m1, m2, hc, hw, hp]
  exact runF_ret (f := F__law_mapping) rfl rfl L (by decide)
theorem img_rd (n : Nat) (m : List (List Int)) (w fs : List Int) (x : Int) (j3 : Option (D × Nat)) (hx : x ≠ 0 ∧ -(m.length : Int) ≤ x ∧ x ≤ m.length) (hs : fs.length + (lt m x).length ≤ 16777216) :
    exec (Phi prog (n + 1)) F__law_image.own F__law_image.ret (thenS (nth F__law_image.body 1)) [some (eM m, 0), some (eW w, 0), some (eW fs, 0), some (.int x, 0)] = some (.nx [some (eM m, 0), some (eW w, 0), some (eW (fs ++ lt m x), 0), some (.int x, 0)]) := by
  rw [lt_length] at hs
  by_cases h : 0 < x
  · have h1 := atI_at (xs := m) (i := x - 1) [] (by omega) (by omega)
    rw [if_pos h] at hs
    simp only [F__law_image, nth, thenS, runR_rt, runR_nx, x_skip, x_seq, x_ite, x_asg, x_par, x_ret, x_retv, x_rett, x_app, x_pop, x_put, x_put2, sq_nx, sq_rt, ic_t, ic_f, setO_one, parO_some, setT, setT.go, setV, esc, esc0, ownd, demote, cov, cov.covL, List.any_cons, List.any_nil, vars, varsS, chgR, chg, pthD, Pth.root, Pth.toE, mvR, RT.slots, minK, e_cst, e_var, e_lst, e_tup, e_bin, e_neg, e_cmp, e_chn, e_and, e_or, e_not, e_idx, e_sli, e_bck, e_blt, e_call, es_nil, es_cons, cond_def, aB_t, aB_f, oB_t, oB_f, add_i, sub_i, mul_i, div_i, mod_i, pow_18, c_eq, c_ne, c_lt, c_le, c_gt, c_ge, c_is, c_isn, isNon_n, isNon_i, isNon_b, isNon_t, isNon_L, tr_b, tr_i, tr_n, abs_i, int_i, max_i, min_i, isD_i, isD_b, isD_n, isD_t, isD_s, isD_L, val_L, val_t, ix_L, ix_t, at_0, at_1, at_2, atI_last, cat_isEmpty, dz, dpos,  List.dropLast_concat, List.reverse_nil, List.reverse_cons, bltD, optInt, itE_def, itD, isRng, bindT, bindT.go, wipe, fold_l, sum_l, cov_W, cov_M, eqD_MWr, eqD_MMr, imm_l, fr_l, fr_i, fr_b, fr_n, fr_s, fr_lst, lenD_l, listD_l, valD_l, revD_l, bckD_l, truth_l, isD_l, isNon_l, add_l, popD_l, appD_l, eqD_I, eqD_W, eqD_M, ixD_l, u_0, u_1, u_2, u_3, u_8, d_0, d_1, d_2, d_3, d_4, d_8, List.getElem?_cons_succ, List.getElem?_cons_zero, List.set_cons_succ, List.set_cons_zero, List.getD_cons_succ, List.getD_cons_zero, List.map_cons, List.map_nil, List.length_cons, List.length_nil, List.append_nil, List.nil_append, List.cons_append, List.replicate_succ, List.replicate_zero, Nat.reduceAdd, Nat.reduceSub, Nat.reduceLeDiff, Nat.reduceLT, Nat.zero_le, Nat.le_refl, ne_eq, not_true_eq_false, not_false_eq_true, Bool.or_self, Bool.or_false, Bool.false_or, Bool.or_true, Bool.true_or, Bool.and_true, Bool.true_and, Bool.and_false, Bool.false_and, Bool.not_true, Bool.not_false, decide_true, decide_false, decide_eq_true_eq, if_true, if_false, ite_true, ite_false, reduceIte, reduceCtorEq, Nat.reduceEqDiff, Nat.succ_ne_zero, Nat.one_ne_zero, small_def, PySem.sizeLine, Nat.reduceMul, beq_self_eq_true, Int.reduceMul, Int.reduceSub, Option.map_some, Option.map_none, true_and, and_true, and_self, Int.reduceNeg, Int.reduceAdd, Int.reduceLT, Int.reduceLE, Int.reducePow, Nat.reducePow, Int.reduceToNat, decide_eq_true h, h1, lt, if_pos h, hs]
  · have h1 := atI_at (xs := m) (i := -x - 1) [] (by omega) (by omega)
    rw [if_neg h] at hs
    have h2 := ev_back n (m.getD (-x - 1).toNat []) (by omega)
    rw [← back_length (m.getD (-x - 1).toNat [])] at hs
    simp only [F__law_image, nth, thenS, runR_rt, runR_nx, x_skip, x_seq, x_ite, x_asg, x_par, x_ret, x_retv, x_rett, x_app, x_pop, x_put, x_put2, sq_nx, sq_rt, ic_t, ic_f, setO_one, parO_some, setT, setT.go, setV, esc, esc0, ownd, demote, cov, cov.covL, List.any_cons, List.any_nil, vars, varsS, chgR, chg, pthD, Pth.root, Pth.toE, mvR, RT.slots, minK, e_cst, e_var, e_lst, e_tup, e_bin, e_neg, e_cmp, e_chn, e_and, e_or, e_not, e_idx, e_sli, e_bck, e_blt, e_call, es_nil, es_cons, cond_def, aB_t, aB_f, oB_t, oB_f, add_i, sub_i, mul_i, div_i, mod_i, pow_18, c_eq, c_ne, c_lt, c_le, c_gt, c_ge, c_is, c_isn, isNon_n, isNon_i, isNon_b, isNon_t, isNon_L, tr_b, tr_i, tr_n, abs_i, int_i, max_i, min_i, isD_i, isD_b, isD_n, isD_t, isD_s, isD_L, val_L, val_t, ix_L, ix_t, at_0, at_1, at_2, atI_last, cat_isEmpty, dz, dpos,  List.dropLast_concat, List.reverse_nil, List.reverse_cons, bltD, optInt, itE_def, itD, isRng, bindT, bindT.go, wipe, fold_l, sum_l, cov_W, cov_M, eqD_MWr, eqD_MMr, imm_l, fr_l, fr_i, fr_b, fr_n, fr_s, fr_lst, lenD_l, listD_l, valD_l, revD_l, bckD_l, truth_l, isD_l, isNon_l, add_l, popD_l, appD_l, eqD_I, eqD_W, eqD_M, ixD_l, u_0, u_1, u_2, u_3, u_8, d_0, d_1, d_2, d_3, d_4, d_8, List.getElem?_cons_succ, List.getElem?_cons_zero, List.set_cons_succ, List.set_cons_zero, List.getD_cons_succ, List.getD_cons_zero, List.map_cons, List.map_nil, List.length_cons, List.length_nil, List.append_nil, List.nil_append, List.cons_append, List.replicate_succ, List.replicate_zero, Nat.reduceAdd, Nat.reduceSub, Nat.reduceLeDiff, Nat.reduceLT, Nat.zero_le, Nat.le_refl, ne_eq, not_true_eq_false, not_false_eq_true, Bool.or_self, Bool.or_false, Bool.false_or, Bool.or_true, Bool.true_or, Bool.and_true, Bool.true_and, Bool.and_false, Bool.false_and, Bool.not_true, Bool.not_false, decide_true, decide_false, decide_eq_true_eq, if_true, if_false, ite_true, ite_false, reduceIte, reduceCtorEq, Nat.reduceEqDiff, Nat.succ_ne_zero, Nat.one_ne_zero, small_def, PySem.sizeLine, Nat.reduceMul, beq_self_eq_true, Int.reduceMul, Int.reduceSub, Option.map_some, Option.map_none, true_and, and_true, and_self, Int.reduceNeg, Int.reduceAdd, Int.reduceLT, Int.reduceLE, Int.reducePow, Nat.reducePow, Int.reduceToNat, decide_eq_false h, h1, h2, lt, if_neg h, hs]
theorem limage_end (Φ : PhiT) (m : List (List Int)) (w us ws : List Int) (j : Option (D × Nat))
    (h1 : exec Φ F__law_image.own F__law_image.ret (nth F__law_image.body 1) [some (eM m, 0), some (eW w, 0), some (eW [], 0), none] = some (.nx [some (eM m, 0), some (eW w, 0), some (eW us, 0), j]))
    (h2 : Φ i__law_short [eW us] = some (eW ws, 1, .non)) : runF Φ F__law_image [eM m, eW w] = some (eW ws, 1, .non) := by
  simp only [F__law_image, nth] at h1
  rw [runF_of rfl]
  simp only [F__law_image, runR_rt, runR_nx, x_skip, x_seq, x_ite, x_asg, x_par, x_ret, x_retv, x_rett, x_app, x_pop, x_put, x_put2, sq_nx, sq_rt, ic_t, ic_f, setO_one, parO_some, setT, setT.go, setV, esc, esc0, ownd, demote, cov, cov.covL, List.any_cons, List.any_nil, vars, varsS, chgR, chg, pthD, Pth.root, Pth.toE, mvR, RT.slots, minK, e_cst, e_var, e_lst, e_tup, e_bin, e_neg, e_cmp, e_chn, e_and, e_or, e_not, e_idx, e_sli, e_bck, e_blt, e_call, es_nil, es_cons, cond_def, aB_t, aB_f, oB_t, oB_f, add_i, sub_i, mul_i, div_i, mod_i, pow_18, c_eq, c_ne, c_lt, c_le, c_gt, c_ge, c_is, c_isn, isNon_n, isNon_i, isNon_b, isNon_t, isNon_L, tr_b, tr_i, tr_n, abs_i, int_i, max_i, min_i, isD_i, isD_b, isD_n, isD_t, isD_s, isD_L, val_L, val_t, ix_L, ix_t, at_0, at_1, at_2, atI_last, cat_isEmpty, dz, dpos,  List.dropLast_concat, List.reverse_nil, List.reverse_cons, bltD, optInt, itE_def, itD, isRng, bindT, bindT.go, wipe, fold_l, sum_l, cov_W, cov_M, eqD_MWr, eqD_MMr, imm_l, fr_l, fr_i, fr_b, fr_n, fr_s, fr_lst, lenD_l, listD_l, valD_l, revD_l, bckD_l, truth_l, isD_l, isNon_l, add_l, popD_l, appD_l, eqD_I, eqD_W, eqD_M, ixD_l, u_0, u_1, u_2, u_3, u_8, d_0, d_1, d_2, d_3, d_4, d_8, List.getElem?_cons_succ, List.getElem?_cons_zero, List.set_cons_succ, List.set_cons_zero, List.getD_cons_succ, List.getD_cons_zero, List.map_cons, List.map_nil, List.length_cons, List.length_nil, List.append_nil, List.nil_append, List.cons_append, List.replicate_succ, List.replicate_zero, Nat.reduceAdd, Nat.reduceSub, Nat.reduceLeDiff, Nat.reduceLT, Nat.zero_le, Nat.le_refl, ne_eq, not_true_eq_false, not_false_eq_true, Bool.or_self, Bool.or_false, Bool.false_or, Bool.or_true, Bool.true_or, Bool.and_true, Bool.true_and, Bool.and_false, Bool.false_and, Bool.not_true, Bool.not_false, decide_true, decide_false, decide_eq_true_eq, if_true, if_false, ite_true, ite_false, reduceIte, reduceCtorEq, Nat.reduceEqDiff, Nat.succ_ne_zero, Nat.one_ne_zero, small_def, PySem.sizeLine, Nat.reduceMul, beq_self_eq_true, Int.reduceMul, Int.reduceSub, Option.map_some, Option.map_none, true_and, and_true, and_self, Int.reduceNeg, Int.reduceAdd, Int.reduceLT, Int.reduceLE, Int.reducePow, Nat.reducePow, Int.reduceToNat, nil_W D.int, h1, h2]
theorem ev_limage (n : Nat) (m : List (List Int)) (w : List Int) (h : Ok m w) : Phi prog (n + 2) i__law_image [eM m, eW w] = some (eW (red (img m w)), 1, .non) := by
  rw [Phi_succ (fn := F__law_image) rfl]
  obtain ⟨σ', h1, ⟨j, rfl⟩, -⟩ : ∃ σ', exec (Phi prog (n + 1)) F__law_image.own F__law_image.ret (nth F__law_image.body 1) [some (eM m, 0), some (eW w, 0), some (eW [], 0), none] = some (.nx σ') ∧
      (∃ j, σ' = [some (eM m, 0), some (eW w, 0), some (eW (w.foldl (fun b x => b ++ lt m x) []), 0), j]) ∧ (w.foldl (fun b x => b ++ lt m x) []) = img m w := by
    refine x_frP (fun b σ => ∃ j, σ = [some (eM m, 0), some (eW w, 0), some (eW b, 0), j]) (fun ys b => b = img m ys) (fun b x => b ++ lt m x) D.int w [] ?_ ?_ rfl ?_
    · simp only [e_cst, e_var, e_lst, e_tup, e_bin, e_neg, e_cmp, e_chn, e_and, e_or, e_not, e_idx, e_sli, e_bck, e_blt, e_call, es_nil, es_cons, cond_def, aB_t, aB_f, oB_t, oB_f, add_i, sub_i, mul_i, div_i, mod_i, pow_18, c_eq, c_ne, c_lt, c_le, c_gt, c_ge, c_is, c_isn, isNon_n, isNon_i, isNon_b, isNon_t, isNon_L, tr_b, tr_i, tr_n, abs_i, int_i, max_i, min_i, isD_i, isD_b, isD_n, isD_t, isD_s, isD_L, val_L, val_t, ix_L, ix_t, at_0, at_1, at_2, atI_last, cat_isEmpty, dz, dpos,  List.dropLast_concat, List.reverse_nil, List.reverse_cons, bltD, optInt, itE_def, itD, isRng, bindT, bindT.go, wipe, fold_l, sum_l, cov_W, cov_M, eqD_MWr, eqD_MMr, imm_l, fr_l, fr_i, fr_b, fr_n, fr_s, fr_lst, lenD_l, listD_l, valD_l, revD_l, bckD_l, truth_l, isD_l, isNon_l, add_l, popD_l, appD_l, eqD_I, eqD_W, eqD_M, ixD_l, u_0, u_1, u_2, u_3, u_8, d_0, d_1, d_2, d_3, d_4, d_8, List.getElem?_cons_succ, List.getElem?_cons_zero, List.set_cons_succ, List.set_cons_zero, List.getD_cons_succ, List.getD_cons_zero, List.map_cons, List.map_nil, List.length_cons, List.length_nil, List.append_nil, List.nil_append, List.cons_append, List.replicate_succ, List.replicate_zero, Nat.reduceAdd, Nat.reduceSub, Nat.reduceLeDiff, Nat.reduceLT, Nat.zero_le, Nat.le_refl, ne_eq, not_true_eq_false, not_false_eq_true, Bool.or_self, Bool.or_false, Bool.false_or, Bool.or_true, Bool.true_or, Bool.and_true, Bool.true_and, Bool.and_false, Bool.false_and, Bool.not_true, Bool.not_false, decide_true, decide_false, decide_eq_true_eq, if_true, if_false, ite_true, ite_false, reduceIte, reduceCtorEq, Nat.reduceEqDiff, Nat.succ_ne_zero, Nat.one_ne_zero, small_def, PySem.sizeLine, Nat.reduceMul, beq_self_eq_true, Int.reduceMul, Int.reduceSub, Option.map_some, Option.map_none, true_and, and_true, and_self, Int.reduceNeg, Int.reduceAdd, Int.reduceLT, Int.reduceLE, Int.reducePow, Nat.reducePow, Int.reduceToNat]
    · exact ⟨_, rfl⟩
    · rintro a ys zs b σ hw hl ⟨j, rfl⟩
      subst hl
      have hm := mem_of_split hw
      have hz := h.sz
      rw [← hw, img_append, img_cons, List.length_append, List.length_append] at hz
      refine ⟨⟨_, rfl, _, .inl (img_rd n m w (img m ys) a none (h.inn a hm) (by omega)), _, rfl⟩, ?_⟩
      rw [img_append, img_cons, img_nil, List.append_nil]
  rw [fold_cat] at h1
  exact limage_end _ m w _ _ j h1 (ev_short n _ h.sz)
theorem run_rest (Φ : PhiT) (k : Int) (hk : k ≤ 100) (h0 : 0 ≤ k) : runF Φ F__law_rest [.int k] = some (eM (rest k.toNat), 2, .non) := by
  have L : evalE Φ (retE (nth F__law_rest.body 0)) [some (.int k, 0), none, none] = some (eM (rest k.toNat), up 1) := by
    refine e_mapF (fun i : Nat => .int (1 + (i : Int))) eW (fun (i : Nat) => [1 + (i : Int)]) (List.range k.toNat) ?_ (by rw [List.length_range]; omega) ?_
    · simp only [e_cst, e_var, e_lst, e_tup, e_bin, e_neg, e_cmp, e_chn, e_and, e_or, e_not, e_idx, e_sli, e_bck, e_blt, e_call, es_nil, es_cons, cond_def, aB_t, aB_f, oB_t, oB_f, add_i, sub_i, mul_i, div_i, mod_i, pow_18, c_eq, c_ne, c_lt, c_le, c_gt, c_ge, c_is, c_isn, isNon_n, isNon_i, isNon_b, isNon_t, isNon_L, tr_b, tr_i, tr_n, abs_i, int_i, max_i, min_i, isD_i, isD_b, isD_n, isD_t, isD_s, isD_L, val_L, val_t, ix_L, ix_t, at_0, at_1, at_2, atI_last, cat_isEmpty, dz, dpos,  List.dropLast_concat, List.reverse_nil, List.reverse_cons, bltD, optInt, itE_def, itD, isRng, bindT, bindT.go, wipe, fold_l, sum_l, cov_W, cov_M, eqD_MWr, eqD_MMr, imm_l, fr_l, fr_i, fr_b, fr_n, fr_s, fr_lst, lenD_l, listD_l, valD_l, revD_l, bckD_l, truth_l, isD_l, isNon_l, add_l, popD_l, appD_l, eqD_I, eqD_W, eqD_M, ixD_l, u_0, u_1, u_2, u_3, u_8, d_0, d_1, d_2, d_3, d_4, d_8, List.getElem?_cons_succ, List.getElem?_cons_zero, List.set_cons_succ, List.set_cons_zero, List.getD_cons_succ, List.getD_cons_zero, List.map_cons, List.map_nil, List.length_cons, List.length_nil, List.append_nil, List.nil_append, List.cons_append, List.replicate_succ, List.replicate_zero, Nat.reduceAdd, Nat.reduceSub, Nat.reduceLeDiff, Nat.reduceLT, Nat.zero_le, Nat.le_refl, ne_eq, not_true_eq_false, not_false_eq_true, Bool.or_self, Bool.or_false, Bool.false_or, Bool.or_true, Bool.true_or, Bool.and_true, Bool.true_and, Bool.and_false, Bool.false_and, Bool.not_true, Bool.not_false, decide_true, decide_false, decide_eq_true_eq, if_true, if_false, ite_true, ite_false, reduceIte, reduceCtorEq, Nat.reduceEqDiff, Nat.succ_ne_zero, Nat.one_ne_zero, small_def, PySem.sizeLine, Nat.reduceMul, beq_self_eq_true, Int.reduceMul, Int.reduceSub, Option.map_some, Option.map_none, true_and, and_true, and_self, Int.reduceNeg, Int.reduceAdd, Int.reduceLT, Int.reduceLE, Int.reducePow, Nat.reducePow, Int.reduceToNat, rng2_v k (by omega) h0]
    · intro a ha
      simp only [cmB_def, runR_rt, runR_nx, x_skip, x_seq, x_ite, x_asg, x_par, x_ret, x_retv, x_rett, x_app, x_pop, x_put, x_put2, sq_nx, sq_rt, ic_t, ic_f, setO_one, parO_some, setT, setT.go, setV, esc, esc0, ownd, demote, cov, cov.covL, List.any_cons, List.any_nil, vars, varsS, chgR, chg, pthD, Pth.root, Pth.toE, mvR, RT.slots, minK, e_cst, e_var, e_lst, e_tup, e_bin, e_neg, e_cmp, e_chn, e_and, e_or, e_not, e_idx, e_sli, e_bck, e_blt, e_call, es_nil, es_cons, cond_def, aB_t, aB_f, oB_t, oB_f, add_i, sub_i, mul_i, div_i, mod_i, pow_18, c_eq, c_ne, c_lt, c_le, c_gt, c_ge, c_is, c_isn, isNon_n, isNon_i, isNon_b, isNon_t, isNon_L, tr_b, tr_i, tr_n, abs_i, int_i, max_i, min_i, isD_i, isD_b, isD_n, isD_t, isD_s, isD_L, val_L, val_t, ix_L, ix_t, at_0, at_1, at_2, atI_last, cat_isEmpty, dz, dpos,  List.dropLast_concat, List.reverse_nil, List.reverse_cons, bltD, optInt, itE_def, itD, isRng, bindT, bindT.go, wipe, fold_l, sum_l, cov_W, cov_M, eqD_MWr, eqD_MMr, imm_l, fr_l, fr_i, fr_b, fr_n, fr_s, fr_lst, lenD_l, listD_l, valD_l, revD_l, bckD_l, truth_l, isD_l, isNon_l, add_l, popD_l, appD_l, eqD_I, eqD_W, eqD_M, ixD_l, u_0, u_1, u_2, u_3, u_8, d_0, d_1, d_2, d_3, d_4, d_8, List.getElem?_cons_succ, List.getElem?_cons_zero, List.set_cons_succ, List.set_cons_zero, List.getD_cons_succ, List.getD_cons_zero, List.map_cons, List.map_nil, List.length_cons, List.length_nil, List.append_nil, List.nil_append, List.cons_append, List.replicate_succ, List.replicate_zero, Nat.reduceAdd, Nat.reduceSub, Nat.reduceLeDiff, Nat.reduceLT, Nat.zero_le, Nat.le_refl, ne_eq, not_true_eq_false, not_false_eq_true, Bool.or_self, Bool.or_false, Bool.false_or, Bool.or_true, Bool.true_or, Bool.and_true, Bool.true_and, Bool.and_false, Bool.false_and, Bool.not_true, Bool.not_false, decide_true, decide_false, decide_eq_true_eq, if_true, if_false, ite_true, ite_false, reduceIte, reduceCtorEq, Nat.reduceEqDiff, Nat.succ_ne_zero, Nat.one_ne_zero, small_def, PySem.sizeLine, Nat.reduceMul, beq_self_eq_true, Int.reduceMul, Int.reduceSub, Option.map_some, Option.map_none, true_and, and_true, and_self, Int.reduceNeg, Int.reduceAdd, Int.reduceLT, Int.reduceLE, Int.reducePow, Nat.reducePow, Int.reduceToNat]
      rfl
  exact runF_ret (f := F__law_rest) rfl rfl L (by decide)
theorem ev_rest (n : Nat) (k : Int) (hk : k ≤ 100) (h0 : 0 ≤ k) : Phi prog (n + 1) i__law_rest [.int k] = some (eM (rest k.toNat), 2, .non) := by rw [Phi_succ (fn := F__law_rest) rfl]; exact run_rest _ k hk h0
theorem ev_after (n : Nat) (f g : List (List Int)) (hf : f.length ≤ 16777216) (h : ∀ w ∈ f, Ok g w) : Phi prog (n + 3) i__law_after [eM f, eM g] = some (eM (after f g), 2, .non) := by
  rw [Phi_succ (fn := F__law_after) rfl]
  have L : evalE (Phi prog (n + 2)) (retE (nth F__law_after.body 0)) [some (eM f, 0), some (eM g, 0), none, none] = some (eM (f.map fun w => red (img g w)), up 1) := by
    refine e_mapF eW eW (fun w => red (img g w)) f ?_ hf ?_
    · simp only [e_cst, e_var, e_lst, e_tup, e_bin, e_neg, e_cmp, e_chn, e_and, e_or, e_not, e_idx, e_sli, e_bck, e_blt, e_call, es_nil, es_cons, cond_def, aB_t, aB_f, oB_t, oB_f, add_i, sub_i, mul_i, div_i, mod_i, pow_18, c_eq, c_ne, c_lt, c_le, c_gt, c_ge, c_is, c_isn, isNon_n, isNon_i, isNon_b, isNon_t, isNon_L, tr_b, tr_i, tr_n, abs_i, int_i, max_i, min_i, isD_i, isD_b, isD_n, isD_t, isD_s, isD_L, val_L, val_t, ix_L, ix_t, at_0, at_1, at_2, atI_last, cat_isEmpty, dz, dpos,  List.dropLast_concat, List.reverse_nil, List.reverse_cons, bltD, optInt, itE_def, itD, isRng, bindT, bindT.go, wipe, fold_l, sum_l, cov_W, cov_M, eqD_MWr, eqD_MMr, imm_l, fr_l, fr_i, fr_b, fr_n, fr_s, fr_lst, lenD_l, listD_l, valD_l, revD_l, bckD_l, truth_l, isD_l, isNon_l, add_l, popD_l, appD_l, eqD_I, eqD_W, eqD_M, ixD_l, u_0, u_1, u_2, u_3, u_8, d_0, d_1, d_2, d_3, d_4, d_8, List.getElem?_cons_succ, List.getElem?_cons_zero, List.set_cons_succ, List.set_cons_zero, List.getD_cons_succ, List.getD_cons_zero, List.map_cons, List.map_nil, List.length_cons, List.length_nil, List.append_nil, List.nil_append, List.cons_append, List.replicate_succ, List.replicate_zero, Nat.reduceAdd, Nat.reduceSub, Nat.reduceLeDiff, Nat.reduceLT, Nat.zero_le, Nat.le_refl, ne_eq, not_true_eq_false, not_false_eq_true, Bool.or_self, Bool.or_false, Bool.false_or, Bool.or_true, Bool.true_or, Bool.and_true, Bool.true_and, Bool.and_false, Bool.false_and, Bool.not_true, Bool.not_false, decide_true, decide_false, decide_eq_true_eq, if_true, if_false, ite_true, ite_false, reduceIte, reduceCtorEq, Nat.reduceEqDiff, Nat.succ_ne_zero, Nat.one_ne_zero, small_def, PySem.sizeLine, Nat.reduceMul, beq_self_eq_true, Int.reduceMul, Int.reduceSub, Option.map_some, Option.map_none, true_and, and_true, and_self, Int.reduceNeg, Int.reduceAdd, Int.reduceLT, Int.reduceLE, Int.reducePow, Nat.reducePow, Int.reduceToNat]
    · intro a ha
      have h1 := ev_limage n g a (h a ha)
      simp only [cmB_def, runR_rt, runR_nx, x_skip, x_seq, x_ite, x_asg, x_par, x_ret, x_retv, x_rett, x_app, x_pop, x_put, x_put2, sq_nx, sq_rt, ic_t, ic_f, setO_one, parO_some, setT, setT.go, setV, esc, esc0, ownd, demote, cov, cov.covL, List.any_cons, List.any_nil, vars, varsS, chgR, chg, pthD, Pth.root, Pth.toE, mvR, RT.slots, minK, e_cst, e_var, e_lst, e_tup, e_bin, e_neg, e_cmp, e_chn, e_and, e_or, e_not, e_idx, e_sli, e_bck, e_blt, e_call, es_nil, es_cons, cond_def, aB_t, aB_f, oB_t, oB_f, add_i, sub_i, mul_i, div_i, mod_i, pow_18, c_eq, c_ne, c_lt, c_le, c_gt, c_ge, c_is, c_isn, isNon_n, isNon_i, isNon_b, isNon_t, isNon_L, tr_b, tr_i, tr_n, abs_i, int_i, max_i, min_i, isD_i, isD_b, isD_n, isD_t, isD_s, isD_L, val_L, val_t, ix_L, ix_t, at_0, at_1, at_2, atI_last, cat_isEmpty, dz, dpos,  List.dropLast_concat, List.reverse_nil, List.reverse_cons, bltD, optInt, itE_def, itD, isRng, bindT, bindT.go, wipe, fold_l, sum_l, cov_W, cov_M, eqD_MWr, eqD_MMr, imm_l, fr_l, fr_i, fr_b, fr_n, fr_s, fr_lst, lenD_l, listD_l, valD_l, revD_l, bckD_l, truth_l, isD_l, isNon_l, add_l, popD_l, appD_l, eqD_I, eqD_W, eqD_M, ixD_l, u_0, u_1, u_2, u_3, u_8, d_0, d_1, d_2, d_3, d_4, d_8, List.getElem?_cons_succ, List.getElem?_cons_zero, List.set_cons_succ, List.set_cons_zero, List.getD_cons_succ, List.getD_cons_zero, List.map_cons, List.map_nil, List.length_cons, List.length_nil, List.append_nil, List.nil_append, List.cons_append, List.replicate_succ, List.replicate_zero, Nat.reduceAdd, Nat.reduceSub, Nat.reduceLeDiff, Nat.reduceLT, Nat.zero_le, Nat.le_refl, ne_eq, not_true_eq_false, not_false_eq_true, Bool.or_self, Bool.or_false, Bool.false_or, Bool.or_true, Bool.true_or, Bool.and_true, Bool.true_and, Bool.and_false, Bool.false_and, Bool.not_true, Bool.not_false, decide_true, decide_false, decide_eq_true_eq, if_true, if_false, ite_true, ite_false, reduceIte, reduceCtorEq, Nat.reduceEqDiff, Nat.succ_ne_zero, Nat.one_ne_zero, small_def, PySem.sizeLine, Nat.reduceMul, beq_self_eq_true, Int.reduceMul, Int.reduceSub, Option.map_some, Option.map_none, true_and, and_true, and_self, Int.reduceNeg, Int.reduceAdd, Int.reduceLT, Int.reduceLE, Int.reducePow, Nat.reducePow, Int.reduceToNat, h1]
  exact runF_ret (f := F__law_after) rfl rfl L (by decide)
end LW

namespace LW
open PD


abbrev WBs (ds : List Int) (at' L many most : Int) (T B : List (List Int)) (j7 j8 j9 j10 j11 j12 j13 j14 j15 j16 : Option (D × Nat)) : Nv := [some (eW ds, 0), some (.int at', 0), some (.int L, 0), some (.int many, 0), some (.int most, 0), some (eM T, 0), some (eM B, 0), j7, j8, j9, j10, j11, j12, j13, j14, j15, j16]
theorem wb_x (n : Nat) (ds : List Int) (at' L many most : Int) (T B : List (List Int)) (a : Int) (j8 j9 j10 j11 j12 j13 j14 j15 j16 : Option (D × Nat)) (hd : Dr ds) (h0 : 0 < ds.length) (h1 : ds.length ≤ 5000) (a0 : 0 ≤ a) (a1 : a ≤ 1000) (b0 : 0 ≤ at') (b1 : at' ≤ 1000000) (hL : 0 < L) (hL' : L ≤ 100) :
    ∃ x k o : Int, 0 < x ∧ x ≤ L ∧ 0 < o ∧ o ≤ L ∧ 0 ≤ k ∧
    ∀ R, exec (Phi prog (n + 1)) F__law_way_back_map.own F__law_way_back_map.ret (.seq (nth (thenS (nth F__law_way_back_map.body 1)) 0) (.seq (nth (thenS (nth F__law_way_back_map.body 1)) 1) (.seq (nth (thenS (nth F__law_way_back_map.body 1)) 2) R))) (WBs ds at' L many most T B (some (.int a, 0)) j8 j9 j10 j11 j12 j13 j14 j15 j16) =
      exec (Phi prog (n + 1)) F__law_way_back_map.own F__law_way_back_map.ret R (WBs ds at' L many most T B (some (.int a, 0)) (some (.int x, 0)) (some (.int k, 0)) (some (.int o, 0)) j11 j12 j13 j14 j15 j16) := by
  have c1 := ev_cell n ds (at' + 3 * a) hd h0 h1 (by omega) (by omega)
  have c2 := ev_cell n ds (at' + 3 * a + 1) hd h0 h1 (by omega) (by omega)
  have c3 := ev_cell n ds (at' + 3 * a + 2) hd h0 h1 (by omega) (by omega)
  have m1 : mulOk 3 a = true := mul_ok (by omega) (by omega)
  obtain ⟨M, hM, hM0⟩ : ∃ M : Int, M = (if L - 1 > 1 then L - 1 else 1) ∧ 0 < M := ⟨_, rfl, by split <;> omega⟩
  have e1 := Int.emod_nonneg (cellF ds (at' + 3 * a)) (b := L) (by omega)
  have e2 := Int.emod_lt_of_pos (cellF ds (at' + 3 * a)) hL
  have e3 := Int.emod_nonneg (1 + cellF ds (at' + 3 * a) % L + cellF ds (at' + 3 * a + 2) % M) (b := L) (by omega)
  have e4 := Int.emod_lt_of_pos (1 + cellF ds (at' + 3 * a) % L + cellF ds (at' + 3 * a + 2) % M) hL
  refine ⟨1 + cellF ds (at' + 3 * a) % L, cellF ds (at' + 3 * a + 1) % 4, 1 + (1 + cellF ds (at' + 3 * a) % L + cellF ds (at' + 3 * a + 2) % M) % L, by omega, by omega, by omega, by omega, by omega, fun R => ?_⟩
  rw [x_seq]
  simp only [F__law_way_back_map, nth, thenS, runR_rt, runR_nx, x_skip, x_seq, x_ite, x_asg, x_par, x_ret, x_retv, x_rett, x_app, x_pop, x_put, x_put2, sq_nx, sq_rt, ic_t, ic_f, setO_one, parO_some, setT, setT.go, setV, esc, esc0, ownd, demote, cov, cov.covL, List.any_cons, List.any_nil, vars, varsS, chgR, chg, pthD, Pth.root, Pth.toE, mvR, RT.slots, minK, e_cst, e_var, e_lst, e_tup, e_bin, e_neg, e_cmp, e_chn, e_and, e_or, e_not, e_idx, e_sli, e_bck, e_blt, e_call, es_nil, es_cons, cond_def, aB_t, aB_f, oB_t, oB_f, add_i, sub_i, mul_i, div_i, mod_i, pow_18, c_eq, c_ne, c_lt, c_le, c_gt, c_ge, c_is, c_isn, isNon_n, isNon_i, isNon_b, isNon_t, isNon_L, tr_b, tr_i, tr_n, abs_i, int_i, max_i, min_i, isD_i, isD_b, isD_n, isD_t, isD_s, isD_L, val_L, val_t, ix_L, ix_t, at_0, at_1, at_2, atI_last, cat_isEmpty, dz, dpos,  List.dropLast_concat, List.reverse_nil, List.reverse_cons, bltD, optInt, itE_def, itD, isRng, bindT, bindT.go, wipe, fold_l, sum_l, cov_W, cov_M, eqD_MWr, eqD_MMr, imm_l, fr_l, fr_i, fr_b, fr_n, fr_s, fr_lst, lenD_l, listD_l, valD_l, revD_l, bckD_l, truth_l, isD_l, isNon_l, add_l, popD_l, appD_l, eqD_I, eqD_W, eqD_M, ixD_l, u_0, u_1, u_2, u_3, u_8, d_0, d_1, d_2, d_3, d_4, d_8, List.getElem?_cons_succ, List.getElem?_cons_zero, List.set_cons_succ, List.set_cons_zero, List.getD_cons_succ, List.getD_cons_zero, List.map_cons, List.map_nil, List.length_cons, List.length_nil, List.append_nil, List.nil_append, List.cons_append, List.replicate_succ, List.replicate_zero, Nat.reduceAdd, Nat.reduceSub, Nat.reduceLeDiff, Nat.reduceLT, Nat.zero_le, Nat.le_refl, ne_eq, not_true_eq_false, not_false_eq_true, Bool.or_self, Bool.or_false, Bool.false_or, Bool.or_true, Bool.true_or, Bool.and_true, Bool.true_and, Bool.and_false, Bool.false_and, Bool.not_true, Bool.not_false, decide_true, decide_false, decide_eq_true_eq, if_true, if_false, ite_true, ite_false, reduceIte, reduceCtorEq, Nat.reduceEqDiff, Nat.succ_ne_zero, Nat.one_ne_zero, small_def, PySem.sizeLine, Nat.reduceMul, beq_self_eq_true, Int.reduceMul, Int.reduceSub, Option.map_some, Option.map_none, true_and, and_true, and_self, Int.reduceNeg, Int.reduceAdd, Int.reduceLT, Int.reduceLE, Int.reducePow, Nat.reducePow, Int.reduceToNat, c1, c2, c3, m1, hL, ← hM, hM0]
theorem wb_r (n : Nat) (ds : List Int) (at' L many most : Int) (T B : List (List Int)) (j7 j8 j9 j10 j11 j12 j13 j14 j15 j16 : Option (D × Nat)) (hL : 0 < L) (hL' : L ≤ 100) :
    exec (Phi prog (n + 1)) F__law_way_back_map.own F__law_way_back_map.ret (nth (thenS (nth F__law_way_back_map.body 1)) 3) (WBs ds at' L many most T B j7 j8 j9 j10 j11 j12 j13 j14 j15 j16) =
      some (.nx (WBs ds at' L many most T B j7 j8 j9 j10 (some (eM (rest L.toNat), 1)) (some (eM (rest L.toNat), 1)) j13 j14 j15 j16)) := by
  have c1 := ev_rest n L hL' (by omega)
  simp only [F__law_way_back_map, nth, thenS, runR_rt, runR_nx, x_skip, x_seq, x_ite, x_asg, x_par, x_ret, x_retv, x_rett, x_app, x_pop, x_put, x_put2, sq_nx, sq_rt, ic_t, ic_f, setO_one, parO_some, setT, setT.go, setV, esc, esc0, ownd, demote, cov, cov.covL, List.any_cons, List.any_nil, vars, varsS, chgR, chg, pthD, Pth.root, Pth.toE, mvR, RT.slots, minK, e_cst, e_var, e_lst, e_tup, e_bin, e_neg, e_cmp, e_chn, e_and, e_or, e_not, e_idx, e_sli, e_bck, e_blt, e_call, es_nil, es_cons, cond_def, aB_t, aB_f, oB_t, oB_f, add_i, sub_i, mul_i, div_i, mod_i, pow_18, c_eq, c_ne, c_lt, c_le, c_gt, c_ge, c_is, c_isn, isNon_n, isNon_i, isNon_b, isNon_t, isNon_L, tr_b, tr_i, tr_n, abs_i, int_i, max_i, min_i, isD_i, isD_b, isD_n, isD_t, isD_s, isD_L, val_L, val_t, ix_L, ix_t, at_0, at_1, at_2, atI_last, cat_isEmpty, dz, dpos,  List.dropLast_concat, List.reverse_nil, List.reverse_cons, bltD, optInt, itE_def, itD, isRng, bindT, bindT.go, wipe, fold_l, sum_l, cov_W, cov_M, eqD_MWr, eqD_MMr, imm_l, fr_l, fr_i, fr_b, fr_n, fr_s, fr_lst, lenD_l, listD_l, valD_l, revD_l, bckD_l, truth_l, isD_l, isNon_l, add_l, popD_l, appD_l, eqD_I, eqD_W, eqD_M, ixD_l, u_0, u_1, u_2, u_3, u_8, d_0, d_1, d_2, d_3, d_4, d_8, List.getElem?_cons_succ, List.getElem?_cons_zero, List.set_cons_succ, List.set_cons_zero, List.getD_cons_succ, List.getD_cons_zero, List.map_cons, List.map_nil, List.length_cons, List.length_nil, List.append_nil, List.nil_append, List.cons_append, List.replicate_succ, List.replicate_zero, Nat.reduceAdd, Nat.reduceSub, Nat.reduceLeDiff, Nat.reduceLT, Nat.zero_le, Nat.le_refl, ne_eq, not_true_eq_false, not_false_eq_true, Bool.or_self, Bool.or_false, Bool.false_or, Bool.or_true, Bool.true_or, Bool.and_true, Bool.true_and, Bool.and_false, Bool.false_and, Bool.not_true, Bool.not_false, decide_true, decide_false, decide_eq_true_eq, if_true, if_false, ite_true, ite_false, reduceIte, reduceCtorEq, Nat.reduceEqDiff, Nat.succ_ne_zero, Nat.one_ne_zero, small_def, PySem.sizeLine, Nat.reduceMul, beq_self_eq_true, Int.reduceMul, Int.reduceSub, Option.map_some, Option.map_none, true_and, and_true, and_self, Int.reduceNeg, Int.reduceAdd, Int.reduceLT, Int.reduceLE, Int.reducePow, Nat.reducePow, Int.reduceToNat, c1]
theorem wb_s (Φ : PhiT) (ds : List Int) (at' L many most : Int) (T B : List (List Int)) (x k o : Int) (j7 j13 j14 j15 j16 : Option (D × Nat)) (hL : 0 < L) (hL' : L ≤ 100) (x0 : 0 < x) (x1 : x ≤ L) (o0 : 0 < o) (o1 : o ≤ L) :
    ∃ S U, StepOk L.toNat S U ∧ exec Φ F__law_way_back_map.own F__law_way_back_map.ret (nth (thenS (nth F__law_way_back_map.body 1)) 4) (WBs ds at' L many most T B j7 (some (.int x, 0)) (some (.int k, 0)) (some (.int o, 0)) (some (eM (rest L.toNat), 1)) (some (eM (rest L.toNat), 1)) j13 j14 j15 j16) =
      some (.nx (WBs ds at' L many most T B j7 (some (.int x, 0)) (some (.int k, 0)) (some (.int o, 0)) (some (eM S, 1)) (some (eM U, 1)) j13 j14 j15 j16)) := by
  have W2 : ∀ a b : Int, D.lst [.int a, .int b] = eW [a, b] := fun _ _ => rfl
  have hr : (rest L.toNat).length = L.toNat := (rest_Mp _).1
  have ix := ix_of (n := (rest L.toNat).length) (i := x - 1) (by omega) (by omega)
  by_cases h0 : k = 0
  · refine ⟨_, _, step0 x0 (by omega), ?_⟩
    simp only [F__law_way_back_map, nth, thenS, runR_rt, runR_nx, x_skip, x_seq, x_ite, x_asg, x_par, x_ret, x_retv, x_rett, x_app, x_pop, x_put, x_put2, sq_nx, sq_rt, ic_t, ic_f, setO_one, parO_some, setT, setT.go, setV, esc, esc0, ownd, demote, cov, cov.covL, List.any_cons, List.any_nil, vars, varsS, chgR, chg, pthD, Pth.root, Pth.toE, mvR, RT.slots, minK, e_cst, e_var, e_lst, e_tup, e_bin, e_neg, e_cmp, e_chn, e_and, e_or, e_not, e_idx, e_sli, e_bck, e_blt, e_call, es_nil, es_cons, cond_def, aB_t, aB_f, oB_t, oB_f, add_i, sub_i, mul_i, div_i, mod_i, pow_18, c_eq, c_ne, c_lt, c_le, c_gt, c_ge, c_is, c_isn, isNon_n, isNon_i, isNon_b, isNon_t, isNon_L, tr_b, tr_i, tr_n, abs_i, int_i, max_i, min_i, isD_i, isD_b, isD_n, isD_t, isD_s, isD_L, val_L, val_t, ix_L, ix_t, at_0, at_1, at_2, atI_last, cat_isEmpty, dz, dpos,  List.dropLast_concat, List.reverse_nil, List.reverse_cons, bltD, optInt, itE_def, itD, isRng, bindT, bindT.go, wipe, fold_l, sum_l, cov_W, cov_M, eqD_MWr, eqD_MMr, imm_l, fr_l, fr_i, fr_b, fr_n, fr_s, fr_lst, lenD_l, listD_l, valD_l, revD_l, bckD_l, truth_l, isD_l, isNon_l, add_l, popD_l, appD_l, eqD_I, eqD_W, eqD_M, ixD_l, u_0, u_1, u_2, u_3, u_8, d_0, d_1, d_2, d_3, d_4, d_8, List.getElem?_cons_succ, List.getElem?_cons_zero, List.set_cons_succ, List.set_cons_zero, List.getD_cons_succ, List.getD_cons_zero, List.map_cons, List.map_nil, List.length_cons, List.length_nil, List.append_nil, List.nil_append, List.cons_append, List.replicate_succ, List.replicate_zero, Nat.reduceAdd, Nat.reduceSub, Nat.reduceLeDiff, Nat.reduceLT, Nat.zero_le, Nat.le_refl, ne_eq, not_true_eq_false, not_false_eq_true, Bool.or_self, Bool.or_false, Bool.false_or, Bool.or_true, Bool.true_or, Bool.and_true, Bool.true_and, Bool.and_false, Bool.false_and, Bool.not_true, Bool.not_false, decide_true, decide_false, decide_eq_true_eq, if_true, if_false, ite_true, ite_false, reduceIte, reduceCtorEq, Nat.reduceEqDiff, Nat.succ_ne_zero, Nat.one_ne_zero, small_def, PySem.sizeLine, Nat.reduceMul, beq_self_eq_true, Int.reduceMul, Int.reduceSub, Option.map_some, Option.map_none, true_and, and_true, and_self, Int.reduceNeg, Int.reduceAdd, Int.reduceLT, Int.reduceLE, Int.reducePow, Nat.reducePow, Int.reduceToNat, decide_eq_true h0, one_W D.int, W2, putD_l eW _ _ _ _ _ _ ix]
  by_cases h1 : o = x
  · refine ⟨_, _, step0 x0 (by omega), ?_⟩
    simp only [F__law_way_back_map, nth, thenS, runR_rt, runR_nx, x_skip, x_seq, x_ite, x_asg, x_par, x_ret, x_retv, x_rett, x_app, x_pop, x_put, x_put2, sq_nx, sq_rt, ic_t, ic_f, setO_one, parO_some, setT, setT.go, setV, esc, esc0, ownd, demote, cov, cov.covL, List.any_cons, List.any_nil, vars, varsS, chgR, chg, pthD, Pth.root, Pth.toE, mvR, RT.slots, minK, e_cst, e_var, e_lst, e_tup, e_bin, e_neg, e_cmp, e_chn, e_and, e_or, e_not, e_idx, e_sli, e_bck, e_blt, e_call, es_nil, es_cons, cond_def, aB_t, aB_f, oB_t, oB_f, add_i, sub_i, mul_i, div_i, mod_i, pow_18, c_eq, c_ne, c_lt, c_le, c_gt, c_ge, c_is, c_isn, isNon_n, isNon_i, isNon_b, isNon_t, isNon_L, tr_b, tr_i, tr_n, abs_i, int_i, max_i, min_i, isD_i, isD_b, isD_n, isD_t, isD_s, isD_L, val_L, val_t, ix_L, ix_t, at_0, at_1, at_2, atI_last, cat_isEmpty, dz, dpos,  List.dropLast_concat, List.reverse_nil, List.reverse_cons, bltD, optInt, itE_def, itD, isRng, bindT, bindT.go, wipe, fold_l, sum_l, cov_W, cov_M, eqD_MWr, eqD_MMr, imm_l, fr_l, fr_i, fr_b, fr_n, fr_s, fr_lst, lenD_l, listD_l, valD_l, revD_l, bckD_l, truth_l, isD_l, isNon_l, add_l, popD_l, appD_l, eqD_I, eqD_W, eqD_M, ixD_l, u_0, u_1, u_2, u_3, u_8, d_0, d_1, d_2, d_3, d_4, d_8, List.getElem?_cons_succ, List.getElem?_cons_zero, List.set_cons_succ, List.set_cons_zero, List.getD_cons_succ, List.getD_cons_zero, List.map_cons, List.map_nil, List.length_cons, List.length_nil, List.append_nil, List.nil_append, List.cons_append, List.replicate_succ, List.replicate_zero, Nat.reduceAdd, Nat.reduceSub, Nat.reduceLeDiff, Nat.reduceLT, Nat.zero_le, Nat.le_refl, ne_eq, not_true_eq_false, not_false_eq_true, Bool.or_self, Bool.or_false, Bool.false_or, Bool.or_true, Bool.true_or, Bool.and_true, Bool.true_and, Bool.and_false, Bool.false_and, Bool.not_true, Bool.not_false, decide_true, decide_false, decide_eq_true_eq, if_true, if_false, ite_true, ite_false, reduceIte, reduceCtorEq, Nat.reduceEqDiff, Nat.succ_ne_zero, Nat.one_ne_zero, small_def, PySem.sizeLine, Nat.reduceMul, beq_self_eq_true, Int.reduceMul, Int.reduceSub, Option.map_some, Option.map_none, true_and, and_true, and_self, Int.reduceNeg, Int.reduceAdd, Int.reduceLT, Int.reduceLE, Int.reducePow, Nat.reducePow, Int.reduceToNat, decide_eq_false h0, decide_eq_true h1, one_W D.int, W2, putD_l eW _ _ _ _ _ _ ix]
  by_cases h2 : k = 1
  · refine ⟨_, _, step1 x0 (by omega) o0 (by omega) h1, ?_⟩
    simp only [F__law_way_back_map, nth, thenS, runR_rt, runR_nx, x_skip, x_seq, x_ite, x_asg, x_par, x_ret, x_retv, x_rett, x_app, x_pop, x_put, x_put2, sq_nx, sq_rt, ic_t, ic_f, setO_one, parO_some, setT, setT.go, setV, esc, esc0, ownd, demote, cov, cov.covL, List.any_cons, List.any_nil, vars, varsS, chgR, chg, pthD, Pth.root, Pth.toE, mvR, RT.slots, minK, e_cst, e_var, e_lst, e_tup, e_bin, e_neg, e_cmp, e_chn, e_and, e_or, e_not, e_idx, e_sli, e_bck, e_blt, e_call, es_nil, es_cons, cond_def, aB_t, aB_f, oB_t, oB_f, add_i, sub_i, mul_i, div_i, mod_i, pow_18, c_eq, c_ne, c_lt, c_le, c_gt, c_ge, c_is, c_isn, isNon_n, isNon_i, isNon_b, isNon_t, isNon_L, tr_b, tr_i, tr_n, abs_i, int_i, max_i, min_i, isD_i, isD_b, isD_n, isD_t, isD_s, isD_L, val_L, val_t, ix_L, ix_t, at_0, at_1, at_2, atI_last, cat_isEmpty, dz, dpos,  List.dropLast_concat, List.reverse_nil, List.reverse_cons, bltD, optInt, itE_def, itD, isRng, bindT, bindT.go, wipe, fold_l, sum_l, cov_W, cov_M, eqD_MWr, eqD_MMr, imm_l, fr_l, fr_i, fr_b, fr_n, fr_s, fr_lst, lenD_l, listD_l, valD_l, revD_l, bckD_l, truth_l, isD_l, isNon_l, add_l, popD_l, appD_l, eqD_I, eqD_W, eqD_M, ixD_l, u_0, u_1, u_2, u_3, u_8, d_0, d_1, d_2, d_3, d_4, d_8, List.getElem?_cons_succ, List.getElem?_cons_zero, List.set_cons_succ, List.set_cons_zero, List.getD_cons_succ, List.getD_cons_zero, List.map_cons, List.map_nil, List.length_cons, List.length_nil, List.append_nil, List.nil_append, List.cons_append, List.replicate_succ, List.replicate_zero, Nat.reduceAdd, Nat.reduceSub, Nat.reduceLeDiff, Nat.reduceLT, Nat.zero_le, Nat.le_refl, ne_eq, not_true_eq_false, not_false_eq_true, Bool.or_self, Bool.or_false, Bool.false_or, Bool.or_true, Bool.true_or, Bool.and_true, Bool.true_and, Bool.and_false, Bool.false_and, Bool.not_true, Bool.not_false, decide_true, decide_false, decide_eq_true_eq, if_true, if_false, ite_true, ite_false, reduceIte, reduceCtorEq, Nat.reduceEqDiff, Nat.succ_ne_zero, Nat.one_ne_zero, small_def, PySem.sizeLine, Nat.reduceMul, beq_self_eq_true, Int.reduceMul, Int.reduceSub, Option.map_some, Option.map_none, true_and, and_true, and_self, Int.reduceNeg, Int.reduceAdd, Int.reduceLT, Int.reduceLE, Int.reducePow, Nat.reducePow, Int.reduceToNat, decide_eq_false h0, decide_eq_false h1, decide_eq_true h2, one_W D.int, W2, putD_l eW _ _ _ _ _ _ ix]
  by_cases h3 : k = 2
  · refine ⟨_, _, step2 x0 (by omega) o0 (by omega) h1, ?_⟩
    simp only [F__law_way_back_map, nth, thenS, runR_rt, runR_nx, x_skip, x_seq, x_ite, x_asg, x_par, x_ret, x_retv, x_rett, x_app, x_pop, x_put, x_put2, sq_nx, sq_rt, ic_t, ic_f, setO_one, parO_some, setT, setT.go, setV, esc, esc0, ownd, demote, cov, cov.covL, List.any_cons, List.any_nil, vars, varsS, chgR, chg, pthD, Pth.root, Pth.toE, mvR, RT.slots, minK, e_cst, e_var, e_lst, e_tup, e_bin, e_neg, e_cmp, e_chn, e_and, e_or, e_not, e_idx, e_sli, e_bck, e_blt, e_call, es_nil, es_cons, cond_def, aB_t, aB_f, oB_t, oB_f, add_i, sub_i, mul_i, div_i, mod_i, pow_18, c_eq, c_ne, c_lt, c_le, c_gt, c_ge, c_is, c_isn, isNon_n, isNon_i, isNon_b, isNon_t, isNon_L, tr_b, tr_i, tr_n, abs_i, int_i, max_i, min_i, isD_i, isD_b, isD_n, isD_t, isD_s, isD_L, val_L, val_t, ix_L, ix_t, at_0, at_1, at_2, atI_last, cat_isEmpty, dz, dpos,  List.dropLast_concat, List.reverse_nil, List.reverse_cons, bltD, optInt, itE_def, itD, isRng, bindT, bindT.go, wipe, fold_l, sum_l, cov_W, cov_M, eqD_MWr, eqD_MMr, imm_l, fr_l, fr_i, fr_b, fr_n, fr_s, fr_lst, lenD_l, listD_l, valD_l, revD_l, bckD_l, truth_l, isD_l, isNon_l, add_l, popD_l, appD_l, eqD_I, eqD_W, eqD_M, ixD_l, u_0, u_1, u_2, u_3, u_8, d_0, d_1, d_2, d_3, d_4, d_8, List.getElem?_cons_succ, List.getElem?_cons_zero, List.set_cons_succ, List.set_cons_zero, List.getD_cons_succ, List.getD_cons_zero, List.map_cons, List.map_nil, List.length_cons, List.length_nil, List.append_nil, List.nil_append, List.cons_append, List.replicate_succ, List.replicate_zero, Nat.reduceAdd, Nat.reduceSub, Nat.reduceLeDiff, Nat.reduceLT, Nat.zero_le, Nat.le_refl, ne_eq, not_true_eq_false, not_false_eq_true, Bool.or_self, Bool.or_false, Bool.false_or, Bool.or_true, Bool.true_or, Bool.and_true, Bool.true_and, Bool.and_false, Bool.false_and, Bool.not_true, Bool.not_false, decide_true, decide_false, decide_eq_true_eq, if_true, if_false, ite_true, ite_false, reduceIte, reduceCtorEq, Nat.reduceEqDiff, Nat.succ_ne_zero, Nat.one_ne_zero, small_def, PySem.sizeLine, Nat.reduceMul, beq_self_eq_true, Int.reduceMul, Int.reduceSub, Option.map_some, Option.map_none, true_and, and_true, and_self, Int.reduceNeg, Int.reduceAdd, Int.reduceLT, Int.reduceLE, Int.reducePow, Nat.reducePow, Int.reduceToNat, decide_eq_false h0, decide_eq_false h1, decide_eq_false h2, decide_eq_true h3, one_W D.int, W2, putD_l eW _ _ _ _ _ _ ix]
  · refine ⟨_, _, step3 x0 (by omega) o0 (by omega) h1, ?_⟩
    have ix2 := ix_of (n := ((rest L.toNat).set (x - 1).toNat [o]).length) (i := o - 1) (by omega) (by rw [List.length_set]; omega)
    simp only [F__law_way_back_map, nth, thenS, runR_rt, runR_nx, x_skip, x_seq, x_ite, x_asg, x_par, x_ret, x_retv, x_rett, x_app, x_pop, x_put, x_put2, sq_nx, sq_rt, ic_t, ic_f, setO_one, parO_some, setT, setT.go, setV, esc, esc0, ownd, demote, cov, cov.covL, List.any_cons, List.any_nil, vars, varsS, chgR, chg, pthD, Pth.root, Pth.toE, mvR, RT.slots, minK, e_cst, e_var, e_lst, e_tup, e_bin, e_neg, e_cmp, e_chn, e_and, e_or, e_not, e_idx, e_sli, e_bck, e_blt, e_call, es_nil, es_cons, cond_def, aB_t, aB_f, oB_t, oB_f, add_i, sub_i, mul_i, div_i, mod_i, pow_18, c_eq, c_ne, c_lt, c_le, c_gt, c_ge, c_is, c_isn, isNon_n, isNon_i, isNon_b, isNon_t, isNon_L, tr_b, tr_i, tr_n, abs_i, int_i, max_i, min_i, isD_i, isD_b, isD_n, isD_t, isD_s, isD_L, val_L, val_t, ix_L, ix_t, at_0, at_1, at_2, atI_last, cat_isEmpty, dz, dpos,  List.dropLast_concat, List.reverse_nil, List.reverse_cons, bltD, optInt, itE_def, itD, isRng, bindT, bindT.go, wipe, fold_l, sum_l, cov_W, cov_M, eqD_MWr, eqD_MMr, imm_l, fr_l, fr_i, fr_b, fr_n, fr_s, fr_lst, lenD_l, listD_l, valD_l, revD_l, bckD_l, truth_l, isD_l, isNon_l, add_l, popD_l, appD_l, eqD_I, eqD_W, eqD_M, ixD_l, u_0, u_1, u_2, u_3, u_8, d_0, d_1, d_2, d_3, d_4, d_8, List.getElem?_cons_succ, List.getElem?_cons_zero, List.set_cons_succ, List.set_cons_zero, List.getD_cons_succ, List.getD_cons_zero, List.map_cons, List.map_nil, List.length_cons, List.length_nil, List.append_nil, List.nil_append, List.cons_append, List.replicate_succ, List.replicate_zero, Nat.reduceAdd, Nat.reduceSub, Nat.reduceLeDiff, Nat.reduceLT, Nat.zero_le, Nat.le_refl, ne_eq, not_true_eq_false, not_false_eq_true, Bool.or_self, Bool.or_false, Bool.false_or, Bool.or_true, Bool.true_or, Bool.and_true, Bool.true_and, Bool.and_false, Bool.false_and, Bool.not_true, Bool.not_false, decide_true, decide_false, decide_eq_true_eq, if_true, if_false, ite_true, ite_false, reduceIte, reduceCtorEq, Nat.reduceEqDiff, Nat.succ_ne_zero, Nat.one_ne_zero, small_def, PySem.sizeLine, Nat.reduceMul, beq_self_eq_true, Int.reduceMul, Int.reduceSub, Option.map_some, Option.map_none, true_and, and_true, and_self, Int.reduceNeg, Int.reduceAdd, Int.reduceLT, Int.reduceLE, Int.reducePow, Nat.reducePow, Int.reduceToNat, decide_eq_false h0, decide_eq_false h1, decide_eq_false h2, decide_eq_false h3, one_W D.int, W2, putD_l eW _ _ _ _ _ _ ix, putD_l eW _ _ _ _ _ _ ix2]
theorem wb_ok1 {L : Nat} {T B S U : List (List Int)} (h : WB L T B) (hs : StepOk L S U) : ∀ w ∈ T, Ok S w := fun w hw => Ok.mk' (b := 2) (c := 60) (by rw [hs.s.1]; exact h.t.2 w hw) hs.sl (h.tl w hw) (by omega) (by omega)
theorem wb_ok2 {L : Nat} {T B S U : List (List Int)} (h : WB L T B) (hs : StepOk L S U) : ∀ w ∈ U, Ok B w := fun w hw => Ok.mk' (b := 60) (c := 2) (by rw [h.b.1]; exact hs.u.2 w hw) h.bl (hs.ul w hw) (by omega) (by omega)
theorem wb_m (n : Nat) (ds : List Int) (at' L many most : Int) (T B S U : List (List Int)) (j7 j8 j9 j10 j13 j14 j15 j16 : Option (D × Nat)) (hL' : L ≤ 100) (h : WB L.toNat T B) (hs : StepOk L.toNat S U) :
    exec (Phi prog (n + 3)) F__law_way_back_map.own F__law_way_back_map.ret (nth (thenS (nth F__law_way_back_map.body 1)) 5) (WBs ds at' L many most T B j7 j8 j9 j10 (some (eM S, 1)) (some (eM U, 1)) j13 j14 j15 j16) =
      some (.nx (WBs ds at' L many most T B j7 j8 j9 j10 (some (eM S, 1)) (some (eM U, 1)) (some (eM (after T S), 0)) (some (eM (after U B), 0)) j15 j16)) := by
  have c1 := ev_after n T S (by rw [h.t.1]; omega) (wb_ok1 h hs)
  have c2 := ev_after n U B (by rw [hs.u.1]; omega) (wb_ok2 h hs)
  simp only [F__law_way_back_map, nth, thenS, runR_rt, runR_nx, x_skip, x_seq, x_ite, x_asg, x_par, x_ret, x_retv, x_rett, x_app, x_pop, x_put, x_put2, sq_nx, sq_rt, ic_t, ic_f, setO_one, parO_some, setT, setT.go, setV, esc, esc0, ownd, demote, cov, cov.covL, List.any_cons, List.any_nil, vars, varsS, chgR, chg, pthD, Pth.root, Pth.toE, mvR, RT.slots, minK, e_cst, e_var, e_lst, e_tup, e_bin, e_neg, e_cmp, e_chn, e_and, e_or, e_not, e_idx, e_sli, e_bck, e_blt, e_call, es_nil, es_cons, cond_def, aB_t, aB_f, oB_t, oB_f, add_i, sub_i, mul_i, div_i, mod_i, pow_18, c_eq, c_ne, c_lt, c_le, c_gt, c_ge, c_is, c_isn, isNon_n, isNon_i, isNon_b, isNon_t, isNon_L, tr_b, tr_i, tr_n, abs_i, int_i, max_i, min_i, isD_i, isD_b, isD_n, isD_t, isD_s, isD_L, val_L, val_t, ix_L, ix_t, at_0, at_1, at_2, atI_last, cat_isEmpty, dz, dpos,  List.dropLast_concat, List.reverse_nil, List.reverse_cons, bltD, optInt, itE_def, itD, isRng, bindT, bindT.go, wipe, fold_l, sum_l, cov_W, cov_M, eqD_MWr, eqD_MMr, imm_l, fr_l, fr_i, fr_b, fr_n, fr_s, fr_lst, lenD_l, listD_l, valD_l, revD_l, bckD_l, truth_l, isD_l, isNon_l, add_l, popD_l, appD_l, eqD_I, eqD_W, eqD_M, ixD_l, u_0, u_1, u_2, u_3, u_8, d_0, d_1, d_2, d_3, d_4, d_8, List.getElem?_cons_succ, List.getElem?_cons_zero, List.set_cons_succ, List.set_cons_zero, List.getD_cons_succ, List.getD_cons_zero, List.map_cons, List.map_nil, List.length_cons, List.length_nil, List.append_nil, List.nil_append, List.cons_append, List.replicate_succ, List.replicate_zero, Nat.reduceAdd, Nat.reduceSub, Nat.reduceLeDiff, Nat.reduceLT, Nat.zero_le, Nat.le_refl, ne_eq, not_true_eq_false, not_false_eq_true, Bool.or_self, Bool.or_false, Bool.false_or, Bool.or_true, Bool.true_or, Bool.and_true, Bool.true_and, Bool.and_false, Bool.false_and, Bool.not_true, Bool.not_false, decide_true, decide_false, decide_eq_true_eq, if_true, if_false, ite_true, ite_false, reduceIte, reduceCtorEq, Nat.reduceEqDiff, Nat.succ_ne_zero, Nat.one_ne_zero, small_def, PySem.sizeLine, Nat.reduceMul, beq_self_eq_true, Int.reduceMul, Int.reduceSub, Option.map_some, Option.map_none, true_and, and_true, and_self, Int.reduceNeg, Int.reduceAdd, Int.reduceLT, Int.reduceLE, Int.reducePow, Nat.reducePow, Int.reduceToNat, c1, c2]
theorem wb_e (Φ : PhiT) (ds : List Int) (at' L many : Int) (T B T' B' : List (List Int)) (j7 j8 j9 j10 j11 j12 j15 j16 : Option (D × Nat)) (l1 : T'.length ≤ 1000) (l2 : B'.length ≤ 1000) :
    ∃ T2 B2, ((T2 = T ∧ B2 = B) ∨ (T2 = T' ∧ B2 = B' ∧ (∀ w ∈ T', w.length ≤ 60) ∧ (∀ w ∈ B', w.length ≤ 60))) ∧
    exec Φ F__law_way_back_map.own F__law_way_back_map.ret (nth (thenS (nth F__law_way_back_map.body 1)) 6) (WBs ds at' L many 60 T B j7 j8 j9 j10 j11 j12 (some (eM T', 0)) (some (eM B', 0)) j15 j16) =
      some (.nx (WBs ds at' L many 60 T2 B2 j7 j8 j9 j10 j11 j12 (some (eM T', 0)) (some (eM B', 0)) j15 j16)) := by
  have s1 : evalE Φ (.cmpr (.one 16) [15, 16] .val (.cons (.var 13) .nil) (.cst (.bl true)) (.blt .len (.cons (.var 16) .nil)) 8) (WBs ds at' L many 60 T B j7 j8 j9 j10 j11 j12 (some (eM T', 0)) (some (eM B', 0)) j15 j16) = some (eW (T'.map fun w => (w.length : Int)), up 8) := by
    refine e_mapF eW D.int (fun w => (w.length : Int)) T' ?_ (by omega) ?_
    · simp only [e_cst, e_var, e_lst, e_tup, e_bin, e_neg, e_cmp, e_chn, e_and, e_or, e_not, e_idx, e_sli, e_bck, e_blt, e_call, es_nil, es_cons, cond_def, aB_t, aB_f, oB_t, oB_f, add_i, sub_i, mul_i, div_i, mod_i, pow_18, c_eq, c_ne, c_lt, c_le, c_gt, c_ge, c_is, c_isn, isNon_n, isNon_i, isNon_b, isNon_t, isNon_L, tr_b, tr_i, tr_n, abs_i, int_i, max_i, min_i, isD_i, isD_b, isD_n, isD_t, isD_s, isD_L, val_L, val_t, ix_L, ix_t, at_0, at_1, at_2, atI_last, cat_isEmpty, dz, dpos,  List.dropLast_concat, List.reverse_nil, List.reverse_cons, bltD, optInt, itE_def, itD, isRng, bindT, bindT.go, wipe, fold_l, sum_l, cov_W, cov_M, eqD_MWr, eqD_MMr, imm_l, fr_l, fr_i, fr_b, fr_n, fr_s, fr_lst, lenD_l, listD_l, valD_l, revD_l, bckD_l, truth_l, isD_l, isNon_l, add_l, popD_l, appD_l, eqD_I, eqD_W, eqD_M, ixD_l, u_0, u_1, u_2, u_3, u_8, d_0, d_1, d_2, d_3, d_4, d_8, List.getElem?_cons_succ, List.getElem?_cons_zero, List.set_cons_succ, List.set_cons_zero, List.getD_cons_succ, List.getD_cons_zero, List.map_cons, List.map_nil, List.length_cons, List.length_nil, List.append_nil, List.nil_append, List.cons_append, List.replicate_succ, List.replicate_zero, Nat.reduceAdd, Nat.reduceSub, Nat.reduceLeDiff, Nat.reduceLT, Nat.zero_le, Nat.le_refl, ne_eq, not_true_eq_false, not_false_eq_true, Bool.or_self, Bool.or_false, Bool.false_or, Bool.or_true, Bool.true_or, Bool.and_true, Bool.true_and, Bool.and_false, Bool.false_and, Bool.not_true, Bool.not_false, decide_true, decide_false, decide_eq_true_eq, if_true, if_false, ite_true, ite_false, reduceIte, reduceCtorEq, Nat.reduceEqDiff, Nat.succ_ne_zero, Nat.one_ne_zero, small_def, PySem.sizeLine, Nat.reduceMul, beq_self_eq_true, Int.reduceMul, Int.reduceSub, Option.map_some, Option.map_none, true_and, and_true, and_self, Int.reduceNeg, Int.reduceAdd, Int.reduceLT, Int.reduceLE, Int.reducePow, Nat.reducePow, Int.reduceToNat]
    · intro a ha
      simp only [cmB_def, runR_rt, runR_nx, x_skip, x_seq, x_ite, x_asg, x_par, x_ret, x_retv, x_rett, x_app, x_pop, x_put, x_put2, sq_nx, sq_rt, ic_t, ic_f, setO_one, parO_some, setT, setT.go, setV, esc, esc0, ownd, demote, cov, cov.covL, List.any_cons, List.any_nil, vars, varsS, chgR, chg, pthD, Pth.root, Pth.toE, mvR, RT.slots, minK, e_cst, e_var, e_lst, e_tup, e_bin, e_neg, e_cmp, e_chn, e_and, e_or, e_not, e_idx, e_sli, e_bck, e_blt, e_call, es_nil, es_cons, cond_def, aB_t, aB_f, oB_t, oB_f, add_i, sub_i, mul_i, div_i, mod_i, pow_18, c_eq, c_ne, c_lt, c_le, c_gt, c_ge, c_is, c_isn, isNon_n, isNon_i, isNon_b, isNon_t, isNon_L, tr_b, tr_i, tr_n, abs_i, int_i, max_i, min_i, isD_i, isD_b, isD_n, isD_t, isD_s, isD_L, val_L, val_t, ix_L, ix_t, at_0, at_1, at_2, atI_last, cat_isEmpty, dz, dpos,  List.dropLast_concat, List.reverse_nil, List.reverse_cons, bltD, optInt, itE_def, itD, isRng, bindT, bindT.go, wipe, fold_l, sum_l, cov_W, cov_M, eqD_MWr, eqD_MMr, imm_l, fr_l, fr_i, fr_b, fr_n, fr_s, fr_lst, lenD_l, listD_l, valD_l, revD_l, bckD_l, truth_l, isD_l, isNon_l, add_l, popD_l, appD_l, eqD_I, eqD_W, eqD_M, ixD_l, u_0, u_1, u_2, u_3, u_8, d_0, d_1, d_2, d_3, d_4, d_8, List.getElem?_cons_succ, List.getElem?_cons_zero, List.set_cons_succ, List.set_cons_zero, List.getD_cons_succ, List.getD_cons_zero, List.map_cons, List.map_nil, List.length_cons, List.length_nil, List.append_nil, List.nil_append, List.cons_append, List.replicate_succ, List.replicate_zero, Nat.reduceAdd, Nat.reduceSub, Nat.reduceLeDiff, Nat.reduceLT, Nat.zero_le, Nat.le_refl, ne_eq, not_true_eq_false, not_false_eq_true, Bool.or_self, Bool.or_false, Bool.false_or, Bool.or_true, Bool.true_or, Bool.and_true, Bool.true_and, Bool.and_false, Bool.false_and, Bool.not_true, Bool.not_false, decide_true, decide_false, decide_eq_true_eq, if_true, if_false, ite_true, ite_false, reduceIte, reduceCtorEq, Nat.reduceEqDiff, Nat.succ_ne_zero, Nat.one_ne_zero, small_def, PySem.sizeLine, Nat.reduceMul, beq_self_eq_true, Int.reduceMul, Int.reduceSub, Option.map_some, Option.map_none, true_and, and_true, and_self, Int.reduceNeg, Int.reduceAdd, Int.reduceLT, Int.reduceLE, Int.reducePow, Nat.reducePow, Int.reduceToNat]
  have s2 : evalE Φ (.cmpr (.one 16) [15, 16] .val (.cons (.var 14) .nil) (.cst (.bl true)) (.blt .len (.cons (.var 16) .nil)) 8) (WBs ds at' L many 60 T B j7 j8 j9 j10 j11 j12 (some (eM T', 0)) (some (eM B', 0)) j15 j16) = some (eW (B'.map fun w => (w.length : Int)), up 8) := by
    refine e_mapF eW D.int (fun w => (w.length : Int)) B' ?_ (by omega) ?_
    · simp only [e_cst, e_var, e_lst, e_tup, e_bin, e_neg, e_cmp, e_chn, e_and, e_or, e_not, e_idx, e_sli, e_bck, e_blt, e_call, es_nil, es_cons, cond_def, aB_t, aB_f, oB_t, oB_f, add_i, sub_i, mul_i, div_i, mod_i, pow_18, c_eq, c_ne, c_lt, c_le, c_gt, c_ge, c_is, c_isn, isNon_n, isNon_i, isNon_b, isNon_t, isNon_L, tr_b, tr_i, tr_n, abs_i, int_i, max_i, min_i, isD_i, isD_b, isD_n, isD_t, isD_s, isD_L, val_L, val_t, ix_L, ix_t, at_0, at_1, at_2, atI_last, cat_isEmpty, dz, dpos,  List.dropLast_concat, List.reverse_nil, List.reverse_cons, bltD, optInt, itE_def, itD, isRng, bindT, bindT.go, wipe, fold_l, sum_l, cov_W, cov_M, eqD_MWr, eqD_MMr, imm_l, fr_l, fr_i, fr_b, fr_n, fr_s, fr_lst, lenD_l, listD_l, valD_l, revD_l, bckD_l, truth_l, isD_l, isNon_l, add_l, popD_l, appD_l, eqD_I, eqD_W, eqD_M, ixD_l, u_0, u_1, u_2, u_3, u_8, d_0, d_1, d_2, d_3, d_4, d_8, List.getElem?_cons_succ, List.getElem?_cons_zero, List.set_cons_succ, List.set_cons_zero, List.getD_cons_succ, List.getD_cons_zero, List.map_cons, List.map_nil, List.length_cons, List.length_nil, List.append_nil, List.nil_append, List.cons_append, List.replicate_succ, List.replicate_zero, Nat.reduceAdd, Nat.reduceSub, Nat.reduceLeDiff, Nat.reduceLT, Nat.zero_le, Nat.le_refl, ne_eq, not_true_eq_false, not_false_eq_true, Bool.or_self, Bool.or_false, Bool.false_or, Bool.or_true, Bool.true_or, Bool.and_true, Bool.true_and, Bool.and_false, Bool.false_and, Bool.not_true, Bool.not_false, decide_true, decide_false, decide_eq_true_eq, if_true, if_false, ite_true, ite_false, reduceIte, reduceCtorEq, Nat.reduceEqDiff, Nat.succ_ne_zero, Nat.one_ne_zero, small_def, PySem.sizeLine, Nat.reduceMul, beq_self_eq_true, Int.reduceMul, Int.reduceSub, Option.map_some, Option.map_none, true_and, and_true, and_self, Int.reduceNeg, Int.reduceAdd, Int.reduceLT, Int.reduceLE, Int.reducePow, Nat.reducePow, Int.reduceToNat]
    · intro a ha
      simp only [cmB_def, runR_rt, runR_nx, x_skip, x_seq, x_ite, x_asg, x_par, x_ret, x_retv, x_rett, x_app, x_pop, x_put, x_put2, sq_nx, sq_rt, ic_t, ic_f, setO_one, parO_some, setT, setT.go, setV, esc, esc0, ownd, demote, cov, cov.covL, List.any_cons, List.any_nil, vars, varsS, chgR, chg, pthD, Pth.root, Pth.toE, mvR, RT.slots, minK, e_cst, e_var, e_lst, e_tup, e_bin, e_neg, e_cmp, e_chn, e_and, e_or, e_not, e_idx, e_sli, e_bck, e_blt, e_call, es_nil, es_cons, cond_def, aB_t, aB_f, oB_t, oB_f, add_i, sub_i, mul_i, div_i, mod_i, pow_18, c_eq, c_ne, c_lt, c_le, c_gt, c_ge, c_is, c_isn, isNon_n, isNon_i, isNon_b, isNon_t, isNon_L, tr_b, tr_i, tr_n, abs_i, int_i, max_i, min_i, isD_i, isD_b, isD_n, isD_t, isD_s, isD_L, val_L, val_t, ix_L, ix_t, at_0, at_1, at_2, atI_last, cat_isEmpty, dz, dpos,  List.dropLast_concat, List.reverse_nil, List.reverse_cons, bltD, optInt, itE_def, itD, isRng, bindT, bindT.go, wipe, fold_l, sum_l, cov_W, cov_M, eqD_MWr, eqD_MMr, imm_l, fr_l, fr_i, fr_b, fr_n, fr_s, fr_lst, lenD_l, listD_l, valD_l, revD_l, bckD_l, truth_l, isD_l, isNon_l, add_l, popD_l, appD_l, eqD_I, eqD_W, eqD_M, ixD_l, u_0, u_1, u_2, u_3, u_8, d_0, d_1, d_2, d_3, d_4, d_8, List.getElem?_cons_succ, List.getElem?_cons_zero, List.set_cons_succ, List.set_cons_zero, List.getD_cons_succ, List.getD_cons_zero, List.map_cons, List.map_nil, List.length_cons, List.length_nil, List.append_nil, List.nil_append, List.cons_append, List.replicate_succ, List.replicate_zero, Nat.reduceAdd, Nat.reduceSub, Nat.reduceLeDiff, Nat.reduceLT, Nat.zero_le, Nat.le_refl, ne_eq, not_true_eq_false, not_false_eq_true, Bool.or_self, Bool.or_false, Bool.false_or, Bool.or_true, Bool.true_or, Bool.and_true, Bool.true_and, Bool.and_false, Bool.false_and, Bool.not_true, Bool.not_false, decide_true, decide_false, decide_eq_true_eq, if_true, if_false, ite_true, ite_false, reduceIte, reduceCtorEq, Nat.reduceEqDiff, Nat.succ_ne_zero, Nat.one_ne_zero, small_def, PySem.sizeLine, Nat.reduceMul, beq_self_eq_true, Int.reduceMul, Int.reduceSub, Option.map_some, Option.map_none, true_and, and_true, and_self, Int.reduceNeg, Int.reduceAdd, Int.reduceLT, Int.reduceLE, Int.reducePow, Nat.reducePow, Int.reduceToNat]
  generalize hz1 : (T'.map fun w => (w.length : Int)).sum = z1
  generalize hz2 : (B'.map fun w => (w.length : Int)).sum = z2
  by_cases h1 : z1 ≤ 60
  · by_cases h2 : z2 ≤ 60
    · refine ⟨T', B', .inr ⟨rfl, rfl, fun w hw => by have := sum_len hw; omega, fun w hw => by have := sum_len hw; omega⟩, ?_⟩
      simp only [F__law_way_back_map, nth, thenS, runR_rt, runR_nx, x_skip, x_seq, x_ite, x_asg, x_par, x_ret, x_retv, x_rett, x_app, x_pop, x_put, x_put2, sq_nx, sq_rt, ic_t, ic_f, setO_one, parO_some, setT, setT.go, setV, esc, esc0, ownd, demote, cov, cov.covL, List.any_cons, List.any_nil, vars, varsS, chgR, chg, pthD, Pth.root, Pth.toE, mvR, RT.slots, minK, e_cst, e_var, e_lst, e_tup, e_bin, e_neg, e_cmp, e_chn, e_and, e_or, e_not, e_idx, e_sli, e_bck, e_blt, e_call, es_nil, es_cons, cond_def, aB_t, aB_f, oB_t, oB_f, add_i, sub_i, mul_i, div_i, mod_i, pow_18, c_eq, c_ne, c_lt, c_le, c_gt, c_ge, c_is, c_isn, isNon_n, isNon_i, isNon_b, isNon_t, isNon_L, tr_b, tr_i, tr_n, abs_i, int_i, max_i, min_i, isD_i, isD_b, isD_n, isD_t, isD_s, isD_L, val_L, val_t, ix_L, ix_t, at_0, at_1, at_2, atI_last, cat_isEmpty, dz, dpos,  List.dropLast_concat, List.reverse_nil, List.reverse_cons, bltD, optInt, itE_def, itD, isRng, bindT, bindT.go, wipe, fold_l, sum_l, cov_W, cov_M, eqD_MWr, eqD_MMr, imm_l, fr_l, fr_i, fr_b, fr_n, fr_s, fr_lst, lenD_l, listD_l, valD_l, revD_l, bckD_l, truth_l, isD_l, isNon_l, add_l, popD_l, appD_l, eqD_I, eqD_W, eqD_M, ixD_l, u_0, u_1, u_2, u_3, u_8, d_0, d_1, d_2, d_3, d_4, d_8, List.getElem?_cons_succ, List.getElem?_cons_zero, List.set_cons_succ, List.set_cons_zero, List.getD_cons_succ, List.getD_cons_zero, List.map_cons, List.map_nil, List.length_cons, List.length_nil, List.append_nil, List.nil_append, List.cons_append, List.replicate_succ, List.replicate_zero, Nat.reduceAdd, Nat.reduceSub, Nat.reduceLeDiff, Nat.reduceLT, Nat.zero_le, Nat.le_refl, ne_eq, not_true_eq_false, not_false_eq_true, Bool.or_self, Bool.or_false, Bool.false_or, Bool.or_true, Bool.true_or, Bool.and_true, Bool.true_and, Bool.and_false, Bool.false_and, Bool.not_true, Bool.not_false, decide_true, decide_false, decide_eq_true_eq, if_true, if_false, ite_true, ite_false, reduceIte, reduceCtorEq, Nat.reduceEqDiff, Nat.succ_ne_zero, Nat.one_ne_zero, small_def, PySem.sizeLine, Nat.reduceMul, beq_self_eq_true, Int.reduceMul, Int.reduceSub, Option.map_some, Option.map_none, true_and, and_true, and_self, Int.reduceNeg, Int.reduceAdd, Int.reduceLT, Int.reduceLE, Int.reducePow, Nat.reducePow, Int.reduceToNat, s1, s2, hz1, hz2, decide_eq_true h1, decide_eq_true h2]
    · refine ⟨T, B, .inl ⟨rfl, rfl⟩, ?_⟩
      simp only [F__law_way_back_map, nth, thenS, runR_rt, runR_nx, x_skip, x_seq, x_ite, x_asg, x_par, x_ret, x_retv, x_rett, x_app, x_pop, x_put, x_put2, sq_nx, sq_rt, ic_t, ic_f, setO_one, parO_some, setT, setT.go, setV, esc, esc0, ownd, demote, cov, cov.covL, List.any_cons, List.any_nil, vars, varsS, chgR, chg, pthD, Pth.root, Pth.toE, mvR, RT.slots, minK, e_cst, e_var, e_lst, e_tup, e_bin, e_neg, e_cmp, e_chn, e_and, e_or, e_not, e_idx, e_sli, e_bck, e_blt, e_call, es_nil, es_cons, cond_def, aB_t, aB_f, oB_t, oB_f, add_i, sub_i, mul_i, div_i, mod_i, pow_18, c_eq, c_ne, c_lt, c_le, c_gt, c_ge, c_is, c_isn, isNon_n, isNon_i, isNon_b, isNon_t, isNon_L, tr_b, tr_i, tr_n, abs_i, int_i, max_i, min_i, isD_i, isD_b, isD_n, isD_t, isD_s, isD_L, val_L, val_t, ix_L, ix_t, at_0, at_1, at_2, atI_last, cat_isEmpty, dz, dpos,  List.dropLast_concat, List.reverse_nil, List.reverse_cons, bltD, optInt, itE_def, itD, isRng, bindT, bindT.go, wipe, fold_l, sum_l, cov_W, cov_M, eqD_MWr, eqD_MMr, imm_l, fr_l, fr_i, fr_b, fr_n, fr_s, fr_lst, lenD_l, listD_l, valD_l, revD_l, bckD_l, truth_l, isD_l, isNon_l, add_l, popD_l, appD_l, eqD_I, eqD_W, eqD_M, ixD_l, u_0, u_1, u_2, u_3, u_8, d_0, d_1, d_2, d_3, d_4, d_8, List.getElem?_cons_succ, List.getElem?_cons_zero, List.set_cons_succ, List.set_cons_zero, List.getD_cons_succ, List.getD_cons_zero, List.map_cons, List.map_nil, List.length_cons, List.length_nil, List.append_nil, List.nil_append, List.cons_append, List.replicate_succ, List.replicate_zero, Nat.reduceAdd, Nat.reduceSub, Nat.reduceLeDiff, Nat.reduceLT, Nat.zero_le, Nat.le_refl, ne_eq, not_true_eq_false, not_false_eq_true, Bool.or_self, Bool.or_false, Bool.false_or, Bool.or_true, Bool.true_or, Bool.and_true, Bool.true_and, Bool.and_false, Bool.false_and, Bool.not_true, Bool.not_false, decide_true, decide_false, decide_eq_true_eq, if_true, if_false, ite_true, ite_false, reduceIte, reduceCtorEq, Nat.reduceEqDiff, Nat.succ_ne_zero, Nat.one_ne_zero, small_def, PySem.sizeLine, Nat.reduceMul, beq_self_eq_true, Int.reduceMul, Int.reduceSub, Option.map_some, Option.map_none, true_and, and_true, and_self, Int.reduceNeg, Int.reduceAdd, Int.reduceLT, Int.reduceLE, Int.reducePow, Nat.reducePow, Int.reduceToNat, s1, s2, hz1, hz2, decide_eq_true h1, decide_eq_false h2]
  · refine ⟨T, B, .inl ⟨rfl, rfl⟩, ?_⟩
    simp only [F__law_way_back_map, nth, thenS, runR_rt, runR_nx, x_skip, x_seq, x_ite, x_asg, x_par, x_ret, x_retv, x_rett, x_app, x_pop, x_put, x_put2, sq_nx, sq_rt, ic_t, ic_f, setO_one, parO_some, setT, setT.go, setV, esc, esc0, ownd, demote, cov, cov.covL, List.any_cons, List.any_nil, vars, varsS, chgR, chg, pthD, Pth.root, Pth.toE, mvR, RT.slots, minK, e_cst, e_var, e_lst, e_tup, e_bin, e_neg, e_cmp, e_chn, e_and, e_or, e_not, e_idx, e_sli, e_bck, e_blt, e_call, es_nil, es_cons, cond_def, aB_t, aB_f, oB_t, oB_f, add_i, sub_i, mul_i, div_i, mod_i, pow_18, c_eq, c_ne, c_lt, c_le, c_gt, c_ge, c_is, c_isn, isNon_n, isNon_i, isNon_b, isNon_t, isNon_L, tr_b, tr_i, tr_n, abs_i, int_i, max_i, min_i, isD_i, isD_b, isD_n, isD_t, isD_s, isD_L, val_L, val_t, ix_L, ix_t, at_0, at_1, at_2, atI_last, cat_isEmpty, dz, dpos,  List.dropLast_concat, List.reverse_nil, List.reverse_cons, bltD, optInt, itE_def, itD, isRng, bindT, bindT.go, wipe, fold_l, sum_l, cov_W, cov_M, eqD_MWr, eqD_MMr, imm_l, fr_l, fr_i, fr_b, fr_n, fr_s, fr_lst, lenD_l, listD_l, valD_l, revD_l, bckD_l, truth_l, isD_l, isNon_l, add_l, popD_l, appD_l, eqD_I, eqD_W, eqD_M, ixD_l, u_0, u_1, u_2, u_3, u_8, d_0, d_1, d_2, d_3, d_4, d_8, List.getElem?_cons_succ, List.getElem?_cons_zero, List.set_cons_succ, List.set_cons_zero, List.getD_cons_succ, List.getD_cons_zero, List.map_cons, List.map_nil, List.length_cons, List.length_nil, List.append_nil, List.nil_append, List.cons_append, List.replicate_succ, List.replicate_zero, Nat.reduceAdd, Nat.reduceSub, Nat.reduceLeDiff, Nat.reduceLT, Nat.zero_le, Nat.le_refl, ne_eq, not_true_eq_false, not_false_eq_true, Bool.or_self, Bool.or_false, Bool.false_or, Bool.or_true, Bool.true_or, Bool.and_true, Bool.true_and, Bool.and_false, Bool.false_and, Bool.not_true, Bool.not_false, decide_true, decide_false, decide_eq_true_eq, if_true, if_false, ite_true, ite_false, reduceIte, reduceCtorEq, Nat.reduceEqDiff, Nat.succ_ne_zero, Nat.one_ne_zero, small_def, PySem.sizeLine, Nat.reduceMul, beq_self_eq_true, Int.reduceMul, Int.reduceSub, Option.map_some, Option.map_none, true_and, and_true, and_self, Int.reduceNeg, Int.reduceAdd, Int.reduceLT, Int.reduceLE, Int.reducePow, Nat.reducePow, Int.reduceToNat, s1, s2, hz1, hz2, decide_eq_false h1]
end LW

namespace LW
open PD


theorem wb_round (n : Nat) (ds : List Int) (at' L many : Int) (T B : List (List Int)) (a : Int) (j8 j9 j10 j11 j12 j13 j14 j15 j16 : Option (D × Nat)) (hd : Dr ds) (h0 : 0 < ds.length) (h1 : ds.length ≤ 5000) (a0 : 0 ≤ a) (a1 : a ≤ 1000) (b0 : 0 ≤ at') (b1 : at' ≤ 1000000) (hL : 0 < L) (hL' : L ≤ 100) (h : WB L.toNat T B) :
    ∃ T2 B2 k8 k9 k10 k11 k12 k13 k14, WB L.toNat T2 B2 ∧
    exec (Phi prog (n + 3)) F__law_way_back_map.own F__law_way_back_map.ret (thenS (nth F__law_way_back_map.body 1)) (WBs ds at' L many 60 T B (some (.int a, 0)) j8 j9 j10 j11 j12 j13 j14 j15 j16) =
      some (.nx (WBs ds at' L many 60 T2 B2 (some (.int a, 0)) k8 k9 k10 k11 k12 k13 k14 j15 j16)) := by
  obtain ⟨x, k, o, x0, x1, o0, o1, k0, e1⟩ := wb_x (n + 2) ds at' L many 60 T B a j8 j9 j10 j11 j12 j13 j14 j15 j16 hd h0 h1 a0 a1 b0 b1 hL hL'
  have e2 := wb_r (n + 2) ds at' L many 60 T B (some (.int a, 0)) (some (.int x, 0)) (some (.int k, 0)) (some (.int o, 0)) j11 j12 j13 j14 j15 j16 hL hL'
  obtain ⟨S, U, hs, e3⟩ := wb_s (Phi prog (n + 3)) ds at' L many 60 T B x k o (some (.int a, 0)) j13 j14 j15 j16 hL hL' x0 x1 o0 o1
  have e4 := wb_m n ds at' L many 60 T B S U (some (.int a, 0)) (some (.int x, 0)) (some (.int k, 0)) (some (.int o, 0)) j13 j14 j15 j16 hL' h hs
  have n1 := (h.t.after hs.s).1
  have n2 := (hs.u.after h.b).1
  obtain ⟨T2, B2, hTB, e5⟩ := wb_e (Phi prog (n + 3)) ds at' L many T B (after T S) (after U B) (some (.int a, 0)) (some (.int x, 0)) (some (.int k, 0)) (some (.int o, 0)) (some (eM S, 1)) (some (eM U, 1)) j15 j16 (by omega) (by omega)
  have hw : WB L.toNat T2 B2 := by
    rcases hTB with ⟨rfl, rfl⟩ | ⟨rfl, rfl, l1, l2⟩
    · exact h
    · exact h.step hs l1 l2
  refine ⟨T2, B2, some (.int x, 0), some (.int k, 0), some (.int o, 0), some (eM S, 1), some (eM U, 1), some (eM (after T S), 0), some (eM (after U B), 0), hw, ?_⟩
  refine (e1 (.seq (nth (thenS (nth F__law_way_back_map.body 1)) 3) (.seq (nth (thenS (nth F__law_way_back_map.body 1)) 4) (.seq (nth (thenS (nth F__law_way_back_map.body 1)) 5) (.seq (nth (thenS (nth F__law_way_back_map.body 1)) 6) .skip))))).trans ?_
  rw [x_seq, e2, sq_nx, x_seq, e3, sq_nx, x_seq, e4, sq_nx, x_seq, e5, sq_nx, x_skip]
theorem wb_end (Φ : PhiT) (ds : List Int) (at' L many : Int) (R T B : List (List Int)) (j7 j8 j9 j10 j11 j12 j13 j14 j15 j16 : Option (D × Nat)) (hr : Φ i__law_rest [.int L] = some (eM R, 2, .non))
    (h1 : exec Φ F__law_way_back_map.own F__law_way_back_map.ret (nth F__law_way_back_map.body 1) (WBs ds at' L many 60 R R none none none none none none none none none none) = some (.nx (WBs ds at' L many 60 T B j7 j8 j9 j10 j11 j12 j13 j14 j15 j16))) :
    runF Φ F__law_way_back_map [eW ds, .int at', .int L, .int many, .int 60] = some (.tup [eM T, eM B], 0, .non) := by
  simp only [F__law_way_back_map, nth] at h1
  rw [runF_of rfl]
  have hn : [5, 6].Nodup := by decide
  simp only [F__law_way_back_map, runR_rt, runR_nx, x_skip, x_seq, x_ite, x_asg, x_par, x_ret, x_retv, x_rett, x_app, x_pop, x_put, x_put2, sq_nx, sq_rt, ic_t, ic_f, setO_one, parO_some, setT, setT.go, setV, esc, esc0, ownd, demote, cov, cov.covL, List.any_cons, List.any_nil, vars, varsS, chgR, chg, pthD, Pth.root, Pth.toE, mvR, RT.slots, minK, e_cst, e_var, e_lst, e_tup, e_bin, e_neg, e_cmp, e_chn, e_and, e_or, e_not, e_idx, e_sli, e_bck, e_blt, e_call, es_nil, es_cons, cond_def, aB_t, aB_f, oB_t, oB_f, add_i, sub_i, mul_i, div_i, mod_i, pow_18, c_eq, c_ne, c_lt, c_le, c_gt, c_ge, c_is, c_isn, isNon_n, isNon_i, isNon_b, isNon_t, isNon_L, tr_b, tr_i, tr_n, abs_i, int_i, max_i, min_i, isD_i, isD_b, isD_n, isD_t, isD_s, isD_L, val_L, val_t, ix_L, ix_t, at_0, at_1, at_2, atI_last, cat_isEmpty, dz, dpos,  List.dropLast_concat, List.reverse_nil, List.reverse_cons, bltD, optInt, itE_def, itD, isRng, bindT, bindT.go, wipe, fold_l, sum_l, cov_W, cov_M, eqD_MWr, eqD_MMr, imm_l, fr_l, fr_i, fr_b, fr_n, fr_s, fr_lst, lenD_l, listD_l, valD_l, revD_l, bckD_l, truth_l, isD_l, isNon_l, add_l, popD_l, appD_l, eqD_I, eqD_W, eqD_M, ixD_l, u_0, u_1, u_2, u_3, u_8, d_0, d_1, d_2, d_3, d_4, d_8, List.getElem?_cons_succ, List.getElem?_cons_zero, List.set_cons_succ, List.set_cons_zero, List.getD_cons_succ, List.getD_cons_zero, List.map_cons, List.map_nil, List.length_cons, List.length_nil, List.append_nil, List.nil_append, List.cons_append, List.replicate_succ, List.replicate_zero, Nat.reduceAdd, Nat.reduceSub, Nat.reduceLeDiff, Nat.reduceLT, Nat.zero_le, Nat.le_refl, ne_eq, not_true_eq_false, not_false_eq_true, Bool.or_self, Bool.or_false, Bool.false_or, Bool.or_true, Bool.true_or, Bool.and_true, Bool.true_and, Bool.and_false, Bool.false_and, Bool.not_true, Bool.not_false, decide_true, decide_false, decide_eq_true_eq, if_true, if_false, ite_true, ite_false, reduceIte, reduceCtorEq, Nat.reduceEqDiff, Nat.succ_ne_zero, Nat.one_ne_zero, small_def, PySem.sizeLine, Nat.reduceMul, beq_self_eq_true, Int.reduceMul, Int.reduceSub, Option.map_some, Option.map_none, true_and, and_true, and_self, Int.reduceNeg, Int.reduceAdd, Int.reduceLT, Int.reduceLE, Int.reducePow, Nat.reducePow, Int.reduceToNat, hr, h1, hn]
theorem ev_way_back (n : Nat) (ds : List Int) (at' L many : Int) (hd : Dr ds) (h0 : 0 < ds.length) (h1 : ds.length ≤ 5000) (b0 : 0 ≤ at') (b1 : at' ≤ 1000000) (hL : 0 < L) (hL' : L ≤ 100) (m0 : 0 ≤ many) (m1 : many ≤ 1000) :
    ∃ T B, WB L.toNat T B ∧ Phi prog (n + 4) i__law_way_back_map [eW ds, .int at', .int L, .int many, .int 60] = some (.tup [eM T, eM B], 0, .non) := by
  rw [Phi_succ (fn := F__law_way_back_map) rfl]
  obtain ⟨σ', g1, T, B, j7, j8, j9, j10, j11, j12, j13, j14, rfl, hw⟩ : ∃ σ', exec (Phi prog (n + 3)) F__law_way_back_map.own F__law_way_back_map.ret (nth F__law_way_back_map.body 1) (WBs ds at' L many 60 (rest L.toNat) (rest L.toNat) none none none none none none none none none none) = some (.nx σ') ∧
      ∃ T B j7 j8 j9 j10 j11 j12 j13 j14, σ' = WBs ds at' L many 60 T B j7 j8 j9 j10 j11 j12 j13 j14 none none ∧ WB L.toNat T B := by
    refine x_frQ (fun _ σ => ∃ T B j7 j8 j9 j10 j11 j12 j13 j14, σ = WBs ds at' L many 60 T B j7 j8 j9 j10 j11 j12 j13 j14 none none ∧ WB L.toNat T B) (fun i : Nat => .int (0 + (i : Int))) (List.range many.toNat) ?_ ?_ ?_
    · simp only [e_cst, e_var, e_lst, e_tup, e_bin, e_neg, e_cmp, e_chn, e_and, e_or, e_not, e_idx, e_sli, e_bck, e_blt, e_call, es_nil, es_cons, cond_def, aB_t, aB_f, oB_t, oB_f, add_i, sub_i, mul_i, div_i, mod_i, pow_18, c_eq, c_ne, c_lt, c_le, c_gt, c_ge, c_is, c_isn, isNon_n, isNon_i, isNon_b, isNon_t, isNon_L, tr_b, tr_i, tr_n, abs_i, int_i, max_i, min_i, isD_i, isD_b, isD_n, isD_t, isD_s, isD_L, val_L, val_t, ix_L, ix_t, at_0, at_1, at_2, atI_last, cat_isEmpty, dz, dpos,  List.dropLast_concat, List.reverse_nil, List.reverse_cons, bltD, optInt, itE_def, itD, isRng, bindT, bindT.go, wipe, fold_l, sum_l, cov_W, cov_M, eqD_MWr, eqD_MMr, imm_l, fr_l, fr_i, fr_b, fr_n, fr_s, fr_lst, lenD_l, listD_l, valD_l, revD_l, bckD_l, truth_l, isD_l, isNon_l, add_l, popD_l, appD_l, eqD_I, eqD_W, eqD_M, ixD_l, u_0, u_1, u_2, u_3, u_8, d_0, d_1, d_2, d_3, d_4, d_8, List.getElem?_cons_succ, List.getElem?_cons_zero, List.set_cons_succ, List.set_cons_zero, List.getD_cons_succ, List.getD_cons_zero, List.map_cons, List.map_nil, List.length_cons, List.length_nil, List.append_nil, List.nil_append, List.cons_append, List.replicate_succ, List.replicate_zero, Nat.reduceAdd, Nat.reduceSub, Nat.reduceLeDiff, Nat.reduceLT, Nat.zero_le, Nat.le_refl, ne_eq, not_true_eq_false, not_false_eq_true, Bool.or_self, Bool.or_false, Bool.false_or, Bool.or_true, Bool.true_or, Bool.and_true, Bool.true_and, Bool.and_false, Bool.false_and, Bool.not_true, Bool.not_false, decide_true, decide_false, decide_eq_true_eq, if_true, if_false, ite_true, ite_false, reduceIte, reduceCtorEq, Nat.reduceEqDiff, Nat.succ_ne_zero, Nat.one_ne_zero, small_def, PySem.sizeLine, Nat.reduceMul, beq_self_eq_true, Int.reduceMul, Int.reduceSub, Option.map_some, Option.map_none, true_and, and_true, and_self, Int.reduceNeg, Int.reduceAdd, Int.reduceLT, Int.reduceLE, Int.reducePow, Nat.reducePow, Int.reduceToNat, rng1_v many (by omega) m0]
    · exact ⟨_, _, _, _, _, _, _, _, _, _, rfl, WB.rest _⟩
    · rintro a ys zs σ hw ⟨T, B, j7, j8, j9, j10, j11, j12, j13, j14, rfl, h⟩
      have hm := mem_of_split hw
      rw [List.mem_range] at hm
      obtain ⟨T2, B2, k8, k9, k10, k11, k12, k13, k14, hw2, e⟩ := wb_round n ds at' L many T B (0 + (a : Int)) j8 j9 j10 j11 j12 j13 j14 none none hd h0 h1 (by omega) (by omega) b0 b1 hL hL' h
      exact ⟨_, rfl, _, .inl e, _, _, _, _, _, _, _, _, _, _, rfl, hw2⟩
  exact ⟨T, B, hw, wb_end _ ds at' L many _ T B j7 j8 j9 j10 j11 j12 j13 j14 none none (ev_rest (n + 2) L hL' (by omega)) g1⟩
/-- word taken through a map, told and told again -/
theorem told_end (Φ : PhiT) (m : List (List Int)) (w d : List Int) (hd : d.length < 16777216) (h1 : Φ i__law_image [eM m, eW w] = some (eW d, 1, .non)) (h2 : Φ i__law_copied [eM m] = some (eM m, 2, .non))
    (h3 : Φ i_image [eM m, eW w] = some (eW d, 1, .non)) (h4 : Φ i__law_is_numbers [eW d] = some (.bl true, 8, .non)) : runF Φ F__law_told [eM m, eW w] = some (eW d, 0, .non) := by
  rw [runF_of rfl]
  simp only [F__law_told, runR_rt, runR_nx, x_skip, x_seq, x_ite, x_asg, x_par, x_ret, x_retv, x_rett, x_app, x_pop, x_put, x_put2, sq_nx, sq_rt, ic_t, ic_f, setO_one, parO_some, setT, setT.go, setV, esc, esc0, ownd, demote, cov, cov.covL, List.any_cons, List.any_nil, vars, varsS, chgR, chg, pthD, Pth.root, Pth.toE, mvR, RT.slots, minK, e_cst, e_var, e_lst, e_tup, e_bin, e_neg, e_cmp, e_chn, e_and, e_or, e_not, e_idx, e_sli, e_bck, e_blt, e_call, es_nil, es_cons, cond_def, aB_t, aB_f, oB_t, oB_f, add_i, sub_i, mul_i, div_i, mod_i, pow_18, c_eq, c_ne, c_lt, c_le, c_gt, c_ge, c_is, c_isn, isNon_n, isNon_i, isNon_b, isNon_t, isNon_L, tr_b, tr_i, tr_n, abs_i, int_i, max_i, min_i, isD_i, isD_b, isD_n, isD_t, isD_s, isD_L, val_L, val_t, ix_L, ix_t, at_0, at_1, at_2, atI_last, cat_isEmpty, dz, dpos,  List.dropLast_concat, List.reverse_nil, List.reverse_cons, bltD, optInt, itE_def, itD, isRng, bindT, bindT.go, wipe, fold_l, sum_l, cov_W, cov_M, eqD_MWr, eqD_MMr, imm_l, fr_l, fr_i, fr_b, fr_n, fr_s, fr_lst, lenD_l, listD_l, valD_l, revD_l, bckD_l, truth_l, isD_l, isNon_l, add_l, popD_l, appD_l, eqD_I, eqD_W, eqD_M, ixD_l, u_0, u_1, u_2, u_3, u_8, d_0, d_1, d_2, d_3, d_4, d_8, List.getElem?_cons_succ, List.getElem?_cons_zero, List.set_cons_succ, List.set_cons_zero, List.getD_cons_succ, List.getD_cons_zero, List.map_cons, List.map_nil, List.length_cons, List.length_nil, List.append_nil, List.nil_append, List.cons_append, List.replicate_succ, List.replicate_zero, Nat.reduceAdd, Nat.reduceSub, Nat.reduceLeDiff, Nat.reduceLT, Nat.zero_le, Nat.le_refl, ne_eq, not_true_eq_false, not_false_eq_true, Bool.or_self, Bool.or_false, Bool.false_or, Bool.or_true, Bool.true_or, Bool.and_true, Bool.true_and, Bool.and_false, Bool.false_and, Bool.not_true, Bool.not_false, decide_true, decide_false, decide_eq_true_eq, if_true, if_false, ite_true, ite_false, reduceIte, reduceCtorEq, Nat.reduceEqDiff, Nat.succ_ne_zero, Nat.one_ne_zero, small_def, PySem.sizeLine, Nat.reduceMul, beq_self_eq_true, Int.reduceMul, Int.reduceSub, Option.map_some, Option.map_none, true_and, and_true, and_self, Int.reduceNeg, Int.reduceAdd, Int.reduceLT, Int.reduceLE, Int.reducePow, Nat.reducePow, Int.reduceToNat, h1, h2, h3, h4, hd]
theorem ev_told (n : Nat) (m : List (List Int)) (w : List Int) (h : Ok m w) (hs : (img m w).length < 16777216) (hm : m.length ≤ 16777216) : Phi prog (n + 5) i__law_told [eM m, eW w] = some (eW (red (img m w)), 0, .non) := by
  rw [Phi_succ (fn := F__law_told) rfl]
  have := red_length (img m w)
  exact told_end _ m w _ (by omega) (ev_limage (n + 2) m w h) (ev_copied (n + 3) m hm) (ev_image n m w h) (ev_is_numbers (n + 2) _)
theorem mapped_end (Φ : PhiT) (f g : List (List Int)) (d0 : List Int) (d : List (List Int)) (hd : (d0 :: d).length < 16777216) (hd0 : d0.length < 16777216) (h1 : Φ i__law_after [eM f, eM g] = some (eM (d0 :: d), 2, .non)) (h2 : Φ i__law_copied [eM f] = some (eM f, 2, .non)) (h2' : Φ i__law_copied [eM g] = some (eM g, 2, .non))
    (h3 : Φ i_map_after [eM f, eM g] = some (eM (d0 :: d), 2, .non)) : runF Φ F__law_mapped [eM f, eM g] = some (eM (d0 :: d), 0, .non) := by
  have hx : ∀ fn : D → Nat → Option D, ∀ y : List Int, chg fn [] (eW d0) (dn 2) = some (eW y) → chg fn [.int 0] (eM (d0 :: d)) 2 = some (eM ((d0 :: d).set 0 y)) := fun fn y h =>
    chg_i eW (d0 :: d) fn [] 0 2 0 d0 y (ix_of (by omega) (by simp)) rfl (by omega) h
  have hy : chg (appD (.int 1) 8) [] (eW d0) (dn 2) = some (eW (d0 ++ [1])) := by
    simp only [runR_rt, runR_nx, x_skip, x_seq, x_ite, x_asg, x_par, x_ret, x_retv, x_rett, x_app, x_pop, x_put, x_put2, sq_nx, sq_rt, ic_t, ic_f, setO_one, parO_some, setT, setT.go, setV, esc, esc0, ownd, demote, cov, cov.covL, List.any_cons, List.any_nil, vars, varsS, chgR, chg, pthD, Pth.root, Pth.toE, mvR, RT.slots, minK, e_cst, e_var, e_lst, e_tup, e_bin, e_neg, e_cmp, e_chn, e_and, e_or, e_not, e_idx, e_sli, e_bck, e_blt, e_call, es_nil, es_cons, cond_def, aB_t, aB_f, oB_t, oB_f, add_i, sub_i, mul_i, div_i, mod_i, pow_18, c_eq, c_ne, c_lt, c_le, c_gt, c_ge, c_is, c_isn, isNon_n, isNon_i, isNon_b, isNon_t, isNon_L, tr_b, tr_i, tr_n, abs_i, int_i, max_i, min_i, isD_i, isD_b, isD_n, isD_t, isD_s, isD_L, val_L, val_t, ix_L, ix_t, at_0, at_1, at_2, atI_last, cat_isEmpty, dz, dpos,  List.dropLast_concat, List.reverse_nil, List.reverse_cons, bltD, optInt, itE_def, itD, isRng, bindT, bindT.go, wipe, fold_l, sum_l, cov_W, cov_M, eqD_MWr, eqD_MMr, imm_l, fr_l, fr_i, fr_b, fr_n, fr_s, fr_lst, lenD_l, listD_l, valD_l, revD_l, bckD_l, truth_l, isD_l, isNon_l, add_l, popD_l, appD_l, eqD_I, eqD_W, eqD_M, ixD_l, u_0, u_1, u_2, u_3, u_8, d_0, d_1, d_2, d_3, d_4, d_8, List.getElem?_cons_succ, List.getElem?_cons_zero, List.set_cons_succ, List.set_cons_zero, List.getD_cons_succ, List.getD_cons_zero, List.map_cons, List.map_nil, List.length_cons, List.length_nil, List.append_nil, List.nil_append, List.cons_append, List.replicate_succ, List.replicate_zero, Nat.reduceAdd, Nat.reduceSub, Nat.reduceLeDiff, Nat.reduceLT, Nat.zero_le, Nat.le_refl, ne_eq, not_true_eq_false, not_false_eq_true, Bool.or_self, Bool.or_false, Bool.false_or, Bool.or_true, Bool.true_or, Bool.and_true, Bool.true_and, Bool.and_false, Bool.false_and, Bool.not_true, Bool.not_false, decide_true, decide_false, decide_eq_true_eq, if_true, if_false, ite_true, ite_false, reduceIte, reduceCtorEq, Nat.reduceEqDiff, Nat.succ_ne_zero, Nat.one_ne_zero, small_def, PySem.sizeLine, Nat.reduceMul, beq_self_eq_true, Int.reduceMul, Int.reduceSub, Option.map_some, Option.map_none, true_and, and_true, and_self, Int.reduceNeg, Int.reduceAdd, Int.reduceLT, Int.reduceLE, Int.reducePow, Nat.reducePow, Int.reduceToNat, hd0]
  have hz := hx _ _ hy
  have hl : d.length + 1 < 16777216 := hd
  rw [runF_of rfl]
  simp only [F__law_mapped, runR_rt, runR_nx, x_skip, x_seq, x_ite, x_asg, x_par, x_ret, x_retv, x_rett, x_app, x_pop, x_put, x_put2, sq_nx, sq_rt, ic_t, ic_f, setO_one, parO_some, setT, setT.go, setV, esc, esc0, ownd, demote, cov, cov.covL, List.any_cons, List.any_nil, vars, varsS, chgR, chg, pthD, Pth.root, Pth.toE, mvR, RT.slots, minK, e_cst, e_var, e_lst, e_tup, e_bin, e_neg, e_cmp, e_chn, e_and, e_or, e_not, e_idx, e_sli, e_bck, e_blt, e_call, es_nil, es_cons, cond_def, aB_t, aB_f, oB_t, oB_f, add_i, sub_i, mul_i, div_i, mod_i, pow_18, c_eq, c_ne, c_lt, c_le, c_gt, c_ge, c_is, c_isn, isNon_n, isNon_i, isNon_b, isNon_t, isNon_L, tr_b, tr_i, tr_n, abs_i, int_i, max_i, min_i, isD_i, isD_b, isD_n, isD_t, isD_s, isD_L, val_L, val_t, ix_L, ix_t, at_0, at_1, at_2, atI_last, cat_isEmpty, dz, dpos,  List.dropLast_concat, List.reverse_nil, List.reverse_cons, bltD, optInt, itE_def, itD, isRng, bindT, bindT.go, wipe, fold_l, sum_l, cov_W, cov_M, eqD_MWr, eqD_MMr, imm_l, fr_l, fr_i, fr_b, fr_n, fr_s, fr_lst, lenD_l, listD_l, valD_l, revD_l, bckD_l, truth_l, isD_l, isNon_l, add_l, popD_l, appD_l, eqD_I, eqD_W, eqD_M, ixD_l, u_0, u_1, u_2, u_3, u_8, d_0, d_1, d_2, d_3, d_4, d_8, List.getElem?_cons_succ, List.getElem?_cons_zero, List.set_cons_succ, List.set_cons_zero, List.getD_cons_succ, List.getD_cons_zero, List.map_cons, List.map_nil, List.length_cons, List.length_nil, List.append_nil, List.nil_append, List.cons_append, List.replicate_succ, List.replicate_zero, Nat.reduceAdd, Nat.reduceSub, Nat.reduceLeDiff, Nat.reduceLT, Nat.zero_le, Nat.le_refl, ne_eq, not_true_eq_false, not_false_eq_true, Bool.or_self, Bool.or_false, Bool.false_or, Bool.or_true, Bool.true_or, Bool.and_true, Bool.true_and, Bool.and_false, Bool.false_and, Bool.not_true, Bool.not_false, decide_true, decide_false, decide_eq_true_eq, if_true, if_false, ite_true, ite_false, reduceIte, reduceCtorEq, Nat.reduceEqDiff, Nat.succ_ne_zero, Nat.one_ne_zero, small_def, PySem.sizeLine, Nat.reduceMul, beq_self_eq_true, Int.reduceMul, Int.reduceSub, Option.map_some, Option.map_none, true_and, and_true, and_self, Int.reduceNeg, Int.reduceAdd, Int.reduceLT, Int.reduceLE, Int.reducePow, Nat.reducePow, Int.reduceToNat, h1, h2, h2', h3, String.reduceBEq, hz, nil_W D.int, hl]
theorem ev_mapped (n : Nat) (f g : List (List Int)) (h : ∀ w ∈ f, Ok g w) (hs : ∀ w ∈ f, (img g w).length < 16777216) (hf : 0 < f.length ∧ f.length < 16777216) (hg : g.length ≤ 16777216) : Phi prog (n + 6) i__law_mapped [eM f, eM g] = some (eM (after f g), 0, .non) := by
  rw [Phi_succ (fn := F__law_mapped) rfl]
  cases f with
  | nil => simp at hf
  | cons w f =>
    have e : after (w :: f) g = red (img g w) :: after f g := rfl
    rw [e]
    have := red_length (img g w)
    have h1 := hs w (by simp)
    refine mapped_end _ (w :: f) g _ _ (by simp [after] at hf ⊢; exact hf) (by omega) ?_ (ev_copied (n + 4) _ (by omega)) (ev_copied (n + 4) g hg) ?_
    · rw [← e]; exact ev_after (n + 2) (w :: f) g (by omega) h
    · rw [← e]; exact ev_map_after n (w :: f) g (by omega) h
end LW

namespace LW
open PD


abbrev Ls (ns ds : List Int) (L most : Int) (F S : List (List Int)) (W O : List Int) (T B : List (List Int)) (j10 j11 j12 j13 j14 : Option (D × Nat)) : Nv := [some (.scr ns, 0), some (eW ds, 0), some (.int L, 0), some (.int most, 0), some (eM F, 0), some (eM S, 0), some (eW W, 0), some (eW O, 0), some (eM T, 0), some (eM B, 0), j10, j11, j12, j13, j14]
section
variable {Φ : PhiT} {ns ds : List Int} {L most : Int} {F S : List (List Int)} {W O : List Int} {T B : List (List Int)} {j10 j11 j12 j13 j14 : Option (D × Nat)}
theorem lw7_rd {M : List (List Int)} {one two t3 bw t6 : List Int} (h1 : Φ i__law_told [eM M, eW W] = some (eW one, 0, .non)) (h2 : Φ i__law_told [eM M, eW O] = some (eW two, 0, .non))
    (h3 : Φ i__law_told [eM M, eW (W ++ O)] = some (eW t3, 0, .non)) (h4 : Φ i__law_short [eW (one ++ two)] = some (eW t3, 1, .non)) (h5 : Φ i__law_back [eW W] = some (eW bw, 8, .non))
    (h6 : Φ i__law_told [eM M, eW bw] = some (eW t6, 0, .non)) (h7 : Φ i__law_back [eW one] = some (eW t6, 8, .non)) (h8 : Φ i__law_told [eM M, eW []] = some (eW [], 0, .non))
    (s1 : W.length + O.length ≤ 16777216) (s2 : one.length + two.length ≤ 16777216) :
    exec Φ F_law.own F_law.ret (thenS (nth F_law.body 7)) (Ls ns ds L most F S W O T B (some (eM M, 0)) j11 j12 j13 j14) = some (.nx (Ls ns ds L most F S W O T B (some (eM M, 0)) (some (eW one, 0)) (some (eW two, 0)) j13 j14)) := by
  simp only [F_law, nth, thenS, runR_rt, runR_nx, x_skip, x_seq, x_ite, x_asg, x_par, x_ret, x_retv, x_rett, x_app, x_pop, x_put, x_put2, sq_nx, sq_rt, ic_t, ic_f, setO_one, parO_some, setT, setT.go, setV, esc, esc0, ownd, demote, cov, cov.covL, List.any_cons, List.any_nil, vars, varsS, chgR, chg, pthD, Pth.root, Pth.toE, mvR, RT.slots, minK, e_cst, e_var, e_lst, e_tup, e_bin, e_neg, e_cmp, e_chn, e_and, e_or, e_not, e_idx, e_sli, e_bck, e_blt, e_call, es_nil, es_cons, cond_def, aB_t, aB_f, oB_t, oB_f, add_i, sub_i, mul_i, div_i, mod_i, pow_18, c_eq, c_ne, c_lt, c_le, c_gt, c_ge, c_is, c_isn, isNon_n, isNon_i, isNon_b, isNon_t, isNon_L, tr_b, tr_i, tr_n, abs_i, int_i, max_i, min_i, isD_i, isD_b, isD_n, isD_t, isD_s, isD_L, val_L, val_t, ix_L, ix_t, at_0, at_1, at_2, atI_last, cat_isEmpty, dz, dpos,  List.dropLast_concat, List.reverse_nil, List.reverse_cons, bltD, optInt, itE_def, itD, isRng, bindT, bindT.go, wipe, fold_l, sum_l, cov_W, cov_M, eqD_MWr, eqD_MMr, imm_l, fr_l, fr_i, fr_b, fr_n, fr_s, fr_lst, lenD_l, listD_l, valD_l, revD_l, bckD_l, truth_l, isD_l, isNon_l, add_l, popD_l, appD_l, eqD_I, eqD_W, eqD_M, ixD_l, u_0, u_1, u_2, u_3, u_8, d_0, d_1, d_2, d_3, d_4, d_8, List.getElem?_cons_succ, List.getElem?_cons_zero, List.set_cons_succ, List.set_cons_zero, List.getD_cons_succ, List.getD_cons_zero, List.map_cons, List.map_nil, List.length_cons, List.length_nil, List.append_nil, List.nil_append, List.cons_append, List.replicate_succ, List.replicate_zero, Nat.reduceAdd, Nat.reduceSub, Nat.reduceLeDiff, Nat.reduceLT, Nat.zero_le, Nat.le_refl, ne_eq, not_true_eq_false, not_false_eq_true, Bool.or_self, Bool.or_false, Bool.false_or, Bool.or_true, Bool.true_or, Bool.and_true, Bool.true_and, Bool.and_false, Bool.false_and, Bool.not_true, Bool.not_false, decide_true, decide_false, decide_eq_true_eq, if_true, if_false, ite_true, ite_false, reduceIte, reduceCtorEq, Nat.reduceEqDiff, Nat.succ_ne_zero, Nat.one_ne_zero, small_def, PySem.sizeLine, Nat.reduceMul, beq_self_eq_true, Int.reduceMul, Int.reduceSub, Option.map_some, Option.map_none, true_and, and_true, and_self, Int.reduceNeg, Int.reduceAdd, Int.reduceLT, Int.reduceLE, Int.reducePow, Nat.reducePow, Int.reduceToNat, nil_W D.int, h1, h2, h3, h4, h5, h6, h7, h8, s1, s2]
theorem lw8_rd {M N Md : List (List Int)} {t1 t2 : List Int} (h1 : Φ i__law_mapped [eM M, eM N] = some (eM Md, 0, .non)) (h2 : Φ i__law_image [eM Md, eW W] = some (eW t2, 1, .non))
    (h3 : Φ i__law_told [eM M, eW W] = some (eW t1, 0, .non)) (h4 : Φ i__law_told [eM N, eW t1] = some (eW t2, 0, .non)) :
    exec Φ F_law.own F_law.ret (thenS (nth F_law.body 8)) (Ls ns ds L most F S W O T B j10 (some (eM M, 0)) (some (eM N, 0)) j13 j14) = some (.nx (Ls ns ds L most F S W O T B j10 (some (eM M, 0)) (some (eM N, 0)) (some (eM Md, 0)) j14)) := by
  simp only [F_law, nth, thenS, runR_rt, runR_nx, x_skip, x_seq, x_ite, x_asg, x_par, x_ret, x_retv, x_rett, x_app, x_pop, x_put, x_put2, sq_nx, sq_rt, ic_t, ic_f, setO_one, parO_some, setT, setT.go, setV, esc, esc0, ownd, demote, cov, cov.covL, List.any_cons, List.any_nil, vars, varsS, chgR, chg, pthD, Pth.root, Pth.toE, mvR, RT.slots, minK, e_cst, e_var, e_lst, e_tup, e_bin, e_neg, e_cmp, e_chn, e_and, e_or, e_not, e_idx, e_sli, e_bck, e_blt, e_call, es_nil, es_cons, cond_def, aB_t, aB_f, oB_t, oB_f, add_i, sub_i, mul_i, div_i, mod_i, pow_18, c_eq, c_ne, c_lt, c_le, c_gt, c_ge, c_is, c_isn, isNon_n, isNon_i, isNon_b, isNon_t, isNon_L, tr_b, tr_i, tr_n, abs_i, int_i, max_i, min_i, isD_i, isD_b, isD_n, isD_t, isD_s, isD_L, val_L, val_t, ix_L, ix_t, at_0, at_1, at_2, atI_last, cat_isEmpty, dz, dpos,  List.dropLast_concat, List.reverse_nil, List.reverse_cons, bltD, optInt, itE_def, itD, isRng, bindT, bindT.go, wipe, fold_l, sum_l, cov_W, cov_M, eqD_MWr, eqD_MMr, imm_l, fr_l, fr_i, fr_b, fr_n, fr_s, fr_lst, lenD_l, listD_l, valD_l, revD_l, bckD_l, truth_l, isD_l, isNon_l, add_l, popD_l, appD_l, eqD_I, eqD_W, eqD_M, ixD_l, u_0, u_1, u_2, u_3, u_8, d_0, d_1, d_2, d_3, d_4, d_8, List.getElem?_cons_succ, List.getElem?_cons_zero, List.set_cons_succ, List.set_cons_zero, List.getD_cons_succ, List.getD_cons_zero, List.map_cons, List.map_nil, List.length_cons, List.length_nil, List.append_nil, List.nil_append, List.cons_append, List.replicate_succ, List.replicate_zero, Nat.reduceAdd, Nat.reduceSub, Nat.reduceLeDiff, Nat.reduceLT, Nat.zero_le, Nat.le_refl, ne_eq, not_true_eq_false, not_false_eq_true, Bool.or_self, Bool.or_false, Bool.false_or, Bool.or_true, Bool.true_or, Bool.and_true, Bool.true_and, Bool.and_false, Bool.false_and, Bool.not_true, Bool.not_false, decide_true, decide_false, decide_eq_true_eq, if_true, if_false, ite_true, ite_false, reduceIte, reduceCtorEq, Nat.reduceEqDiff, Nat.succ_ne_zero, Nat.one_ne_zero, small_def, PySem.sizeLine, Nat.reduceMul, beq_self_eq_true, Int.reduceMul, Int.reduceSub, Option.map_some, Option.map_none, true_and, and_true, and_self, Int.reduceNeg, Int.reduceAdd, Int.reduceLT, Int.reduceLE, Int.reducePow, Nat.reducePow, Int.reduceToNat, h1, h2, h3, h4]
theorem lw7_all {R : List (List Int)} (hr : Φ i__law_rest [.int L] = some (eM R, 2, .non)) (hb : ∀ M ∈ [F, S, T, B, R], ∀ j11 j12, ∃ k11 k12, exec Φ F_law.own F_law.ret (thenS (nth F_law.body 7)) (Ls ns ds L most F S W O T B (some (eM M, 0)) j11 j12 j13 j14) = some (.nx (Ls ns ds L most F S W O T B (some (eM M, 0)) k11 k12 j13 j14))) :
    ∃ k10 k11 k12, exec Φ F_law.own F_law.ret (nth F_law.body 7) (Ls ns ds L most F S W O T B j10 j11 j12 j13 j14) = some (.nx (Ls ns ds L most F S W O T B k10 k11 k12 j13 j14)) := by
  obtain ⟨σ', h1, k10, k11, k12, rfl⟩ : ∃ σ', exec Φ F_law.own F_law.ret (nth F_law.body 7) (Ls ns ds L most F S W O T B j10 j11 j12 j13 j14) = some (.nx σ') ∧ ∃ k10 k11 k12, σ' = Ls ns ds L most F S W O T B k10 k11 k12 j13 j14 := by
    refine x_frQ (fun _ σ => ∃ k10 k11 k12, σ = Ls ns ds L most F S W O T B k10 k11 k12 j13 j14) eM [F, S, T, B, R] ?_ ?_ ?_
    · simp only [e_cst, e_var, e_lst, e_tup, e_bin, e_neg, e_cmp, e_chn, e_and, e_or, e_not, e_idx, e_sli, e_bck, e_blt, e_call, es_nil, es_cons, cond_def, aB_t, aB_f, oB_t, oB_f, add_i, sub_i, mul_i, div_i, mod_i, pow_18, c_eq, c_ne, c_lt, c_le, c_gt, c_ge, c_is, c_isn, isNon_n, isNon_i, isNon_b, isNon_t, isNon_L, tr_b, tr_i, tr_n, abs_i, int_i, max_i, min_i, isD_i, isD_b, isD_n, isD_t, isD_s, isD_L, val_L, val_t, ix_L, ix_t, at_0, at_1, at_2, atI_last, cat_isEmpty, dz, dpos,  List.dropLast_concat, List.reverse_nil, List.reverse_cons, bltD, optInt, itE_def, itD, isRng, bindT, bindT.go, wipe, fold_l, sum_l, cov_W, cov_M, eqD_MWr, eqD_MMr, imm_l, fr_l, fr_i, fr_b, fr_n, fr_s, fr_lst, lenD_l, listD_l, valD_l, revD_l, bckD_l, truth_l, isD_l, isNon_l, add_l, popD_l, appD_l, eqD_I, eqD_W, eqD_M, ixD_l, u_0, u_1, u_2, u_3, u_8, d_0, d_1, d_2, d_3, d_4, d_8, List.getElem?_cons_succ, List.getElem?_cons_zero, List.set_cons_succ, List.set_cons_zero, List.getD_cons_succ, List.getD_cons_zero, List.map_cons, List.map_nil, List.length_cons, List.length_nil, List.append_nil, List.nil_append, List.cons_append, List.replicate_succ, List.replicate_zero, Nat.reduceAdd, Nat.reduceSub, Nat.reduceLeDiff, Nat.reduceLT, Nat.zero_le, Nat.le_refl, ne_eq, not_true_eq_false, not_false_eq_true, Bool.or_self, Bool.or_false, Bool.false_or, Bool.or_true, Bool.true_or, Bool.and_true, Bool.true_and, Bool.and_false, Bool.false_and, Bool.not_true, Bool.not_false, decide_true, decide_false, decide_eq_true_eq, if_true, if_false, ite_true, ite_false, reduceIte, reduceCtorEq, Nat.reduceEqDiff, Nat.succ_ne_zero, Nat.one_ne_zero, small_def, PySem.sizeLine, Nat.reduceMul, beq_self_eq_true, Int.reduceMul, Int.reduceSub, Option.map_some, Option.map_none, true_and, and_true, and_self, Int.reduceNeg, Int.reduceAdd, Int.reduceLT, Int.reduceLE, Int.reducePow, Nat.reducePow, Int.reduceToNat, hr]
    · exact ⟨_, _, _, rfl⟩
    · rintro a ys zs σ hw ⟨k10, k11, k12, rfl⟩
      obtain ⟨l11, l12, e⟩ := hb a (mem_of_split hw) k11 k12
      exact ⟨_, rfl, _, .inl e, _, _, _, rfl⟩
  exact ⟨k10, k11, k12, h1⟩
def prD (p : List (List Int) × List (List Int)) : D := .tup [eM p.1, eM p.2]
theorem lw8_all {R : List (List Int)} (hr : Φ i__law_rest [.int L] = some (eM R, 2, .non)) (hb : ∀ p ∈ [(F, S), (S, F), (T, B), (B, T), (F, T), (R, F)], ∀ k13, ∃ l13, exec Φ F_law.own F_law.ret (thenS (nth F_law.body 8)) (Ls ns ds L most F S W O T B j10 (some (eM p.1, 0)) (some (eM p.2, 0)) k13 j14) = some (.nx (Ls ns ds L most F S W O T B j10 (some (eM p.1, 0)) (some (eM p.2, 0)) l13 j14))) :
    ∃ k11 k12 k13, exec Φ F_law.own F_law.ret (nth F_law.body 8) (Ls ns ds L most F S W O T B j10 j11 j12 j13 j14) = some (.nx (Ls ns ds L most F S W O T B j10 k11 k12 k13 j14)) := by
  obtain ⟨σ', h1, k11, k12, k13, rfl⟩ : ∃ σ', exec Φ F_law.own F_law.ret (nth F_law.body 8) (Ls ns ds L most F S W O T B j10 j11 j12 j13 j14) = some (.nx σ') ∧ ∃ k11 k12 k13, σ' = Ls ns ds L most F S W O T B j10 k11 k12 k13 j14 := by
    refine x_frQ (fun _ σ => ∃ k11 k12 k13, σ = Ls ns ds L most F S W O T B j10 k11 k12 k13 j14) prD [(F, S), (S, F), (T, B), (B, T), (F, T), (R, F)] ?_ ?_ ?_
    · simp only [e_cst, e_var, e_lst, e_tup, e_bin, e_neg, e_cmp, e_chn, e_and, e_or, e_not, e_idx, e_sli, e_bck, e_blt, e_call, es_nil, es_cons, cond_def, aB_t, aB_f, oB_t, oB_f, add_i, sub_i, mul_i, div_i, mod_i, pow_18, c_eq, c_ne, c_lt, c_le, c_gt, c_ge, c_is, c_isn, isNon_n, isNon_i, isNon_b, isNon_t, isNon_L, tr_b, tr_i, tr_n, abs_i, int_i, max_i, min_i, isD_i, isD_b, isD_n, isD_t, isD_s, isD_L, val_L, val_t, ix_L, ix_t, at_0, at_1, at_2, atI_last, cat_isEmpty, dz, dpos,  List.dropLast_concat, List.reverse_nil, List.reverse_cons, bltD, optInt, itE_def, itD, isRng, bindT, bindT.go, wipe, fold_l, sum_l, cov_W, cov_M, eqD_MWr, eqD_MMr, imm_l, fr_l, fr_i, fr_b, fr_n, fr_s, fr_lst, lenD_l, listD_l, valD_l, revD_l, bckD_l, truth_l, isD_l, isNon_l, add_l, popD_l, appD_l, eqD_I, eqD_W, eqD_M, ixD_l, u_0, u_1, u_2, u_3, u_8, d_0, d_1, d_2, d_3, d_4, d_8, List.getElem?_cons_succ, List.getElem?_cons_zero, List.set_cons_succ, List.set_cons_zero, List.getD_cons_succ, List.getD_cons_zero, List.map_cons, List.map_nil, List.length_cons, List.length_nil, List.append_nil, List.nil_append, List.cons_append, List.replicate_succ, List.replicate_zero, Nat.reduceAdd, Nat.reduceSub, Nat.reduceLeDiff, Nat.reduceLT, Nat.zero_le, Nat.le_refl, ne_eq, not_true_eq_false, not_false_eq_true, Bool.or_self, Bool.or_false, Bool.false_or, Bool.or_true, Bool.true_or, Bool.and_true, Bool.true_and, Bool.and_false, Bool.false_and, Bool.not_true, Bool.not_false, decide_true, decide_false, decide_eq_true_eq, if_true, if_false, ite_true, ite_false, reduceIte, reduceCtorEq, Nat.reduceEqDiff, Nat.succ_ne_zero, Nat.one_ne_zero, small_def, PySem.sizeLine, Nat.reduceMul, beq_self_eq_true, Int.reduceMul, Int.reduceSub, Option.map_some, Option.map_none, true_and, and_true, and_self, Int.reduceNeg, Int.reduceAdd, Int.reduceLT, Int.reduceLE, Int.reducePow, Nat.reducePow, Int.reduceToNat, hr, prD]
    · exact ⟨_, _, _, rfl⟩
    · rintro a ys zs σ hw ⟨k11, k12, k13, rfl⟩
      obtain ⟨l13, e⟩ := hb a (mem_of_split hw) k13
      refine ⟨Ls ns ds L most F S W O T B j10 (some (eM a.1, 0)) (some (eM a.2, 0)) k13 j14, ?_, _, .inl e, _, _, _, rfl⟩
      simp only [F_law, prD, runR_rt, runR_nx, x_skip, x_seq, x_ite, x_asg, x_par, x_ret, x_retv, x_rett, x_app, x_pop, x_put, x_put2, sq_nx, sq_rt, ic_t, ic_f, setO_one, parO_some, setT, setT.go, setV, esc, esc0, ownd, demote, cov, cov.covL, List.any_cons, List.any_nil, vars, varsS, chgR, chg, pthD, Pth.root, Pth.toE, mvR, RT.slots, minK, e_cst, e_var, e_lst, e_tup, e_bin, e_neg, e_cmp, e_chn, e_and, e_or, e_not, e_idx, e_sli, e_bck, e_blt, e_call, es_nil, es_cons, cond_def, aB_t, aB_f, oB_t, oB_f, add_i, sub_i, mul_i, div_i, mod_i, pow_18, c_eq, c_ne, c_lt, c_le, c_gt, c_ge, c_is, c_isn, isNon_n, isNon_i, isNon_b, isNon_t, isNon_L, tr_b, tr_i, tr_n, abs_i, int_i, max_i, min_i, isD_i, isD_b, isD_n, isD_t, isD_s, isD_L, val_L, val_t, ix_L, ix_t, at_0, at_1, at_2, atI_last, cat_isEmpty, dz, dpos,  List.dropLast_concat, List.reverse_nil, List.reverse_cons, bltD, optInt, itE_def, itD, isRng, bindT, bindT.go, wipe, fold_l, sum_l, cov_W, cov_M, eqD_MWr, eqD_MMr, imm_l, fr_l, fr_i, fr_b, fr_n, fr_s, fr_lst, lenD_l, listD_l, valD_l, revD_l, bckD_l, truth_l, isD_l, isNon_l, add_l, popD_l, appD_l, eqD_I, eqD_W, eqD_M, ixD_l, u_0, u_1, u_2, u_3, u_8, d_0, d_1, d_2, d_3, d_4, d_8, List.getElem?_cons_succ, List.getElem?_cons_zero, List.set_cons_succ, List.set_cons_zero, List.getD_cons_succ, List.getD_cons_zero, List.map_cons, List.map_nil, List.length_cons, List.length_nil, List.append_nil, List.nil_append, List.cons_append, List.replicate_succ, List.replicate_zero, Nat.reduceAdd, Nat.reduceSub, Nat.reduceLeDiff, Nat.reduceLT, Nat.zero_le, Nat.le_refl, ne_eq, not_true_eq_false, not_false_eq_true, Bool.or_self, Bool.or_false, Bool.false_or, Bool.or_true, Bool.true_or, Bool.and_true, Bool.true_and, Bool.and_false, Bool.false_and, Bool.not_true, Bool.not_false, decide_true, decide_false, decide_eq_true_eq, if_true, if_false, ite_true, ite_false, reduceIte, reduceCtorEq, Nat.reduceEqDiff, Nat.succ_ne_zero, Nat.one_ne_zero, small_def, PySem.sizeLine, Nat.reduceMul, beq_self_eq_true, Int.reduceMul, Int.reduceSub, Option.map_some, Option.map_none, true_and, and_true, and_self, Int.reduceNeg, Int.reduceAdd, Int.reduceLT, Int.reduceLE, Int.reducePow, Nat.reducePow, Int.reduceToNat]
  exact ⟨k11, k12, k13, h1⟩
theorem lw9 {R : List (List Int)} (hr : Φ i__law_rest [.int L] = some (eM R, 2, .non)) (h1 : Φ i__law_mapped [eM T, eM B] = some (eM R, 0, .non)) (h2 : Φ i__law_mapped [eM B, eM T] = some (eM R, 0, .non)) :
    exec Φ F_law.own F_law.ret (nth F_law.body 9) (Ls ns ds L most F S W O T B j10 j11 j12 j13 j14) = some (.nx (Ls ns ds L most F S W O T B j10 j11 j12 j13 j14)) := by
  simp only [F_law, nth, runR_rt, runR_nx, x_skip, x_seq, x_ite, x_asg, x_par, x_ret, x_retv, x_rett, x_app, x_pop, x_put, x_put2, sq_nx, sq_rt, ic_t, ic_f, setO_one, parO_some, setT, setT.go, setV, esc, esc0, ownd, demote, cov, cov.covL, List.any_cons, List.any_nil, vars, varsS, chgR, chg, pthD, Pth.root, Pth.toE, mvR, RT.slots, minK, e_cst, e_var, e_lst, e_tup, e_bin, e_neg, e_cmp, e_chn, e_and, e_or, e_not, e_idx, e_sli, e_bck, e_blt, e_call, es_nil, es_cons, cond_def, aB_t, aB_f, oB_t, oB_f, add_i, sub_i, mul_i, div_i, mod_i, pow_18, c_eq, c_ne, c_lt, c_le, c_gt, c_ge, c_is, c_isn, isNon_n, isNon_i, isNon_b, isNon_t, isNon_L, tr_b, tr_i, tr_n, abs_i, int_i, max_i, min_i, isD_i, isD_b, isD_n, isD_t, isD_s, isD_L, val_L, val_t, ix_L, ix_t, at_0, at_1, at_2, atI_last, cat_isEmpty, dz, dpos,  List.dropLast_concat, List.reverse_nil, List.reverse_cons, bltD, optInt, itE_def, itD, isRng, bindT, bindT.go, wipe, fold_l, sum_l, cov_W, cov_M, eqD_MWr, eqD_MMr, imm_l, fr_l, fr_i, fr_b, fr_n, fr_s, fr_lst, lenD_l, listD_l, valD_l, revD_l, bckD_l, truth_l, isD_l, isNon_l, add_l, popD_l, appD_l, eqD_I, eqD_W, eqD_M, ixD_l, u_0, u_1, u_2, u_3, u_8, d_0, d_1, d_2, d_3, d_4, d_8, List.getElem?_cons_succ, List.getElem?_cons_zero, List.set_cons_succ, List.set_cons_zero, List.getD_cons_succ, List.getD_cons_zero, List.map_cons, List.map_nil, List.length_cons, List.length_nil, List.append_nil, List.nil_append, List.cons_append, List.replicate_succ, List.replicate_zero, Nat.reduceAdd, Nat.reduceSub, Nat.reduceLeDiff, Nat.reduceLT, Nat.zero_le, Nat.le_refl, ne_eq, not_true_eq_false, not_false_eq_true, Bool.or_self, Bool.or_false, Bool.false_or, Bool.or_true, Bool.true_or, Bool.and_true, Bool.true_and, Bool.and_false, Bool.false_and, Bool.not_true, Bool.not_false, decide_true, decide_false, decide_eq_true_eq, if_true, if_false, ite_true, ite_false, reduceIte, reduceCtorEq, Nat.reduceEqDiff, Nat.succ_ne_zero, Nat.one_ne_zero, small_def, PySem.sizeLine, Nat.reduceMul, beq_self_eq_true, Int.reduceMul, Int.reduceSub, Option.map_some, Option.map_none, true_and, and_true, and_self, Int.reduceNeg, Int.reduceAdd, Int.reduceLT, Int.reduceLE, Int.reducePow, Nat.reducePow, Int.reduceToNat, hr, h1, h2]
theorem lw10 {d1 d2 : Int} {V t : List Int} (g1 : L2.atI ds 1 = some d1) (g2 : L2.atI ds 2 = some d2) (h1 : Φ i__law_word [eW ds, .int 9, .int L, .int (d2 % 201)] = some (eW V, 1, .non)) (h2 : Φ i__law_told [eM S, eW V] = some (eW t, 0, .non)) :
    exec Φ F_law.own F_law.ret (nth F_law.body 10) (Ls ns ds L most F S W O T B j10 j11 j12 j13 j14) = some (.nx (Ls ns ds L most F S W O T B j10 j11 j12 j13 j14)) := by
  have q1 : divOk 8 = true := div_ok (by omega) (by omega)
  by_cases h : d1 / 8 % 16 = 5
  · simp only [F_law, nth, runR_rt, runR_nx, x_skip, x_seq, x_ite, x_asg, x_par, x_ret, x_retv, x_rett, x_app, x_pop, x_put, x_put2, sq_nx, sq_rt, ic_t, ic_f, setO_one, parO_some, setT, setT.go, setV, esc, esc0, ownd, demote, cov, cov.covL, List.any_cons, List.any_nil, vars, varsS, chgR, chg, pthD, Pth.root, Pth.toE, mvR, RT.slots, minK, e_cst, e_var, e_lst, e_tup, e_bin, e_neg, e_cmp, e_chn, e_and, e_or, e_not, e_idx, e_sli, e_bck, e_blt, e_call, es_nil, es_cons, cond_def, aB_t, aB_f, oB_t, oB_f, add_i, sub_i, mul_i, div_i, mod_i, pow_18, c_eq, c_ne, c_lt, c_le, c_gt, c_ge, c_is, c_isn, isNon_n, isNon_i, isNon_b, isNon_t, isNon_L, tr_b, tr_i, tr_n, abs_i, int_i, max_i, min_i, isD_i, isD_b, isD_n, isD_t, isD_s, isD_L, val_L, val_t, ix_L, ix_t, at_0, at_1, at_2, atI_last, cat_isEmpty, dz, dpos,  List.dropLast_concat, List.reverse_nil, List.reverse_cons, bltD, optInt, itE_def, itD, isRng, bindT, bindT.go, wipe, fold_l, sum_l, cov_W, cov_M, eqD_MWr, eqD_MMr, imm_l, fr_l, fr_i, fr_b, fr_n, fr_s, fr_lst, lenD_l, listD_l, valD_l, revD_l, bckD_l, truth_l, isD_l, isNon_l, add_l, popD_l, appD_l, eqD_I, eqD_W, eqD_M, ixD_l, u_0, u_1, u_2, u_3, u_8, d_0, d_1, d_2, d_3, d_4, d_8, List.getElem?_cons_succ, List.getElem?_cons_zero, List.set_cons_succ, List.set_cons_zero, List.getD_cons_succ, List.getD_cons_zero, List.map_cons, List.map_nil, List.length_cons, List.length_nil, List.append_nil, List.nil_append, List.cons_append, List.replicate_succ, List.replicate_zero, Nat.reduceAdd, Nat.reduceSub, Nat.reduceLeDiff, Nat.reduceLT, Nat.zero_le, Nat.le_refl, ne_eq, not_true_eq_false, not_false_eq_true, Bool.or_self, Bool.or_false, Bool.false_or, Bool.or_true, Bool.true_or, Bool.and_true, Bool.true_and, Bool.and_false, Bool.false_and, Bool.not_true, Bool.not_false, decide_true, decide_false, decide_eq_true_eq, if_true, if_false, ite_true, ite_false, reduceIte, reduceCtorEq, Nat.reduceEqDiff, Nat.succ_ne_zero, Nat.one_ne_zero, small_def, PySem.sizeLine, Nat.reduceMul, beq_self_eq_true, Int.reduceMul, Int.reduceSub, Option.map_some, Option.map_none, true_and, and_true, and_self, Int.reduceNeg, Int.reduceAdd, Int.reduceLT, Int.reduceLE, Int.reducePow, Nat.reducePow, Int.reduceToNat, g1, g2, h1, h2, q1, decide_eq_true h]
  · simp only [F_law, nth, runR_rt, runR_nx, x_skip, x_seq, x_ite, x_asg, x_par, x_ret, x_retv, x_rett, x_app, x_pop, x_put, x_put2, sq_nx, sq_rt, ic_t, ic_f, setO_one, parO_some, setT, setT.go, setV, esc, esc0, ownd, demote, cov, cov.covL, List.any_cons, List.any_nil, vars, varsS, chgR, chg, pthD, Pth.root, Pth.toE, mvR, RT.slots, minK, e_cst, e_var, e_lst, e_tup, e_bin, e_neg, e_cmp, e_chn, e_and, e_or, e_not, e_idx, e_sli, e_bck, e_blt, e_call, es_nil, es_cons, cond_def, aB_t, aB_f, oB_t, oB_f, add_i, sub_i, mul_i, div_i, mod_i, pow_18, c_eq, c_ne, c_lt, c_le, c_gt, c_ge, c_is, c_isn, isNon_n, isNon_i, isNon_b, isNon_t, isNon_L, tr_b, tr_i, tr_n, abs_i, int_i, max_i, min_i, isD_i, isD_b, isD_n, isD_t, isD_s, isD_L, val_L, val_t, ix_L, ix_t, at_0, at_1, at_2, atI_last, cat_isEmpty, dz, dpos,  List.dropLast_concat, List.reverse_nil, List.reverse_cons, bltD, optInt, itE_def, itD, isRng, bindT, bindT.go, wipe, fold_l, sum_l, cov_W, cov_M, eqD_MWr, eqD_MMr, imm_l, fr_l, fr_i, fr_b, fr_n, fr_s, fr_lst, lenD_l, listD_l, valD_l, revD_l, bckD_l, truth_l, isD_l, isNon_l, add_l, popD_l, appD_l, eqD_I, eqD_W, eqD_M, ixD_l, u_0, u_1, u_2, u_3, u_8, d_0, d_1, d_2, d_3, d_4, d_8, List.getElem?_cons_succ, List.getElem?_cons_zero, List.set_cons_succ, List.set_cons_zero, List.getD_cons_succ, List.getD_cons_zero, List.map_cons, List.map_nil, List.length_cons, List.length_nil, List.append_nil, List.nil_append, List.cons_append, List.replicate_succ, List.replicate_zero, Nat.reduceAdd, Nat.reduceSub, Nat.reduceLeDiff, Nat.reduceLT, Nat.zero_le, Nat.le_refl, ne_eq, not_true_eq_false, not_false_eq_true, Bool.or_self, Bool.or_false, Bool.false_or, Bool.or_true, Bool.true_or, Bool.and_true, Bool.true_and, Bool.and_false, Bool.false_and, Bool.not_true, Bool.not_false, decide_true, decide_false, decide_eq_true_eq, if_true, if_false, ite_true, ite_false, reduceIte, reduceCtorEq, Nat.reduceEqDiff, Nat.succ_ne_zero, Nat.one_ne_zero, small_def, PySem.sizeLine, Nat.reduceMul, beq_self_eq_true, Int.reduceMul, Int.reduceSub, Option.map_some, Option.map_none, true_and, and_true, and_self, Int.reduceNeg, Int.reduceAdd, Int.reduceLT, Int.reduceLE, Int.reducePow, Nat.reducePow, Int.reduceToNat, g1, g2, h1, h2, q1, decide_eq_false h]
theorem lw_end {r0 : List Int} {R : List (List Int)} {t : List Int} (hr : Φ i__law_rest [.int L] = some (eM (r0 :: R), 2, .non)) (hm : Φ i_rest_map [.int L] = some (eM (r0 :: R), 2, .non)) (h2 : Φ i__law_told [eM (r0 :: R), eW W] = some (eW t, 0, .non)) (h3 : Φ i__law_short [eW W] = some (eW t, 1, .non)) (hl : r0.length < 16777216) :
    ∃ σ, exec Φ F_law.own F_law.ret (.seq (nth F_law.body 11) (.seq (nth F_law.body 12) (.seq (nth F_law.body 13) (.seq (nth F_law.body 14) .skip)))) (Ls ns ds L most F S W O T B j10 j11 j12 j13 j14) = some (.rt σ (.bl true) 8) := by
  have hy : chg (appD (.int 2) 8) [] (eW r0) (dn 2) = some (eW (r0 ++ [2])) := by
    simp only [runR_rt, runR_nx, x_skip, x_seq, x_ite, x_asg, x_par, x_ret, x_retv, x_rett, x_app, x_pop, x_put, x_put2, sq_nx, sq_rt, ic_t, ic_f, setO_one, parO_some, setT, setT.go, setV, esc, esc0, ownd, demote, cov, cov.covL, List.any_cons, List.any_nil, vars, varsS, chgR, chg, pthD, Pth.root, Pth.toE, mvR, RT.slots, minK, e_cst, e_var, e_lst, e_tup, e_bin, e_neg, e_cmp, e_chn, e_and, e_or, e_not, e_idx, e_sli, e_bck, e_blt, e_call, es_nil, es_cons, cond_def, aB_t, aB_f, oB_t, oB_f, add_i, sub_i, mul_i, div_i, mod_i, pow_18, c_eq, c_ne, c_lt, c_le, c_gt, c_ge, c_is, c_isn, isNon_n, isNon_i, isNon_b, isNon_t, isNon_L, tr_b, tr_i, tr_n, abs_i, int_i, max_i, min_i, isD_i, isD_b, isD_n, isD_t, isD_s, isD_L, val_L, val_t, ix_L, ix_t, at_0, at_1, at_2, atI_last, cat_isEmpty, dz, dpos,  List.dropLast_concat, List.reverse_nil, List.reverse_cons, bltD, optInt, itE_def, itD, isRng, bindT, bindT.go, wipe, fold_l, sum_l, cov_W, cov_M, eqD_MWr, eqD_MMr, imm_l, fr_l, fr_i, fr_b, fr_n, fr_s, fr_lst, lenD_l, listD_l, valD_l, revD_l, bckD_l, truth_l, isD_l, isNon_l, add_l, popD_l, appD_l, eqD_I, eqD_W, eqD_M, ixD_l, u_0, u_1, u_2, u_3, u_8, d_0, d_1, d_2, d_3, d_4, d_8, List.getElem?_cons_succ, List.getElem?_cons_zero, List.set_cons_succ, List.set_cons_zero, List.getD_cons_succ, List.getD_cons_zero, List.map_cons, List.map_nil, List.length_cons, List.length_nil, List.append_nil, List.nil_append, List.cons_append, List.replicate_succ, List.replicate_zero, Nat.reduceAdd, Nat.reduceSub, Nat.reduceLeDiff, Nat.reduceLT, Nat.zero_le, Nat.le_refl, ne_eq, not_true_eq_false, not_false_eq_true, Bool.or_self, Bool.or_false, Bool.false_or, Bool.or_true, Bool.true_or, Bool.and_true, Bool.true_and, Bool.and_false, Bool.false_and, Bool.not_true, Bool.not_false, decide_true, decide_false, decide_eq_true_eq, if_true, if_false, ite_true, ite_false, reduceIte, reduceCtorEq, Nat.reduceEqDiff, Nat.succ_ne_zero, Nat.one_ne_zero, small_def, PySem.sizeLine, Nat.reduceMul, beq_self_eq_true, Int.reduceMul, Int.reduceSub, Option.map_some, Option.map_none, true_and, and_true, and_self, Int.reduceNeg, Int.reduceAdd, Int.reduceLT, Int.reduceLE, Int.reducePow, Nat.reducePow, Int.reduceToNat, hl]
  have hz := chg_i eW (r0 :: R) (appD (.int 2) 8) [] 0 2 0 r0 (r0 ++ [2]) (ix_of (by omega) (by simp)) rfl (by omega) hy
  rw [x_seq]
  simp only [F_law, nth, runR_rt, runR_nx, x_skip, x_seq, x_ite, x_asg, x_par, x_ret, x_retv, x_rett, x_app, x_pop, x_put, x_put2, sq_nx, sq_rt, ic_t, ic_f, setO_one, parO_some, setT, setT.go, setV, esc, esc0, ownd, demote, cov, cov.covL, List.any_cons, List.any_nil, vars, varsS, chgR, chg, pthD, Pth.root, Pth.toE, mvR, RT.slots, minK, e_cst, e_var, e_lst, e_tup, e_bin, e_neg, e_cmp, e_chn, e_and, e_or, e_not, e_idx, e_sli, e_bck, e_blt, e_call, es_nil, es_cons, cond_def, aB_t, aB_f, oB_t, oB_f, add_i, sub_i, mul_i, div_i, mod_i, pow_18, c_eq, c_ne, c_lt, c_le, c_gt, c_ge, c_is, c_isn, isNon_n, isNon_i, isNon_b, isNon_t, isNon_L, tr_b, tr_i, tr_n, abs_i, int_i, max_i, min_i, isD_i, isD_b, isD_n, isD_t, isD_s, isD_L, val_L, val_t, ix_L, ix_t, at_0, at_1, at_2, atI_last, cat_isEmpty, dz, dpos,  List.dropLast_concat, List.reverse_nil, List.reverse_cons, bltD, optInt, itE_def, itD, isRng, bindT, bindT.go, wipe, fold_l, sum_l, cov_W, cov_M, eqD_MWr, eqD_MMr, imm_l, fr_l, fr_i, fr_b, fr_n, fr_s, fr_lst, lenD_l, listD_l, valD_l, revD_l, bckD_l, truth_l, isD_l, isNon_l, add_l, popD_l, appD_l, eqD_I, eqD_W, eqD_M, ixD_l, u_0, u_1, u_2, u_3, u_8, d_0, d_1, d_2, d_3, d_4, d_8, List.getElem?_cons_succ, List.getElem?_cons_zero, List.set_cons_succ, List.set_cons_zero, List.getD_cons_succ, List.getD_cons_zero, List.map_cons, List.map_nil, List.length_cons, List.length_nil, List.append_nil, List.nil_append, List.cons_append, List.replicate_succ, List.replicate_zero, Nat.reduceAdd, Nat.reduceSub, Nat.reduceLeDiff, Nat.reduceLT, Nat.zero_le, Nat.le_refl, ne_eq, not_true_eq_false, not_false_eq_true, Bool.or_self, Bool.or_false, Bool.false_or, Bool.or_true, Bool.true_or, Bool.and_true, Bool.true_and, Bool.and_false, Bool.false_and, Bool.not_true, Bool.not_false, decide_true, decide_false, decide_eq_true_eq, if_true, if_false, ite_true, ite_false, reduceIte, reduceCtorEq, Nat.reduceEqDiff, Nat.succ_ne_zero, Nat.one_ne_zero, small_def, PySem.sizeLine, Nat.reduceMul, beq_self_eq_true, Int.reduceMul, Int.reduceSub, Option.map_some, Option.map_none, true_and, and_true, and_self, Int.reduceNeg, Int.reduceAdd, Int.reduceLT, Int.reduceLE, Int.reducePow, Nat.reducePow, Int.reduceToNat, hr, hm, h2, h3, hz]
  exact ⟨_, rfl⟩
theorem lw_init {d0 d1 d2 d3 d4 : Int} (h0 : Φ i__law_draws [.scr ns, .int 60] = some (eW ds, 1, .non)) (g0 : L2.atI ds 0 = some d0) (g1 : L2.atI ds 1 = some d1) (g2 : L2.atI ds 2 = some d2) (g3 : L2.atI ds 3 = some d3) (g4 : L2.atI ds 4 = some d4)
    (hL : L = 1 + d0 % 4) (hm : most = if d1 % 8 = 5 then 15 else 6) (h1 : Φ i__law_mapping [eW ds, .int 5, .int L, .int most] = some (eM F, 2, .non)) (h2 : Φ i__law_mapping [eW ds, .int 20, .int L, .int 4] = some (eM S, 2, .non))
    (h3 : Φ i__law_word [eW ds, .int 30, .int L, .int (d2 % 13)] = some (eW W, 1, .non)) (h4 : Φ i__law_word [eW ds, .int 40, .int L, .int (d3 % 13)] = some (eW O, 1, .non))
    (h5 : Φ i__law_way_back_map [eW ds, .int 45, .int L, .int (d4 % 7), .int 60] = some (.tup [eM T, eM B], 0, .non)) : ∀ R, exec Φ F_law.own F_law.ret (.seq (nth F_law.body 0) (.seq (nth F_law.body 1) (.seq (nth F_law.body 2) (.seq (nth F_law.body 3) (.seq (nth F_law.body 4) (.seq (nth F_law.body 5) (.seq (nth F_law.body 6) R)))))))
      [some (.scr ns, 0), none, none, none, none, none, none, none, none, none, none, none, none, none, none] = exec Φ F_law.own F_law.ret R (Ls ns ds L most F S W O T B none none none none none) := by
  intro R
  rw [x_seq]
  by_cases h : d1 % 8 = 5
  · rw [if_pos h] at hm
    subst hm
    simp only [F_law, nth, runR_rt, runR_nx, x_skip, x_seq, x_ite, x_asg, x_par, x_ret, x_retv, x_rett, x_app, x_pop, x_put, x_put2, sq_nx, sq_rt, ic_t, ic_f, setO_one, parO_some, setT, setT.go, setV, esc, esc0, ownd, demote, cov, cov.covL, List.any_cons, List.any_nil, vars, varsS, chgR, chg, pthD, Pth.root, Pth.toE, mvR, RT.slots, minK, e_cst, e_var, e_lst, e_tup, e_bin, e_neg, e_cmp, e_chn, e_and, e_or, e_not, e_idx, e_sli, e_bck, e_blt, e_call, es_nil, es_cons, cond_def, aB_t, aB_f, oB_t, oB_f, add_i, sub_i, mul_i, div_i, mod_i, pow_18, c_eq, c_ne, c_lt, c_le, c_gt, c_ge, c_is, c_isn, isNon_n, isNon_i, isNon_b, isNon_t, isNon_L, tr_b, tr_i, tr_n, abs_i, int_i, max_i, min_i, isD_i, isD_b, isD_n, isD_t, isD_s, isD_L, val_L, val_t, ix_L, ix_t, at_0, at_1, at_2, atI_last, cat_isEmpty, dz, dpos,  List.dropLast_concat, List.reverse_nil, List.reverse_cons, bltD, optInt, itE_def, itD, isRng, bindT, bindT.go, wipe, fold_l, sum_l, cov_W, cov_M, eqD_MWr, eqD_MMr, imm_l, fr_l, fr_i, fr_b, fr_n, fr_s, fr_lst, lenD_l, listD_l, valD_l, revD_l, bckD_l, truth_l, isD_l, isNon_l, add_l, popD_l, appD_l, eqD_I, eqD_W, eqD_M, ixD_l, u_0, u_1, u_2, u_3, u_8, d_0, d_1, d_2, d_3, d_4, d_8, List.getElem?_cons_succ, List.getElem?_cons_zero, List.set_cons_succ, List.set_cons_zero, List.getD_cons_succ, List.getD_cons_zero, List.map_cons, List.map_nil, List.length_cons, List.length_nil, List.append_nil, List.nil_append, List.cons_append, List.replicate_succ, List.replicate_zero, Nat.reduceAdd, Nat.reduceSub, Nat.reduceLeDiff, Nat.reduceLT, Nat.zero_le, Nat.le_refl, ne_eq, not_true_eq_false, not_false_eq_true, Bool.or_self, Bool.or_false, Bool.false_or, Bool.or_true, Bool.true_or, Bool.and_true, Bool.true_and, Bool.and_false, Bool.false_and, Bool.not_true, Bool.not_false, decide_true, decide_false, decide_eq_true_eq, if_true, if_false, ite_true, ite_false, reduceIte, reduceCtorEq, Nat.reduceEqDiff, Nat.succ_ne_zero, Nat.one_ne_zero, small_def, PySem.sizeLine, Nat.reduceMul, beq_self_eq_true, Int.reduceMul, Int.reduceSub, Option.map_some, Option.map_none, true_and, and_true, and_self, Int.reduceNeg, Int.reduceAdd, Int.reduceLT, Int.reduceLE, Int.reducePow, Nat.reducePow, Int.reduceToNat, setO, h0, g0, g1, g2, g3, g4, ← hL, h1, h2, h3, h4, h5, decide_eq_true h]
  · rw [if_neg h] at hm
    subst hm
    simp only [F_law, nth, runR_rt, runR_nx, x_skip, x_seq, x_ite, x_asg, x_par, x_ret, x_retv, x_rett, x_app, x_pop, x_put, x_put2, sq_nx, sq_rt, ic_t, ic_f, setO_one, parO_some, setT, setT.go, setV, esc, esc0, ownd, demote, cov, cov.covL, List.any_cons, List.any_nil, vars, varsS, chgR, chg, pthD, Pth.root, Pth.toE, mvR, RT.slots, minK, e_cst, e_var, e_lst, e_tup, e_bin, e_neg, e_cmp, e_chn, e_and, e_or, e_not, e_idx, e_sli, e_bck, e_blt, e_call, es_nil, es_cons, cond_def, aB_t, aB_f, oB_t, oB_f, add_i, sub_i, mul_i, div_i, mod_i, pow_18, c_eq, c_ne, c_lt, c_le, c_gt, c_ge, c_is, c_isn, isNon_n, isNon_i, isNon_b, isNon_t, isNon_L, tr_b, tr_i, tr_n, abs_i, int_i, max_i, min_i, isD_i, isD_b, isD_n, isD_t, isD_s, isD_L, val_L, val_t, ix_L, ix_t, at_0, at_1, at_2, atI_last, cat_isEmpty, dz, dpos,  List.dropLast_concat, List.reverse_nil, List.reverse_cons, bltD, optInt, itE_def, itD, isRng, bindT, bindT.go, wipe, fold_l, sum_l, cov_W, cov_M, eqD_MWr, eqD_MMr, imm_l, fr_l, fr_i, fr_b, fr_n, fr_s, fr_lst, lenD_l, listD_l, valD_l, revD_l, bckD_l, truth_l, isD_l, isNon_l, add_l, popD_l, appD_l, eqD_I, eqD_W, eqD_M, ixD_l, u_0, u_1, u_2, u_3, u_8, d_0, d_1, d_2, d_3, d_4, d_8, List.getElem?_cons_succ, List.getElem?_cons_zero, List.set_cons_succ, List.set_cons_zero, List.getD_cons_succ, List.getD_cons_zero, List.map_cons, List.map_nil, List.length_cons, List.length_nil, List.append_nil, List.nil_append, List.cons_append, List.replicate_succ, List.replicate_zero, Nat.reduceAdd, Nat.reduceSub, Nat.reduceLeDiff, Nat.reduceLT, Nat.zero_le, Nat.le_refl, ne_eq, not_true_eq_false, not_false_eq_true, Bool.or_self, Bool.or_false, Bool.false_or, Bool.or_true, Bool.true_or, Bool.and_true, Bool.true_and, Bool.and_false, Bool.false_and, Bool.not_true, Bool.not_false, decide_true, decide_false, decide_eq_true_eq, if_true, if_false, ite_true, ite_false, reduceIte, reduceCtorEq, Nat.reduceEqDiff, Nat.succ_ne_zero, Nat.one_ne_zero, small_def, PySem.sizeLine, Nat.reduceMul, beq_self_eq_true, Int.reduceMul, Int.reduceSub, Option.map_some, Option.map_none, true_and, and_true, and_self, Int.reduceNeg, Int.reduceAdd, Int.reduceLT, Int.reduceLE, Int.reducePow, Nat.reducePow, Int.reduceToNat, setO, h0, g0, g1, g2, g3, g4, ← hL, h1, h2, h3, h4, h5, decide_eq_false h]
end
end LW

namespace LW
open PD


structure MM (L : Nat) (M : List (List Int)) : Prop where
  mp : Mp L L M
  le : ∀ w ∈ M, w.length ≤ 60
theorem MM.img {L : Nat} {M : List (List Int)} (h : MM L M) {w : List Int} {c : Nat} (hw : w.length ≤ c) : (img M w).length ≤ 60 * c := Nat.le_trans (img_len h.le w) (Nat.mul_le_mul_left 60 hw)
theorem MM.ok {L : Nat} {M : List (List Int)} (h : MM L M) {w : List Int} (hi : In L w) (c : Nat) (hw : w.length ≤ c) (hc : c ≤ 100000) : Ok M w := Ok.mk' (b := 60) (c := c) (by rw [h.mp.1]; exact hi) h.le hw (by omega) (by omega)
theorem main (ns : List Int) (hns : ns.length ≤ 63) : ∃ k d', Phi prog (12 + 1) i_law [.scr ns] = some (.bl true, k, d') := by
  refine ⟨8, .non, ?_⟩
  rw [Phi_succ (fn := F_law) rfl]
  obtain ⟨ds, hd, hlen, hdr⟩ := run_draws (Phi prog 11) ns 60 (by omega)
  have h0 : Phi prog 12 i__law_draws [.scr ns, .int 60] = some (eW ds, 1, .non) := hdr
  have g : ∀ i : Int, 0 ≤ i → i < 60 → L2.atI ds i = some (ds.getD i.toNat 0) := fun i a b => atI_at 0 a (by omega)
  have gd := fun j => hd.get j
  obtain ⟨d0, e0⟩ : ∃ d, d = ds.getD (0 : Int).toNat 0 := ⟨_, rfl⟩
  obtain ⟨d1, e1⟩ : ∃ d, d = ds.getD (1 : Int).toNat 0 := ⟨_, rfl⟩
  obtain ⟨d2, e2⟩ : ∃ d, d = ds.getD (2 : Int).toNat 0 := ⟨_, rfl⟩
  obtain ⟨d3, e3⟩ : ∃ d, d = ds.getD (3 : Int).toNat 0 := ⟨_, rfl⟩
  obtain ⟨d4, e4⟩ : ∃ d, d = ds.getD (4 : Int).toNat 0 := ⟨_, rfl⟩
  have g0 : L2.atI ds 0 = some d0 := by rw [g 0 (by omega) (by omega), e0]
  have g1 : L2.atI ds 1 = some d1 := by rw [g 1 (by omega) (by omega), e1]
  have g2 : L2.atI ds 2 = some d2 := by rw [g 2 (by omega) (by omega), e2]
  have g3 : L2.atI ds 3 = some d3 := by rw [g 3 (by omega) (by omega), e3]
  have g4 : L2.atI ds 4 = some d4 := by rw [g 4 (by omega) (by omega), e4]
  obtain ⟨k, hk, k0⟩ : ∃ k : Nat, (k : Int) = 1 + d0 % 4 ∧ 0 < k := ⟨(1 + d0 % 4).toNat, by omega, by omega⟩
  obtain ⟨L, hLk⟩ : ∃ L : Int, L = (k : Int) := ⟨_, rfl⟩
  have hL : L = 1 + d0 % 4 := by omega
  have hLt : L.toNat = k := by omega
  obtain ⟨most, hm⟩ : ∃ m : Int, m = if d1 % 8 = 5 then 15 else 6 := ⟨_, rfl⟩
  have hm0 : 0 ≤ most ∧ most ≤ 15 := by rw [hm]; split <;> omega
  clear hdr e0 e1 e2 e3 e4
  have hlen0 : 0 < ds.length := by omega
  have hlen1 : ds.length ≤ 5000 := by omega
  have h1 : Phi prog 12 i__law_mapping [eW ds, .int 5, .int L, .int most] = _ := ev_mapping 9 ds 5 L most hd hlen0 hlen1 (by omega) (by omega) (by omega) (by omega) (by omega) (by omega)
  have h2 : Phi prog 12 i__law_mapping [eW ds, .int 20, .int L, .int 4] = _ := ev_mapping 9 ds 20 L 4 hd hlen0 hlen1 (by omega) (by omega) (by omega) (by omega) (by omega) (by omega)
  have h3 : Phi prog 12 i__law_word [eW ds, .int 30, .int L, .int (d2 % 13)] = _ := ev_word 10 ds 30 L (d2 % 13) hd hlen0 hlen1 (by omega) (by omega) (by omega) (by omega) (by omega) (by omega)
  have h4 : Phi prog 12 i__law_word [eW ds, .int 40, .int L, .int (d3 % 13)] = _ := ev_word 10 ds 40 L (d3 % 13) hd hlen0 hlen1 (by omega) (by omega) (by omega) (by omega) (by omega) (by omega)
  obtain ⟨T, B, hw, h5⟩ := ev_way_back 8 ds 45 L (d4 % 7) hd hlen0 hlen1 (by omega) (by omega) (by omega) (by omega) (by omega) (by omega)
  have h6 : Phi prog 12 i__law_word [eW ds, .int 9, .int L, .int (d2 % 201)] = _ := ev_word 10 ds 9 L (d2 % 201) hd hlen0 hlen1 (by omega) (by omega) (by omega) (by omega) (by omega) (by omega)
  have hr : Phi prog 12 i__law_rest [.int L] = _ := ev_rest 11 L (by omega) (by omega)
  have hrm : Phi prog 12 i_rest_map [.int k] = _ := ev_rest_map 11 k (by omega)
  rw [← hLk] at hrm
  rw [hLt] at hr hw
  have mF : MM k (mapF ds 5 L most) := ⟨by rw [hLk]; exact mapF_Mp 5 k0 most, fun w hw => by have := mapF_len 5 L hm0.1 w hw; omega⟩
  have mS : MM k (mapF ds 20 L 4) := ⟨by rw [hLk]; exact mapF_Mp 20 k0 4, fun w hw => by have := mapF_len 20 L (most := 4) (by omega) w hw; omega⟩
  have iW : In k (wordF ds 30 L (d2 % 13)) := by rw [hLk]; exact wordF_in 30 k0 _
  have iO : In k (wordF ds 40 L (d3 % 13)) := by rw [hLk]; exact wordF_in 40 k0 _
  have iV : In k (wordF ds 9 L (d2 % 201)) := by rw [hLk]; exact wordF_in 9 k0 _
  have lW : (wordF ds 30 L (d2 % 13)).length ≤ 12 := by rw [wordF_len]; omega
  have lO : (wordF ds 40 L (d3 % 13)).length ≤ 12 := by rw [wordF_len]; omega
  have lV : (wordF ds 9 L (d2 % 201)).length ≤ 200 := by rw [wordF_len]; omega
  have mT : MM k T := ⟨hw.t, hw.tl⟩
  have mB : MM k B := ⟨hw.b, hw.bl⟩
  have mR : MM k (rest k) := ⟨(WB.rest k).t, (WB.rest k).tl⟩
  have main := lw_init h0 g0 g1 g2 g3 g4 hL hm h1 h2 h3 h4 h5
  generalize mapF ds 5 L most = F at mF main
  generalize mapF ds 20 L 4 = S at mS main
  generalize wordF ds 30 L (d2 % 13) = W at iW lW main
  generalize wordF ds 40 L (d3 % 13) = O at iO lO main
  generalize wordF ds 9 L (d2 % 201) = V at iV lV h6
  clear h0 h1 h2 h3 h4 h5 hm hm0
  have kk : k ≤ 4 := by omega
  have told : ∀ (M : List (List Int)) (w : List Int), MM k M → In k w → w.length ≤ 5000 → Phi prog 12 i__law_told [eM M, eW w] = some (eW (red (img M w)), 0, .non) := fun M w hM hi hl =>
    ev_told 7 M w (hM.ok hi 5000 hl (by omega)) (by have := hM.img hl; omega) (by rw [hM.mp.1]; omega)
  have short : ∀ w : List Int, w.length ≤ 1000000 → Phi prog 12 i__law_short [eW w] = some (eW (red w), 1, .non) := fun w hl => ev_short 11 w (by omega)
  have bck : ∀ w : List Int, w.length ≤ 1000000 → Phi prog 12 i__law_back [eW w] = some (eW (back w), 8, .non) := fun w hl => ev_back 11 w (by omega)
  have mapped : ∀ M N : List (List Int), MM k M → MM k N → Phi prog 12 i__law_mapped [eM M, eM N] = some (eM (after M N), 0, .non) := fun M N hM hN =>
    ev_mapped 6 M N (fun w hw => hN.ok (hM.mp.2 w hw) 60 (hM.le w hw) (by omega)) (fun w hw => by have := hN.img (hM.le w hw); omega) (by rw [hM.mp.1]; omega) (by rw [hN.mp.1]; omega)
  have a7 : ∀ M ∈ [F, S, T, B, rest k], ∀ j11 j12, ∃ k11 k12, exec (Phi prog 12) F_law.own F_law.ret (thenS (nth F_law.body 7)) (Ls ns ds L most F S W O T B (some (eM M, 0)) j11 j12 none none) = some (.nx (Ls ns ds L most F S W O T B (some (eM M, 0)) k11 k12 none none)) := by
    intro M hM j11 j12
    have hM : MM k M := by
      simp only [List.mem_cons, List.not_mem_nil, or_false] at hM
      rcases hM with rfl | rfl | rfl | rfl | rfl <;> assumption
    have r1 := hM.img lW
    have r2 := hM.img lO
    have r3 := red_length (img M W)
    have r4 := red_length (img M O)
    have t3 := told M (W ++ O) hM (iW.app iO) (by simp; omega)
    have t4 := short (red (img M W) ++ red (img M O)) (by simp; omega)
    have q3 : red (red (img M W) ++ red (img M O)) = red (img M (W ++ O)) := by
      rw [img_append]
      exact ((Eqv.red _).app (Eqv.red _)).eq
    rw [q3] at t4
    have t6 := told M (back W) hM iW.back (by rw [back_length]; omega)
    rw [img_back M iW.nz, red_back] at t6
    exact ⟨_, _, lw7_rd (told M W hM iW (by omega)) (told M O hM iO (by omega)) t3 t4 (bck W (by omega)) t6 (bck _ (by omega)) (told M [] hM In.nil (by simp)) (by omega) (by omega)⟩
  have a8 : ∀ p ∈ [(F, S), (S, F), (T, B), (B, T), (F, T), (rest k, F)], ∀ j10 k13, ∃ l13, exec (Phi prog 12) F_law.own F_law.ret (thenS (nth F_law.body 8)) (Ls ns ds L most F S W O T B j10 (some (eM p.1, 0)) (some (eM p.2, 0)) k13 none) = some (.nx (Ls ns ds L most F S W O T B j10 (some (eM p.1, 0)) (some (eM p.2, 0)) l13 none)) := by
    intro p hp j10 k13
    have hM : MM k p.1 ∧ MM k p.2 := by
      simp only [List.mem_cons, List.not_mem_nil, or_false] at hp
      rcases hp with rfl | rfl | rfl | rfl | rfl | rfl <;> exact ⟨by assumption, by assumption⟩
    obtain ⟨M, N⟩ := p
    have hN : MM k N := hM.2
    have hM : MM k M := hM.1
    show ∃ l13, exec (Phi prog 12) F_law.own F_law.ret (thenS (nth F_law.body 8)) (Ls ns ds L most F S W O T B j10 (some (eM M, 0)) (some (eM N, 0)) k13 none) = some (.nx (Ls ns ds L most F S W O T B j10 (some (eM M, 0)) (some (eM N, 0)) l13 none))
    have r1 := hM.img lW
    have r3 := red_length (img M W)
    have t4 := told N (red (img M W)) hN (In.img hM.mp iW).red (by omega)
    have am := hM.mp.after hN.mp
    have al : ∀ w ∈ after M N, w.length ≤ 3600 := by
      intro w hw
      simp only [after, List.mem_map] at hw
      obtain ⟨u, hu, rfl⟩ := hw
      have x1 := hN.img (hM.le u hu)
      have x2 := red_length (img N u)
      omega
    have hok : Ok (after M N) W := Ok.mk' (b := 3600) (c := 12) (by rw [am.1]; exact iW) al lW (by omega) (by omega)
    have t2 : Phi prog 12 i__law_image [eM (after M N), eW W] = _ := ev_limage 10 (after M N) W hok
    have q : red (img (after M N) W) = red (img N (red (img M W))) := by
      have iM : In k (img M W) := In.img hM.mp iW
      exact ((img_after M N hM.mp iW).trans (img_red N iM.nz).symm).eq
    rw [q] at t2
    exact ⟨_, lw8_rd (mapped M N hM hN) t2 (told M W hM iW (by omega)) t4⟩
  obtain ⟨k10, k11, k12, e7⟩ := lw7_all (Φ := Phi prog 12) (ns := ns) (ds := ds) (most := most) (j10 := none) (j11 := none) (j12 := none) hr a7
  obtain ⟨l11, l12, l13, e8⟩ := lw8_all (Φ := Phi prog 12) (ns := ns) (ds := ds) (most := most) (j10 := k10) (j11 := k11) (j12 := k12) (j13 := none) hr (fun p hp k13 => a8 p hp k10 k13)
  have m1 := mapped T B mT mB
  have m2 := mapped B T mB mT
  rw [hw.tb] at m1
  rw [hw.bt] at m2
  have e9 := lw9 (ns := ns) (ds := ds) (most := most) (F := F) (S := S) (W := W) (O := O) (j10 := k10) (j11 := l11) (j12 := l12) (j13 := l13) (j14 := none) hr m1 m2
  have e10 := lw10 (ns := ns) (ds := ds) (most := most) (F := F) (S := S) (W := W) (O := O) (T := T) (B := B) (j10 := k10) (j11 := l11) (j12 := l12) (j13 := l13) (j14 := none) g1 g2 h6 (told S V mS iV (by omega))
  have tR := told (rest k) W mR iW (by omega)
  rw [img_rest iW] at tR
  obtain ⟨k', hk'⟩ : ∃ k', k = k' + 1 := ⟨k - 1, by omega⟩
  have hrc : rest k = [1 + ((0 : Nat) : Int)] :: (rest k).tail := by
    rw [hk']
    simp [rest, List.range_succ_eq_map]
  rw [hrc] at hr hrm tR
  obtain ⟨σ, e11⟩ := lw_end (ns := ns) (ds := ds) (most := most) (F := F) (S := S) (O := O) (T := T) (B := B) (j10 := k10) (j11 := l11) (j12 := l12) (j13 := l13) (j14 := none) hr hrm tR (short W (by omega)) (by simp)
  rw [runF_of rfl]
  have fin := (main (.seq (nth F_law.body 7) (.seq (nth F_law.body 8) (.seq (nth F_law.body 9) (.seq (nth F_law.body 10) (.seq (nth F_law.body 11) (.seq (nth F_law.body 12) (.seq (nth F_law.body 13) (.seq (nth F_law.body 14) .skip)))))))))
  have fin2 : exec (Phi prog 12) F_law.own F_law.ret (.seq (nth F_law.body 7) (.seq (nth F_law.body 8) (.seq (nth F_law.body 9) (.seq (nth F_law.body 10) (.seq (nth F_law.body 11) (.seq (nth F_law.body 12) (.seq (nth F_law.body 13) (.seq (nth F_law.body 14) .skip)))))))) (Ls ns ds L most F S W O T B none none none none none) = some (.rt σ (.bl true) 8) := by
    rw [x_seq, e7, sq_nx, x_seq, e8, sq_nx, x_seq, e9, sq_nx, x_seq, e10, sq_nx, e11]
  exact congrArg (runR F_law.ret) (fin.trans fin2)
end LW
theorem PySem.Challenge.cw_wordscancel_k78_images_of_words_holds : PySem.Challenge.rw_wordscancel_k78_images_of_words.Holds := by
  exact LW.holds LW.main
