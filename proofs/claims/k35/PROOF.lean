import PyProof.Rows.All
import Wide.All
import OpenK.AllK
import Wide.FinOn
import HandS.ForMost
import HandS.TupAny
import HandS.TupMul
import HandS.TupLe
import HandS.Gcd
import HandS.Conv
import HandS.Wide
import HandS.IsInst
import HandS.Style
import HandS.Zip
import HandS.Flow
import HandS.Walk
import PyProof.ListMulRoad
import PyProof.FactsAll.tuple_2
import KE.GoesEnum
import HandS.NoneIn
import HandS.Defaults
import HandS.HeadHook1
import HandS.HeadHook2
import HandS.HeadEnd
import HandS.Head0
import HandS.Head1
import HandS.Head2
import HandS.Head3
import PySem.Challenge.RW_termstead_k35_noughts_in_rows
set_option Elab.async false
set_option linter.all false
set_option maxRecDepth 100000
set_option maxHeartbeats 0
/-! EvA: a small language over plain data, its evaluator. -/
namespace EV
open PySem

inductive W where
  | d (x : PyData)
  | m (i : Nat)
  | r (ns : List Int)
inductive MO where
  | lst (xs : List PyData)
  | dct (kvs : List (PyData × PyData))
  | dead
abbrev Mem := List MO
abbrev Loc := List (Option W)

inductive P2 where
  | add | sub | mul | fdiv | mod | pow | eq | ne | lt | le | gt | ge | is | isn | inn | nin | ix
  deriving DecidableEq
inductive Ty where
  | tuple | list | int | str | bool
  deriving DecidableEq
inductive B where
  | len | abs | int | all | any | sum | tuple | list | max | min | gcd | lcm | sorted | str | isi (t : Ty)
  deriving DecidableEq
inductive Mt where
  | append | extend | pop | join | isdigit | isascii | partition | split | index
  deriving DecidableEq
inductive T where
  | v (i : Nat)
  | tv (is : List Nat)

mutual
inductive E where
  | var (i : Nat)
  | lit (x : PyData)
  | glb (i : Nat)
  | tup (es : Es)
  | lst (mu : Bool) (es : Es)
  | op2 (mu : Bool) (p : P2) (a b : E)
  | neg (a : E)
  | not (a : E)
  | chain (p q : P2) (a b c : E)
  | and (es : Es)
  | or (es : Es)
  | ife (c a b : E)
  | slc (mu hl hu : Bool) (a lo hi : E)
  | rev (mu : Bool) (a : E)
  | call (f : Nat) (es : Es)
  | blt (mu : Bool) (b : B) (es : Es)
  | meth (m : Mt) (a : E) (es : Es)
  | comp (mu : Bool) (own : List Nat) (tg : T) (it : It) (c elt : E)
  | stuck
inductive Es where
  | nil
  | cons (e : E) (es : Es)
inductive It where
  | seq (e : E)
  | rng (es : Es)
  | enum (e : E)
  | zip (a b : E)
end
mutual
inductive S where
  | asg (i : Nat) (e : E)
  | asgT (ts : Tg) (e : E)
  | par (is : List Nat) (es : Es)
  | asgIx (a ix e : E)
  | aug (p : P2) (i : Nat) (e : E)
  | expr (e : E)
  | ret (e : E)
  | ife (c : E) (a b : Ss)
  | whl (c : E) (b : Ss)
  | fr (tg : T) (it : It) (b : Ss)
  | brk
  | cont
  | pass
  | stuck
inductive Ss where
  | nil
  | cons (s : S) (r : Ss)
inductive Tg where
  | nil
  | nm (i : Nat) (r : Tg)
  | sub (a ix : E) (r : Tg)
end

/-! ### plain operations -/
def small62 (k : Int) : Bool := decide (-(2 ^ 62) ≤ k) && decide (k < 2 ^ 62)
def mulOk (i j : Int) : Bool := (decide (i.natAbs.log2 + j.natAbs.log2 < 100000000) || decide (i.natAbs < 18446744073709551616)) || decide (j.natAbs < 18446744073709551616)
def at_ {α : Type} (xs : List α) (i : Int) : Option α := if 0 ≤ i then xs[i.toNat]? else if 0 ≤ i + xs.length then xs[(i + xs.length).toNat]? else none
def shEq (x y : PyData) : Bool := x.canLay0 && y.canLay0 && decide (min x.depth y.depth ≤ 64)
def peq (x y : PyData) : Option Bool := if shEq x y = true then some (PyData.eqv x y) else none
def fit {α : Type} (xs : List α) (r : PyData) : Option PyData := if xs.length ≤ sizeLine then some r else none
def truth : PyData → Option Bool
  | .none => some false
  | .bool b => some b
  | .int i => some (i != 0)
  | .str s => if s.length ≤ sizeLine then some ((s.length : Int) != 0) else none
  | .list xs => some (!xs.isEmpty)
  | .tuple xs => some (!xs.isEmpty)
  | .dict _ => none
def isSame : PyData → PyData → Option Bool
  | .none, .none => some true
  | .none, .bool _ => some false
  | x, .none => some false
  | .bool a, .bool b => some (a == b)
  | .int _, .bool _ => some false
  | .str _, .bool _ => some false
  | .tuple _, .bool _ => some false
  | .list _, .bool _ => some false
  | _, _ => none
def memAny (x : PyData) : List PyData → Option Bool
  | [] => some false
  | y :: ys => match peq y x with
    | some true => some true
    | some false => memAny x ys
    | none => none

def prim2 : P2 → PyData → PyData → Option PyData
  | .add, .int i, .int j => some (.int (i + j))
  | .add, .tuple xs, .tuple ys => fit (xs ++ ys) (.tuple (xs ++ ys))
  | .add, .list xs, .list ys => fit (xs ++ ys) (.list (xs ++ ys))
  | .add, .str a, .str b => if a.length + b.length ≤ sizeLine then some (.str (a ++ b)) else none
  | .sub, .int i, .int j => some (.int (i - j))
  | .mul, .int i, .int j => if mulOk i j = true then some (.int (i * j)) else none
  | .mul, .list xs, .int k => if small62 k = true ∧ xs.length * k.toNat ≤ sizeLine then some (.list (List.replicate k.toNat xs).flatten) else none
  | .mul, .tuple xs, .int k => if small62 k = true ∧ xs.length * k.toNat ≤ sizeLine then some (.tuple (List.replicate k.toNat xs).flatten) else none
  | .fdiv, .int i, .int j => if j ≠ 0 ∧ Builtin.divisionGoesByPylong i j = false then some (.int (i.fdiv j)) else none
  | .mod, .int i, .int j => if j ≠ 0 then some (.int (i.fmod j)) else none
  | .pow, .int i, .int j => if 0 ≤ j ∧ j ≤ 1000000 ∧ i.natAbs < 2 ^ 64 then some (.int (i ^ j.toNat)) else none
  | .eq, x, y => (peq x y).map .bool
  | .ne, x, y => (peq x y).map fun b => .bool !b
  | .lt, .int i, .int j => some (.bool (decide (i < j)))
  | .le, .int i, .int j => some (.bool (decide (i ≤ j)))
  | .gt, .int i, .int j => some (.bool (decide (j < i)))
  | .ge, .int i, .int j => some (.bool (decide (j ≤ i)))
  | .is, x, y => (isSame x y).map .bool
  | .isn, x, y => (isSame x y).map fun b => .bool !b
  | .ix, .list xs, .int i => at_ xs i
  | .ix, .tuple xs, .int i => at_ xs i
  | .ix, .str s, .int i => if s.length ≤ sizeLine then (at_ s.cps.toList i).map fun c => .str ⟨#[c]⟩ else none
  | .inn, x, .list ys => (memAny x ys).map .bool
  | .nin, x, .list ys => (memAny x ys).map fun b => .bool !b
  | _, _, _ => none

def allB : List PyData → Option (List Bool)
  | [] => some []
  | .bool b :: r => (allB r).map (b :: ·)
  | _ => none
def allI : List PyData → Option (List Int)
  | [] => some []
  | .int b :: r => (allI r).map (b :: ·)
  | _ => none
def isTy : Ty → PyData → Option Bool
  | _, .dict _ => none
  | .tuple, .tuple _ => some true
  | .list, .list _ => some true
  | .int, .int _ => some true
  | .int, .bool _ => some true
  | .bool, .bool _ => some true
  | .str, .str _ => some true
  | _, _ => some false
def maxI : List Int → Option Int
  | [] => none
  | x :: xs => some (xs.foldl max x)
def primB : B → List PyData → Option PyData
  | .len, [.list xs] => some (.int xs.length)
  | .len, [.tuple xs] => some (.int xs.length)
  | .len, [.str s] => if s.length ≤ sizeLine then some (.int s.length) else none
  | .abs, [.int i] => some (.int (if i < 0 then -i else i))
  | .int, [.int i] => some (.int i)
  | .int, [.bool b] => some (.int (if b then 1 else 0))
  | .all, [.list xs] => (allB xs).map fun bs => .bool (bs.all id)
  | .any, [.list xs] => (allB xs).map fun bs => .bool (bs.any id)
  | .sum, [.list xs] => (allI xs).map fun ns => .int ns.sum
  | .tuple, [.list xs] => some (.tuple xs)
  | .tuple, [.tuple xs] => some (.tuple xs)
  | .list, [.list xs] => some (.list xs)
  | .list, [.tuple xs] => some (.list xs)
  | .max, [.int i, .int j] => some (.int (if j > i then j else i))
  | .min, [.int i, .int j] => some (.int (if j < i then j else i))
  | .max, [.list xs] => (allI xs).bind fun ns => (maxI ns).map .int
  | .gcd, [.int i, .int j] => some (.int (Nat.gcd i.natAbs j.natAbs : Nat))
  | .isi t, [x] => (isTy t x).map .bool
  | _, _ => none
def cutL {α : Type} (xs : List α) (lo hi : Option Int) : List α :=
  (xs.drop (HT.sIx xs.length 0 lo)).take (HT.sIx xs.length xs.length hi - HT.sIx xs.length 0 lo)
/-- a slice's part: there (k = true) or left out -/
def bnd : Bool → PyData → Option (Option Int)
  | false, .none => some none
  | true, .int i => some (some i)
  | _, _ => none
def primSl (x : PyData) (lo hi : Option Int) : Option PyData := match x with
  | .list xs => some (.list (cutL xs lo hi))
  | .tuple xs => some (.tuple (cutL xs lo hi))
  | _ => none
def primRev : PyData → Option PyData
  | .list xs => some (.list xs.reverse)
  | .tuple xs => some (.tuple xs.reverse)
  | _ => none
def primM : Mt → PyData → List PyData → Option PyData
  | _, _, _ => none

/-! ### values, places -/
def deref (w : W) (M : Mem) : Option PyData := match w with
  | .d x => some x
  | .m i => match M[i]? with
    | some (.lst xs) => some (.list xs)
    | _ => none
  | .r _ => none
/-- where a thing is only looked at -/
def derefR (w : W) (M : Mem) : Option PyData := match w with
  | .r ns => some (.list (ns.map .int))
  | w => deref w M
def derefs : List W → Mem → Option (List PyData)
  | [], _ => some []
  | w :: ws, M => match deref w M, derefs ws M with
    | some x, some xs => some (x :: xs)
    | _, _ => none
def derefsB (b : B) (ws : List W) (M : Mem) : Option (List PyData) := match b, ws with
  | .len, [w] => (derefR w M).map fun x => [x]
  | _, ws => derefs ws M
def plain : List W → Option (List PyData)
  | [] => some []
  | .d x :: ws => (plain ws).map (x :: ·)
  | _ => none
def give (mu : Bool) (x : PyData) (M : Mem) : Option (W × Mem) := match mu, x with
  | false, x => some (.d x, M)
  | true, .list xs => some (.m M.length, M ++ [.lst xs])
  | true, _ => none
def setAll : List Nat → List PyData → Loc → Loc
  | i :: is, x :: xs, ρ => setAll is xs (ρ.set i (some (.d x)))
  | _, _, ρ => ρ
def bindT : T → PyData → Loc → Option Loc
  | .v i, x, ρ => some (ρ.set i (some (.d x)))
  | .tv is, .tuple xs, ρ => if xs.length = is.length then some (setAll is xs ρ) else none
  | .tv _, _, _ => none
def wipeL (ρ : Loc) : List Nat → Loc
  | [] => ρ
  | v :: vs => (wipeL ρ vs).set v none
def irng (lo c : Int) (n : Nat) : List PyData := (List.range n).map fun (i : Nat) => .int (lo + (i : Int) * c)
/-- how many turns a range takes -/
def rngN (lo hi c : Int) : Nat := if 0 < c then ((hi - lo + c - 1) / c).toNat else ((lo - hi + (-c) - 1) / (-c)).toNat
def rngOf : List PyData → Option (List PyData)
  | [.int b] => if small62 b = true then some (irng 0 1 b.toNat) else none
  | [.int a, .int b] => if small62 a = true ∧ small62 b = true then some (irng a 1 (b - a).toNat) else none
  | [.int a, .int b, .int c] => if small62 a = true ∧ small62 b = true ∧ c = -1 then some (irng a (-1) (a - b).toNat) else none
  | _ => none
def items : PyData → Option (List PyData)
  | .list xs => some xs
  | .tuple xs => some xs
  | .str s => some (s.cps.toList.map fun c => .str ⟨#[c]⟩)
  | _ => none
def seqs : PyData → Option (List PyData)
  | .list xs => some xs
  | .tuple xs => some xs
  | _ => none
def pairs : Nat → List PyData → List PyData
  | _, [] => []
  | k, x :: xs => .tuple [.int k, x] :: pairs (k + 1) xs
def zips : List PyData → List PyData → List PyData
  | x :: xs, y :: ys => .tuple [x, y] :: zips xs ys
  | _, _ => []
/-- what a loop walks: items as they are; a list that may change -/
inductive Src where
  | its (xs : List PyData)
  | cur (i : Nat)

inductive Out where
  | nx (ρ : Loc) (M : Mem)
  | ret (w : W) (M : Mem)
  | bk (ρ : Loc) (M : Mem)
  | ct (ρ : Loc) (M : Mem)

def compL (f : PyData → List PyData → Mem → Option (List PyData × Mem)) : List PyData → List PyData → Mem → Option (List PyData × Mem)
  | [], acc, M => some (acc, M)
  | x :: xs, acc, M => match f x acc M with
    | some (acc', M') => compL f xs acc' M'
    | none => none
/-- the same over the list number i, as it stands at each turn -/
def compC (f : PyData → List PyData → Mem → Option (List PyData × Mem)) (i : Nat) : Nat → Nat → List PyData → Mem → Option (List PyData × Mem)
  | 0, _, _, _ => none
  | n + 1, k, acc, M => match M[i]? with
    | some (.lst xs) => match xs[k]? with
      | some x => match f x acc M with
        | some (acc', M') => compC f i n (k + 1) acc' M'
        | none => none
      | none => some (acc, M)
    | _ => none
def forL (f : PyData → Loc → Mem → Option Out) : List PyData → Loc → Mem → Option Out
  | [], ρ, M => some (.nx ρ M)
  | x :: xs, ρ, M => match f x ρ M with
    | some (.nx ρ' M') => forL f xs ρ' M'
    | some (.ct ρ' M') => forL f xs ρ' M'
    | some (.bk ρ' M') => some (.nx ρ' M')
    | some (.ret w M') => some (.ret w M')
    | none => none
def forC (f : PyData → Loc → Mem → Option Out) (i : Nat) : Nat → Nat → Loc → Mem → Option Out
  | 0, _, _, _ => none
  | n + 1, k, ρ, M => match M[i]? with
    | some (.lst xs) => match xs[k]? with
      | some x => match f x ρ M with
        | some (.nx ρ' M') => forC f i n (k + 1) ρ' M'
        | some (.ct ρ' M') => forC f i n (k + 1) ρ' M'
        | some (.bk ρ' M') => some (.nx ρ' M')
        | some (.ret w M') => some (.ret w M')
        | none => none
      | none => some (.nx ρ M)
    | _ => none
def whileL (c : Loc → Mem → Option (Bool × Mem)) (f : Loc → Mem → Option Out) : Nat → Loc → Mem → Option Out
  | 0, _, _ => none
  | n + 1, ρ, M => match c ρ M with
    | some (true, M1) => match f ρ M1 with
      | some (.nx ρ' M') => whileL c f n ρ' M'
      | some (.ct ρ' M') => whileL c f n ρ' M'
      | some (.bk ρ' M') => some (.nx ρ' M')
      | some (.ret w M') => some (.ret w M')
      | none => none
    | some (false, M1) => some (.nx ρ M1)
    | none => none
def testOf (r : Option (W × Mem)) : Option (Bool × Mem) := match r with
  | some (w, M) => match deref w M with
    | some x => match truth x with
      | some b => some (b, M)
      | none => none
    | none => none
  | none => none
def appendM (u : W) (ws : List W) (M : Mem) : Option (W × Mem) := match u, ws with
  | .m i, [.d x] => match M[i]? with
    | some (.lst xs) => if xs.length < sizeLine then some (.d .none, M.set i (.lst (xs ++ [x]))) else none
    | _ => none
  | _, _ => none
def popM (u : W) (ws : List W) (M : Mem) : Option (W × Mem) := match u, ws with
  | .m i, [] => match M[i]? with
    | some (.lst xs) => match xs.getLast? with
      | some x => some (.d x, M.set i (.lst xs.dropLast))
      | none => none
    | _ => none
  | _, _ => none
def extendM (u : W) (ws : List W) (M : Mem) : Option (W × Mem) := match u, ws with
  | .m i, [w] => match M[i]?, deref w M with
    | some (.lst xs), some (.list ys) => if xs.length + ys.length ≤ sizeLine then some (.d .none, M.set i (.lst (xs ++ ys))) else none
    | _, _ => none
  | _, _ => none
def evalM (m : Mt) (u : W) (ws : List W) (M : Mem) : Option (W × Mem) := match m with
  | .append => appendM u ws M
  | .pop => popM u ws M
  | .extend => extendM u ws M
  | m => match deref u M, derefs ws M with
    | some x, some xs => (primM m x xs).map fun y => (.d y, M)
    | _, _ => none

section
variable (cf : Nat → List W → Mem → Option (W × Mem)) (G : List PyData) (wf : Nat)
mutual
def evalE : E → Loc → Mem → Option (W × Mem)
  | .var i, ρ, M => match ρ[i]? with
    | some (some w) => some (w, M)
    | _ => none
  | .lit x, _, M => some (.d x, M)
  | .glb i, _, M => match G[i]? with
    | some x => some (.d x, M)
    | none => none
  | .tup es, ρ, M => match evalEs es ρ M with
    | some (ws, M1) => match plain ws with
      | some xs => if xs.length ≤ sizeLine then some (.d (.tuple xs), M1) else none
      | none => none
    | none => none
  | .lst mu es, ρ, M => match evalEs es ρ M with
    | some (ws, M1) => match plain ws with
      | some xs => if xs.length ≤ sizeLine then give mu (.list xs) M1 else none
      | none => none
    | none => none
  | .op2 mu p a b, ρ, M => match evalE a ρ M with
    | some (u, M1) => match evalE b ρ M1 with
      | some (v, M2) => match (if p = .ix then derefR u M2 else deref u M2), deref v M2 with
        | some x, some y => match prim2 p x y with
          | some z => give mu z M2
          | none => none
        | _, _ => none
      | none => none
    | none => none
  | .neg a, ρ, M => match evalE a ρ M with
    | some (.d (.int i), M1) => some (.d (.int (-i)), M1)
    | _ => none
  | .not a, ρ, M => match testOf (evalE a ρ M) with
    | some (b, M1) => some (.d (.bool !b), M1)
    | none => none
  | .chain p q a b c, ρ, M => match evalE a ρ M with
    | some (u, M1) => match evalE b ρ M1 with
      | some (v, M2) => match deref u M2, deref v M2 with
        | some x, some y => match prim2 p x y with
          | some (.bool true) => match evalE c ρ M2 with
            | some (w, M3) => match deref v M3, deref w M3 with
              | some y', some z => match prim2 q y' z with
                | some (.bool r) => some (.d (.bool r), M3)
                | _ => none
              | _, _ => none
            | none => none
          | some (.bool false) => some (.d (.bool false), M2)
          | _ => none
        | _, _ => none
      | none => none
    | none => none
  | .and es, ρ, M => evalB true es ρ M
  | .or es, ρ, M => evalB false es ρ M
  | .ife c a b, ρ, M => match testOf (evalE c ρ M) with
    | some (true, M1) => evalE a ρ M1
    | some (false, M1) => evalE b ρ M1
    | none => none
  | .slc mu hl hu a lo hi, ρ, M => match evalE a ρ M with
    | some (u, M1) => match evalE lo ρ M1 with
      | some (.d l, M2) => match evalE hi ρ M2 with
        | some (.d h, M3) => match deref u M3, bnd hl l, bnd hu h with
          | some x, some l', some h' => match primSl x l' h' with
            | some z => give mu z M3
            | none => none
          | _, _, _ => none
        | _ => none
      | _ => none
    | none => none
  | .rev mu a, ρ, M => match evalE a ρ M with
    | some (u, M1) => match deref u M1 with
      | some x => match primRev x with
        | some z => give mu z M1
        | none => none
      | none => none
    | none => none
  | .call f es, ρ, M => match evalEs es ρ M with
    | some (ws, M1) => cf f ws M1
    | none => none
  | .blt mu b es, ρ, M => match evalEs es ρ M with
    | some (ws, M1) => match derefsB b ws M1 with
      | some xs => match primB b xs with
        | some z => give mu z M1
        | none => none
      | none => none
    | none => none
  | .meth m a es, ρ, M => match evalE a ρ M with
    | some (u, M1) => match deref u M1 with
      | some _ => match evalEs es ρ M1 with
        | some (ws, M2) => evalM m u ws M2
        | none => none
      | none => none
    | none => none
  | .comp mu own tg it c elt, ρ, M => match evalIt it ρ M with
    | some (src, M1) =>
      let f : PyData → List PyData → Mem → Option (List PyData × Mem) := fun x acc M => match bindT tg x (wipeL ρ own) with
        | some ρ2 => match testOf (evalE c ρ2 M) with
          | some (true, M2) => match evalE elt ρ2 M2 with
            | some (.d y, M3) => if acc.length < sizeLine then some (acc ++ [y], M3) else none
            | _ => none
          | some (false, M2) => some (acc, M2)
          | none => none
        | none => none
      match (match src with | .its xs => compL f xs [] M1 | .cur i => compC f i wf 0 [] M1) with
      | some (ys, M2) => give mu (.list ys) M2
      | none => none
    | none => none
  | .stuck, _, _ => none
def evalEs : Es → Loc → Mem → Option (List W × Mem)
  | .nil, _, M => some ([], M)
  | .cons e es, ρ, M => match evalE e ρ M with
    | some (w, M1) => match evalEs es ρ M1 with
      | some (ws, M2) => some (w :: ws, M2)
      | none => none
    | none => none
/-- and (k = true), or: the last one, or the first that decides -/
def evalB (k : Bool) : Es → Loc → Mem → Option (W × Mem)
  | .nil, _, _ => none
  | .cons e .nil, ρ, M => evalE e ρ M
  | .cons e (.cons e2 es), ρ, M => match evalE e ρ M with
    | some (w, M1) => match testOf (some (w, M1)) with
      | some (b, _) => if b = k then evalB k (.cons e2 es) ρ M1 else some (w, M1)
      | none => none
    | none => none
def evalIt : It → Loc → Mem → Option (Src × Mem)
  | .seq e, ρ, M => match evalE e ρ M with
    | some (.d x, M1) => match items x with
      | some xs => some (.its xs, M1)
      | none => none
    | some (.m i, M1) => match M1[i]? with
      | some (.lst _) => some (.cur i, M1)
      | _ => none
    | some (.r ns, M1) => some (.its (ns.map .int), M1)
    | none => none
  | .rng es, ρ, M => match evalEs es ρ M with
    | some (ws, M1) => match plain ws with
      | some xs => match rngOf xs with
        | some ys => some (.its ys, M1)
        | none => none
      | none => none
    | none => none
  | .enum e, ρ, M => match evalE e ρ M with
    | some (.d x, M1) => match seqs x with
      | some xs => some (.its (pairs 0 xs), M1)
      | none => none
    | _ => none
  | .zip a b, ρ, M => match evalE a ρ M with
    | some (.d x, M1) => match evalE b ρ M1 with
      | some (.d y, M2) => match seqs x, seqs y with
        | some xs, some ys => some (.its (zips xs ys), M2)
        | _, _ => none
      | _ => none
    | _ => none
end
end
end EV

/-! EvB: statements, functions; which text of the machine's a term of ours stands for. -/
namespace EV
open PySem

def setW : List Nat → List W → Loc → Loc
  | i :: is, w :: ws, ρ => setW is ws (ρ.set i (some w))
  | _, _, ρ => ρ
/-- the place that an index names -/
def place (n : Nat) (i : Int) : Option Nat := if 0 ≤ i then (if i.toNat < n then some i.toNat else none) else if 0 ≤ i + n then some (i + n).toNat else none
def augOk : P2 → PyData → PyData → Option PyData
  | .add, .int i, .int j => some (.int (i + j))
  | .sub, .int i, .int j => some (.int (i - j))
  | .mul, .int i, .int j => if mulOk i j = true then some (.int (i * j)) else none
  | .add, .str a, .str b => if a.length + b.length ≤ sizeLine then some (.str (a ++ b)) else none
  | _, _, _ => none
/-- a[ix] = x -/
def store (u : W) (k x : PyData) (M : Mem) : Option Mem := match u, k with
  | .m i, .int j => match M[i]? with
    | some (.lst xs) => match place xs.length j with
      | some p => some (M.set i (.lst (xs.set p x)))
      | none => none
    | _ => none
  | _, _ => none

section
variable (cf : Nat → List W → Mem → Option (W × Mem)) (G : List PyData) (wf : Nat)
def evalTg : Tg → List PyData → Loc → Mem → Option (Loc × Mem)
  | .nil, [], ρ, M => some (ρ, M)
  | .nm i r, x :: xs, ρ, M => evalTg r xs (ρ.set i (some (.d x))) M
  | .sub a ix r, x :: xs, ρ, M => match evalE cf G wf a ρ M with
    | some (u, M1) => match evalE cf G wf ix ρ M1 with
      | some (.d k, M2) => match store u k x M2 with
        | some M3 => evalTg r xs ρ M3
        | none => none
      | _ => none
    | none => none
  | _, _, _, _ => none
mutual
def evalS : S → Loc → Mem → Option Out
  | .asg i e, ρ, M => match evalE cf G wf e ρ M with
    | some (w, M1) => some (.nx (ρ.set i (some w)) M1)
    | none => none
  | .asgT tg e, ρ, M => match evalE cf G wf e ρ M with
    | some (.d (.tuple xs), M1) => match evalTg cf G wf tg xs ρ M1 with
      | some (ρ', M2) => some (.nx ρ' M2)
      | none => none
    | some (.d (.list xs), M1) => match evalTg cf G wf tg xs ρ M1 with
      | some (ρ', M2) => some (.nx ρ' M2)
      | none => none
    | _ => none
  | .par is es, ρ, M => match evalEs cf G wf es ρ M with
    | some (ws, M1) => some (.nx (setW is ws ρ) M1)
    | none => none
  | .asgIx a ix e, ρ, M => match evalE cf G wf e ρ M with
    | some (.d x, M1) => match evalE cf G wf a ρ M1 with
      | some (u, M2) => match evalE cf G wf ix ρ M2 with
        | some (.d k, M3) => match store u k x M3 with
          | some M4 => some (.nx ρ M4)
          | none => none
        | _ => none
      | none => none
    | _ => none
  | .aug p i e, ρ, M => match ρ[i]? with
    | some (some (.d x)) => match evalE cf G wf e ρ M with
      | some (.d y, M1) => match augOk p x y with
        | some z => some (.nx (ρ.set i (some (.d z))) M1)
        | none => none
      | _ => none
    | _ => none
  | .expr e, ρ, M => match evalE cf G wf e ρ M with
    | some (_, M1) => some (.nx ρ M1)
    | none => none
  | .ret e, ρ, M => match evalE cf G wf e ρ M with
    | some (w, M1) => some (.ret w M1)
    | none => none
  | .ife c a b, ρ, M => match testOf (evalE cf G wf c ρ M) with
    | some (true, M1) => evalSs a ρ M1
    | some (false, M1) => evalSs b ρ M1
    | none => none
  | .whl c b, ρ, M => whileL (fun ρ M => testOf (evalE cf G wf c ρ M)) (fun ρ M => evalSs b ρ M) wf ρ M
  | .fr tg it b, ρ, M => match evalIt cf G wf it ρ M with
    | some (src, M1) =>
      let f : PyData → Loc → Mem → Option Out := fun x ρ M => match bindT tg x ρ with
        | some ρ2 => evalSs b ρ2 M
        | none => none
      match src with
      | .its xs => forL f xs ρ M1
      | .cur i => forC f i wf 0 ρ M1
    | none => none
  | .brk, ρ, M => some (.bk ρ M)
  | .cont, ρ, M => some (.ct ρ M)
  | .pass, ρ, M => some (.nx ρ M)
  | .stuck, _, _ => none
def evalSs : Ss → Loc → Mem → Option Out
  | .nil, ρ, M => some (.nx ρ M)
  | .cons s r, ρ, M => match evalS s ρ M with
    | some (.nx ρ' M') => evalSs r ρ' M'
    | o => o
end
end

structure Fn where
  ar : Nat
  sl : Nat
  body : Ss
/-- what a call hands back: what was made within is let go -/
def finish (n : Nat) : W → Mem → Option (W × Mem)
  | .d x, M => some (.d x, M.take n)
  | .m i, M => if i < n then some (.m i, M.take n) else match M[i]? with
    | some (.lst xs) => some (.d (.list xs), M.take n)
    | _ => none
  | .r ns, M => some (.r ns, M.take n)
def callF (fs : List Fn) (G : List PyData) (wf : Nat) : Nat → Nat → List W → Mem → Option (W × Mem)
  | 0, _, _, _ => none
  | k + 1, f, ws, M => match fs[f]? with
    | some fn => if ws.length = fn.ar then match evalSs (callF fs G wf k) G wf fn.body (ws.map some ++ List.replicate (fn.sl - fn.ar) none) M with
        | some (.ret w M') => finish M.length w M'
        | some (.nx _ M') => finish M.length (.d .none) M'
        | _ => none
      else none
    | none => none

/-! ### the text -/
def isVis (sc : Scope) (x : Str) : Bool := match sc.names.lookup x with
  | some .local => true
  | some .cell => true
  | some .free => true
  | _ => false
def isLoc (sc : Scope) (x : Str) : Bool := match sc.names.lookup x with
  | some .local => true
  | some .cell => true
  | _ => false
def isGl (sc : Scope) (x : Str) : Bool := match sc.names.lookup x with
  | some .globalImplicit => !(x == ("__debug__" : Str))
  | _ => false
def litOk : PyData → Const → Bool
  | .none, .none => true
  | .bool a, .bool b => a == b
  | .int i, .int j => decide (i = j)
  | .str x, .str y => decide (x = y)
  | _, _ => false
def binOk : P2 → Operator → Bool
  | .add, .Add => true
  | .sub, .Sub => true
  | .mul, .Mult => true
  | .fdiv, .FloorDiv => true
  | .mod, .Mod => true
  | .pow, .Pow => true
  | _, _ => false
def cmpOk : P2 → CmpOp → Bool
  | .eq, .Eq => true
  | .ne, .NotEq => true
  | .lt, .Lt => true
  | .le, .LtE => true
  | .gt, .Gt => true
  | .ge, .GtE => true
  | .is, .Is => true
  | .isn, .IsNot => true
  | _, _ => false
def ordOk : P2 → Bool
  | .lt => true
  | .le => true
  | .gt => true
  | .ge => true
  | .eq => true
  | .ne => true
  | _ => false
def tyName : Ty → Str
  | .tuple => "tuple"
  | .list => "list"
  | .int => "int"
  | .str => "str"
  | .bool => "bool"
def bName : B → Str
  | .len => "len"
  | .abs => "abs"
  | .int => "int"
  | .all => "all"
  | .any => "any"
  | .sum => "sum"
  | .tuple => "tuple"
  | .list => "list"
  | .max => "max"
  | .min => "min"
  | .gcd => "gcd"
  | .lcm => "lcm"
  | .sorted => "sorted"
  | .str => "str"
  | .isi _ => "isinstance"
def mName : Mt → Str
  | .append => "append"
  | .extend => "extend"
  | .pop => "pop"
  | .join => "join"
  | .isdigit => "isdigit"
  | .isascii => "isascii"
  | .partition => "partition"
  | .split => "split"
  | .index => "index"
/-- an expression of a plain kind: no star, no slice, no set -/
def tame : Expr → Bool
  | .BoolOp .. => true
  | .BinOp .. => true
  | .UnaryOp .. => true
  | .IfExp .. => true
  | .ListComp .. => true
  | .Compare .. => true
  | .Call .. => true
  | .Constant .. => true
  | .Subscript .. => true
  | .Name .. => true
  | .List .. => true
  | .Tuple .. => true
  | _ => false
def mOk : Mt → List Expr → Bool
  | .append, [_] => true
  | .extend, [_] => true
  | .pop, [] => true
  | _, _ => false
/-- what a method may be called of -/
def bare : Expr → Bool
  | .Name .. => true
  | .Constant .. => true
  | .Subscript .. => true
  | _ => false
def ownOf (N : List Str) : List Nat → Option (List (Str × Nat))
  | [] => some []
  | i :: is => match N[i]?, ownOf N is with
    | some x, some r => some ((x, i) :: r)
    | _, _ => none
def okNms (N : List Str) (sc : Scope) : List Nat → List Expr → Bool
  | [], [] => true
  | i :: is, .Name x _ :: es => decide (N[i]? = some x) && isLoc sc x && okNms N sc is es
  | _, _ => false
def okT (N : List Str) (sc : Scope) : T → Expr → Bool
  | .v i, .Name x _ => decide (N[i]? = some x) && isLoc sc x
  | .tv is, .Tuple es _ _ => okNms N sc is es
  | _, _ => false
/-- pairs go to a tuple of names -/
def itT : It → T → Bool
  | .enum _, .v _ => false
  | .zip _ _, .v _ => false
  | _, _ => true
def dunder (x : Str) : Bool := x == ("__debug__" : Str) || x == ("__classdict__" : Str)

section
variable (fs : List Str) (gs : List Str) (im : List B) (N : List Str)
/-- which built-in functions may be called: those of math where they are brought in -/
def bGood : B → Bool
  | .gcd => im.contains .gcd
  | .lcm => im.contains .lcm
  | .sorted => false
  | .str => false
  | _ => true
def tSub : T → List Nat → Bool
  | .v i, own => own.contains i
  | .tv is, own => is.all own.contains
mutual
def okE : Scope → E → Expr → Bool
  | sc, .var i, pe => match pe with
    | .Name x _ => decide (N[i]? = some x) && isVis sc x && !dunder x
    | _ => false
  | _, .lit x, pe => match pe with
    | .Constant c _ _ => litOk x c
    | _ => false
  | sc, .glb i, pe => match pe with
    | .Name x _ => decide (gs[i]? = some x) && isGl sc x
    | _ => false
  | sc, .tup es, pe => match pe with
    | .Tuple pes _ _ => okEs sc es pes
    | _ => false
  | sc, .lst _ es, pe => match pe with
    | .List pes _ => okEs sc es pes
    | _ => false
  | sc, .op2 mu p a b, pe => match pe with
    | .BinOp pa o pb _ => binOk p o && okE sc a pa && okE sc b pb
    | .Compare pa [o] [pb] _ => !mu && cmpOk p o && okE sc a pa && okE sc b pb && tame pb
    | .Subscript pa pb _ => !mu && decide (p = .ix) && okE sc a pa && okE sc b pb && tame pb
    | _ => false
  | sc, .neg a, pe => match pe with
    | .UnaryOp .USub pa _ => okE sc a pa
    | _ => false
  | sc, .not a, pe => match pe with
    | .UnaryOp .Not pa _ => okE sc a pa
    | _ => false
  | sc, .chain p q a b c, pe => match pe with
    | .Compare pa [o, o'] [pb, pc] _ => cmpOk p o && cmpOk q o' && ordOk p && ordOk q && okE sc a pa && okE sc b pb && okE sc c pc && tame pc
    | _ => false
  | sc, .and es, pe => match pe with
    | .BoolOp .And pes _ => okEs sc es pes && !pes.isEmpty
    | _ => false
  | sc, .or es, pe => match pe with
    | .BoolOp .Or pes _ => okEs sc es pes && !pes.isEmpty
    | _ => false
  | sc, .ife c a b, pe => match pe with
    | .IfExp pc pa pb _ => okE sc c pc && okE sc a pa && okE sc b pb
    | _ => false
  | sc, .slc _ hl hu a lo hi, pe => match pe with
    | .Subscript pa (.Slice pl ph none _) _ => okE sc a pa && (match pl with
        | some pl => hl && okE sc lo pl
        | none => !hl && (match lo with
          | .lit .none => true
          | _ => false)) && (match ph with
        | some ph => hu && okE sc hi ph
        | none => !hu && (match hi with
          | .lit .none => true
          | _ => false))
    | _ => false
  | sc, .rev _ a, pe => match pe with
    | .Subscript pa (.Slice none none (some (.UnaryOp .USub (.Constant (.int 1) _ _) _)) _) _ => okE sc a pa
    | _ => false
  | sc, .call f es, pe => match pe with
    | .Call (.Name x _) pes [] _ => decide (fs[f]? = some x) && isGl sc x && okEs sc es pes
    | _ => false
  | sc, .blt _ b es, pe => match pe with
    | .Call (.Name x _) pes [] _ => decide (x = bName b) && isGl sc x && bGood im b && !pes.isEmpty && (match b with
      | .isi t => match pes with
        | [pa, .Name y _] => decide (y = tyName t) && isGl sc y && okEs sc es [pa]
        | _ => false
      | _ => okEs sc es pes)
    | _ => false
  | sc, .meth m a es, pe => match pe with
    | .Call (.Attribute pa x apos) pes [] cpos => decide (x = mName m) && okE sc a pa && okEs sc es pes && (apos.endLine == cpos.line) && bare pa && mOk m pes
    | _ => false
  | sc, .comp _ own tg it c elt, pe => match pe with
    | .ListComp pelt [⟨ptg, pit, pifs, 0⟩] cs _ => itT it tg && tSub tg own && okIt sc it pit && (match ownOf N own with
      | some o => L2.blkC N sc cs o
      | none => false) && okT N cs tg ptg && okE cs elt pelt && (match pifs with
      | [] => match c with
        | .lit (.bool true) => true
        | _ => false
      | [pc] => okE cs c pc
      | _ => false)
    | _ => false
  | _, .stuck, _ => true
def okEs : Scope → Es → List Expr → Bool
  | _, .nil, pes => match pes with
    | [] => true
    | _ => false
  | sc, .cons e es, pes => match pes with
    | pe :: pr => okE sc e pe && tame pe && okEs sc es pr
    | _ => false
def okIt : Scope → It → Expr → Bool
  | sc, .seq e, pe => okE sc e pe && tame pe
  | sc, .rng es, pe => match pe with
    | .Call (.Name x _) pes [] _ => decide (x = ("range" : Str)) && isGl sc x && okEs sc es pes && (pes.length == 1 || pes.length == 2 || pes.length == 3)
    | _ => false
  | sc, .enum e, pe => match pe with
    | .Call (.Name x _) [pa] [] _ => decide (x = ("enumerate" : Str)) && isGl sc x && okE sc e pa && tame pa
    | _ => false
  | sc, .zip a b, pe => match pe with
    | .Call (.Name x _) [pa, pb] [] _ => decide (x = ("zip" : Str)) && isGl sc x && okE sc a pa && tame pa && okE sc b pb && tame pb
    | _ => false
end

def isLocal (sc : Scope) (x : Str) : Bool := match sc.names.lookup x with
  | some .local => true
  | _ => false
def parNms (sc : Scope) (line : Nat) : List Nat → List Expr → Bool
  | [], [] => true
  | i :: is, .Name x p :: es => decide (N[i]? = some x) && isLocal sc x && (p.line == line) && !(is.contains i) && parNms sc line is es
  | _, _ => false
/-- several targets, a tuple: whether the stores go in the written order -/
def inOrder (sc : Scope) (pts : List Expr) (pv : Expr) : Bool := match pv with
  | .Tuple vs _ _ => !(pts.length == 2 || pts.length == 3) || vs.all (foldedForSure 8) || !(pts.all fun t => match t with
    | .Name x p => isLocal sc x
    | _ => false)
  | _ => true
mutual
def okTg : Scope → Tg → List Expr → Bool
  | _, .nil, pes => match pes with
    | [] => true
    | _ => false
  | sc, .nm i r, pes => match pes with
    | .Name x _ :: ps => decide (N[i]? = some x) && isLoc sc x && okTg sc r ps
    | _ => false
  | sc, .sub a ix r, pes => match pes with
    | .Subscript pa pi _ :: ps => okE fs gs im N sc a pa && okE fs gs im N sc ix pi && tame pa && tame pi && okTg sc r ps
    | _ => false
end
mutual
def okS : Scope → S → Stmt → Bool
  | sc, .asg i e, st => match st with
    | .Assign [.Name x _] pv _ => decide (N[i]? = some x) && isLoc sc x && okE fs gs im N sc e pv && tame pv
    | _ => false
  | sc, .asgT tg e, st => match st with
    | .Assign [.Tuple pts _ _] pv _ => okTg fs gs im N sc tg pts && okE fs gs im N sc e pv && tame pv && inOrder sc pts pv
    | _ => false
  | sc, .par is es, st => match st with
    | .Assign [.Tuple pts _ _] (.Tuple pvs _ _) _ => okEs fs gs im N sc es pvs && (pvs.length == pts.length) && (pts.length == 2 || pts.length == 3) && (match pts with
      | .Name _ p :: _ => parNms N sc p.line is pts
      | _ => false) && !pvs.all (foldedForSure 8) && !pvs.all (constantsAlone 8)
    | _ => false
  | sc, .asgIx a ix e, st => match st with
    | .Assign [.Subscript pa pi _] pv _ => okE fs gs im N sc a pa && okE fs gs im N sc ix pi && okE fs gs im N sc e pv && tame pa && tame pi && tame pv
    | _ => false
  | sc, .aug p i e, st => match st with
    | .AugAssign (.Name x _) o pv _ => decide (N[i]? = some x) && isLoc sc x && okE fs gs im N sc e pv && binOk p o
    | _ => false
  | sc, .expr e, st => match st with
    | .Expr pe _ => okE fs gs im N sc e pe && (match pe with
      | .Call .. => true
      | _ => false)
    | _ => false
  | sc, .ret e, st => match st with
    | .Return (some pe) _ => okE fs gs im N sc e pe
    | _ => false
  | sc, .ife c a b, st => match st with
    | .If pc pa pb _ => okE fs gs im N sc c pc && okSs sc a pa && okSs sc b pb
    | _ => false
  | sc, .whl c b, st => match st with
    | .While pc pb [] _ => okE fs gs im N sc c pc && okSs sc b pb
    | _ => false
  | sc, .fr tg it b, st => match st with
    | .For pt pi pb [] _ => itT it tg && okIt fs gs im N sc it pi && okT N sc tg pt && okSs sc b pb
    | _ => false
  | _, .brk, st => match st with
    | .Break _ => true
    | _ => false
  | _, .cont, st => match st with
    | .Continue _ => true
    | _ => false
  | _, .pass, st => match st with
    | .Pass _ => true
    | _ => false
  | _, .stuck, _ => true
def okSs : Scope → Ss → List Stmt → Bool
  | _, .nil, ps => match ps with
    | [] => true
    | _ => false
  | sc, .cons s r, ps => match ps with
    | p :: pr => okS sc s p && okSs sc r pr
    | _ => false
end
end
end EV

/-! EvC: how our data lie in the machine's heap. -/
namespace EV
open PySem PySem.Spec PyProof.Rows L2

mutual
/-- the data x lies at v: its lists and tuples stand in F -/
inductive Dq (K : PySem.W.Frag) (F : Hp) : V → PyData → Prop
  | non : Dq K F .non .none
  | bl (b : Bool) : Dq K F (.bl b) (.bool b)
  | int (i : Int) : Dq K F (.int i) (.int i)
  | str (x : Str) : Dq K F (.str x) (.str x)
  | lst {a : Addr} {vs : List V} {ds : List PyData} : F a = some (.lst vs) → Dqs K F vs ds → Dq K F (.ref a) (.list ds)
  | tup {a : Addr} {vs : List V} {ds : List PyData} : SqT K F a vs → Dqs K F vs ds → Dq K F (.ref a) (.tuple ds)
inductive Dqs (K : PySem.W.Frag) (F : Hp) : List V → List PyData → Prop
  | nil : Dqs K F [] []
  | cons {v : V} {vs : List V} {d : PyData} {ds : List PyData} : Dq K F v d → Dqs K F vs ds → Dqs K F (v :: vs) (d :: ds)
end
/-- what stands in the one stands in the other -/
def Sub (F H : Hp) : Prop := ∀ a o, F a = some o → H a = some o
theorem Sub.refl (F : Hp) : Sub F F := fun _ _ h => h
theorem Sub.trans {F G H : Hp} (a : Sub F G) (b : Sub G H) : Sub F H := fun x o h => b x o (a x o h)
theorem Sub.upd {F H : Hp} (s : Sub F H) {p : Addr} {o : HO} : Sub (upd F p o) (upd H p o) := fun a u h => by
  by_cases e : a = p
  · subst e; rw [upd_same] at h ⊢; exact h
  · rw [upd_ne e] at h ⊢; exact s a u h
theorem Sub.new {F : Hp} {p : Addr} {o : HO} (n : F p = none) : Sub F (L2.upd F p o) := fun a u h => by
  rw [upd_ne (ne_of_none h n)]; exact h
theorem Sub.none {F H : Hp} (s : Sub F H) {p : Addr} (n : H p = none) : F p = none := by
  cases e : F p with
  | none => rfl
  | some o => rw [s _ _ e] at n; cases n
theorem sqT_mono {K : PySem.W.Frag} {F H : Hp} (s : Sub F H) {a : Addr} {vs : List V} (h : SqT K F a vs) : SqT K H a vs := by
  rcases h with (h | ⟨o, h⟩) | h
  · exact .inl (.inl (s _ _ h))
  · exact .inl (.inr ⟨o, s _ _ h⟩)
  · exact .inr h
theorem sqL_mono {K : PySem.W.Frag} {F H : Hp} (s : Sub F H) {a : Addr} {vs : List V} (h : SqL K F a vs) : SqL K H a vs := by
  rcases h with (h | ⟨o, h⟩) | h
  · exact .inl (.inl (s _ _ h))
  · exact .inl (.inr ⟨o, s _ _ h⟩)
  · exact .inr h
section
variable {K : PySem.W.Frag} {F H : Hp}
mutual
theorem Dq.mono (s : Sub F H) : ∀ {v : V} (d : PyData), Dq K F v d → Dq K H v d
  | _, .none, .non => .non
  | _, .bool _, .bl b => .bl b
  | _, .int _, .int i => .int i
  | _, .str _, .str x => .str x
  | _, .list ds, .lst h q => .lst (s _ _ h) (Dqs.mono s ds q)
  | _, .tuple ds, .tup h q => .tup (sqT_mono s h) (Dqs.mono s ds q)
theorem Dqs.mono (s : Sub F H) : ∀ {vs : List V} (ds : List PyData), Dqs K F vs ds → Dqs K H vs ds
  | _, [], .nil => .nil
  | _, d :: ds, .cons h q => .cons (Dq.mono s d h) (Dqs.mono s ds q)
end
mutual
theorem Dq.dp : ∀ {v : V} (d : PyData), Dq K F v d → Dp K F v d
  | _, .none, .non => .non
  | _, .bool _, .bl b => .bl b
  | _, .int _, .int i => .int i
  | _, .str _, .str x => .str x
  | _, .list ds, .lst h q => .lst (SqL.of h) (Dqs.dp ds q)
  | _, .tuple ds, .tup h q => .tup h (Dqs.dp ds q)
theorem Dqs.dp : ∀ {vs : List V} (ds : List PyData), Dqs K F vs ds → DpAll K F vs ds
  | _, [], .nil => .nil
  | _, d :: ds, .cons h q => .cons (Dq.dp d h) (Dqs.dp ds q)
end
theorem Dqs.length : ∀ {vs : List V} {ds : List PyData}, Dqs K F vs ds → vs.length = ds.length
  | _, [], .nil => rfl
  | _, _ :: _, .cons _ q => congrArg (· + 1) q.length
theorem Dqs.app : ∀ {vs : List V} {ds : List PyData} {ws : List V} {es : List PyData}, Dqs K F vs ds → Dqs K F ws es → Dqs K F (vs ++ ws) (ds ++ es)
  | _, [], _, _, .nil, b => b
  | _, _ :: _, _, _, .cons h q, b => .cons h (Dqs.app q b)
theorem Dqs.drop : ∀ (n : Nat) {vs : List V} {ds : List PyData}, Dqs K F vs ds → Dqs K F (vs.drop n) (ds.drop n)
  | 0, _, _, h => h
  | _ + 1, _, [], .nil => .nil
  | n + 1, _, _ :: _, .cons _ q => Dqs.drop n q
theorem Dqs.take : ∀ (n : Nat) {vs : List V} {ds : List PyData}, Dqs K F vs ds → Dqs K F (vs.take n) (ds.take n)
  | 0, _, _, _ => .nil
  | _ + 1, _, [], .nil => .nil
  | n + 1, _, _ :: _, .cons h q => .cons h (Dqs.take n q)
theorem Dqs.rev : ∀ {vs : List V} {ds : List PyData}, Dqs K F vs ds → Dqs K F vs.reverse ds.reverse
  | _, [], .nil => .nil
  | _, _ :: _, .cons h q => by rw [List.reverse_cons, List.reverse_cons]; exact q.rev.app (.cons h .nil)
theorem Dqs.get : ∀ {vs : List V} {ds : List PyData} {i : Nat} {d : PyData}, Dqs K F vs ds → ds[i]? = some d → ∃ v, vs[i]? = some v ∧ Dq K F v d
  | _, [], _, _, .nil, e => by simp at e
  | _, _ :: _, 0, _, .cons h _, e => by simp at e; subst e; exact ⟨_, rfl, h⟩
  | _, _ :: _, i + 1, d, .cons _ q, e => by
    obtain ⟨v, h1, h2⟩ := Dqs.get (i := i) (d := d) q (by simpa using e)
    exact ⟨v, by simpa using h1, h2⟩
theorem Dqs.get' : ∀ {vs : List V} {ds : List PyData} {i : Nat} {v : V}, Dqs K F vs ds → vs[i]? = some v → ∃ d, ds[i]? = some d ∧ Dq K F v d
  | _, [], _, _, .nil, e => by simp at e
  | _, _ :: _, 0, _, .cons h _, e => by simp at e; subst e; exact ⟨_, rfl, h⟩
  | _, _ :: _, i + 1, v, .cons _ q, e => by
    obtain ⟨d, h1, h2⟩ := Dqs.get' (i := i) (v := v) q (by simpa using e)
    exact ⟨d, by simpa using h1, h2⟩
theorem Dqs.set {v : V} {d : PyData} (h : Dq K F v d) : ∀ (i : Nat) {vs : List V} {ds : List PyData}, Dqs K F vs ds → Dqs K F (vs.set i v) (ds.set i d)
  | _, _, [], .nil => .nil
  | 0, _, _ :: _, .cons _ q => .cons h q
  | i + 1, _, _ :: _, .cons g q => .cons g (Dqs.set h i q)
theorem Dqs.rep : ∀ (n : Nat) {vs : List V} {ds : List PyData}, Dqs K F vs ds → Dqs K F (List.replicate n vs).flatten (List.replicate n ds).flatten
  | 0, _, _, _ => .nil
  | n + 1, _, _, h => by rw [List.replicate_succ, List.replicate_succ, List.flatten_cons, List.flatten_cons]; exact h.app (Dqs.rep n h)
theorem Dqs.dropLast {vs : List V} {ds : List PyData} (h : Dqs K F vs ds) : Dqs K F vs.dropLast ds.dropLast := by
  rw [List.dropLast_eq_take, List.dropLast_eq_take, h.length]; exact h.take _
theorem Dqs.ofInts : ∀ {ns : List Int} {vs : List V} {ds : List PyData}, Dqs K F vs ds → allI ds = some ns → vs = ns.map V.int
  | ns, _, [], .nil, e => by cases e; rfl
  | ns, _, d :: ds, .cons h q, e => by
    cases d with
    | int i =>
      cases h
      simp only [allI, Option.map_eq_some_iff] at e
      obtain ⟨r, e1, rfl⟩ := e
      rw [q.ofInts e1]; rfl
    | _ => cases e
theorem Dqs.ofBools : ∀ {ns : List Bool} {vs : List V} {ds : List PyData}, Dqs K F vs ds → allB ds = some ns → vs = ns.map V.bl
  | ns, _, [], .nil, e => by cases e; rfl
  | ns, _, d :: ds, .cons h q, e => by
    cases d with
    | bool i =>
      cases h
      simp only [allB, Option.map_eq_some_iff] at e
      obtain ⟨r, e1, rfl⟩ := e
      rw [q.ofBools e1]; rfl
    | _ => cases e
end

/-- a value of ours at a value of the machine's -/
def ValR (K : PySem.W.Frag) (F : Hp) (μ : List Addr) : W → V → Prop
  | .d x, v => Dq K F v x
  | .m i, v => ∃ a, μ[i]? = some a ∧ v = .ref a
  | .r ns, v => ∃ a, v = .ref a ∧ SqL K F a (ns.map V.int)
structure Rel (K : PySem.W.Frag) (H F : Hp) (μ : List Addr) (M : Mem) : Prop where
  sub : Sub F H
  len : μ.length = M.length
  nd : μ.Nodup
  al : ∀ a ∈ μ, ∃ o, H a = some o
  lst : ∀ (i : Nat) (xs : List PyData), M[i]? = some (MO.lst xs) → ∃ a vs, μ[i]? = some a ∧ F a = none ∧ H a = some (.lst vs) ∧ Dqs K F vs xs
structure Ext (H F : Hp) (μ : List Addr) (H' F' : Hp) (μ' : List Addr) : Prop where
  fr : Sub F F'
  mu : ∃ ν, μ' = μ ++ ν ∧ ∀ a ∈ ν, H a = none
  kp : ∀ a o, H a = some o → a ∉ μ → H' a = some o
  nf : ∀ a o, F' a = some o → F a = some o ∨ H a = none ∨ a ∈ μ
def LocR (K : PySem.W.Frag) (F : Hp) (μ : List Addr) (ρ : Loc) (σ : L2.St) : Prop :=
  ρ.length = σ.length ∧ ∀ (i : Nat) w, ρ[i]? = some (some w) → ∃ v, σ[i]? = some (some v) ∧ ValR K F μ w v

section
variable {K : PySem.W.Frag} {H F H1 F1 H2 F2 : Hp} {μ μ1 μ2 : List Addr} {M M1 : Mem}
theorem Ext.refl : Ext H F μ H F μ := ⟨Sub.refl _, ⟨[], by simp, by simp⟩, fun _ _ h _ => h, fun _ _ h => .inl h⟩
theorem Ext.trans (e1 : Ext H F μ H1 F1 μ1) (e2 : Ext H1 F1 μ1 H2 F2 μ2) (nd : μ2.Nodup) : Ext H F μ H2 F2 μ2 := by
  obtain ⟨f1, ⟨ν1, rfl, n1⟩, k1, g1⟩ := e1
  obtain ⟨f2, ⟨ν2, rfl, n2⟩, k2, g2⟩ := e2
  have back : ∀ a, H1 a = none → H a = none ∨ a ∈ μ := fun a h => by
    by_cases hm : a ∈ μ
    · exact .inr hm
    · cases e : H a with
      | none => exact .inl rfl
      | some o => rw [k1 a o e hm] at h; cases h
  refine ⟨f1.trans f2, ⟨ν1 ++ ν2, by rw [List.append_assoc], fun a ha => ?_⟩, fun a o h hn => ?_, fun a o h => ?_⟩
  · rcases List.mem_append.mp ha with ha | ha
    · exact n1 a ha
    · cases e : H a with
      | none => rfl
      | some o =>
        have : a ∉ μ := fun hm => by
          rw [List.append_assoc] at nd
          have := (List.nodup_append.mp nd).2.2 a hm a (List.mem_append_right _ ha)
          exact this rfl
        have q := k1 a o e this
        rw [n2 a ha] at q; cases q
  · refine k2 a o (k1 a o h hn) fun hm => ?_
    rcases List.mem_append.mp hm with hm | hm
    · exact hn hm
    · rw [n1 a hm] at h; cases h
  · rcases g2 a o h with h | h | h
    · exact g1 a o h
    · exact .inr (back a h)
    · rcases List.mem_append.mp h with h | h
      · exact .inr (.inr h)
      · exact .inr (.inl (n1 a h))
theorem Ext.get (e : Ext H F μ H1 F1 μ1) {i : Nat} {a : Addr} (h : μ[i]? = some a) : μ1[i]? = some a := by
  obtain ⟨_, ⟨ν, rfl, _⟩, _, _⟩ := e
  rw [List.getElem?_append_left (List.getElem?_eq_some_iff.mp h).1]; exact h
theorem ValR.mono (e : Ext H F μ H1 F1 μ1) : ∀ {w : W} {v : V}, ValR K F μ w v → ValR K F1 μ1 w v
  | .d x, _, h => Dq.mono e.fr x h
  | .m _, _, ⟨a, h, q⟩ => ⟨a, e.get h, q⟩
  | .r _, _, ⟨a, h, q⟩ => ⟨a, h, sqL_mono e.fr q⟩
theorem LocR.mono (e : Ext H F μ H1 F1 μ1) {ρ : Loc} {σ : L2.St} (h : LocR K F μ ρ σ) : LocR K F1 μ1 ρ σ :=
  ⟨h.1, fun i w q => let ⟨v, a, b⟩ := h.2 i w q; ⟨v, a, b.mono e⟩⟩
theorem LocR.set {ρ : Loc} {σ : L2.St} (h : LocR K F μ ρ σ) (i : Nat) {w : W} {v : V} (hv : ValR K F μ w v) : LocR K F μ (ρ.set i (some w)) (σ.set i (some v)) := by
  refine ⟨by rw [List.length_set, List.length_set]; exact h.1, fun j u q => ?_⟩
  by_cases e : i = j
  · subst e
    have hl : i < ρ.length := by
      have := (List.getElem?_eq_some_iff.mp q).1
      simpa using this
    rw [List.getElem?_set_self hl] at q
    cases q
    exact ⟨v, List.getElem?_set_self (by rw [← h.1]; exact hl), hv⟩
  · rw [List.getElem?_set_ne e] at q ⊢
    exact h.2 j u q
theorem LocR.wipe {ρ : Loc} {σ : L2.St} (h : LocR K F μ ρ σ) : ∀ vs : List Nat, LocR K F μ (wipeL ρ vs) (wipe σ vs)
  | [] => h
  | v :: vs => by
    have q := h.wipe vs
    refine ⟨by show ((wipeL ρ vs).set v none).length = ((L2.wipe σ vs).set v none).length; rw [List.length_set, List.length_set]; exact q.1, fun j u e => ?_⟩
    have e : ((wipeL ρ vs).set v none)[j]? = some (some u) := e
    show ∃ x, ((L2.wipe σ vs).set v none)[j]? = some (some x) ∧ _
    by_cases hj : v = j
    · subst hj
      by_cases hl : v < (wipeL ρ vs).length
      · rw [List.getElem?_set_self hl] at e; cases e
      · rw [List.getElem?_eq_none (by simpa using hl)] at e; cases e
    · rw [List.getElem?_set_ne hj] at e ⊢
      exact q.2 j u e
/-- the heap grows at a new place -/
theorem Ext.new {p : Addr} {o : HO} (n : H p = none) (s : Sub F H) : Ext H F μ (upd H p o) (upd F p o) μ :=
  ⟨Sub.new (s.none n), ⟨[], by simp, by simp⟩, fun a u h _ => by rw [upd_ne (ne_of_none h n)]; exact h, fun a u h => by
    by_cases e : a = p
    · subst e; exact .inr (.inl n)
    · rw [upd_ne e] at h; exact .inl h⟩
/-- an object that is none of ours comes, or changes -/
theorem Ext.side {p : Addr} {o : HO} (n : H p = none) : Ext H F μ (upd H p o) F μ :=
  ⟨Sub.refl _, ⟨[], by simp, by simp⟩, fun a u h _ => by rw [upd_ne (ne_of_none h n)]; exact h, fun _ _ h => .inl h⟩
theorem Ext.out (e : Ext H F μ H1 F1 μ1) {p : Addr} {o : HO} (h : H p = some o) (hm : p ∉ μ) (hf : F p = none) : H1 p = some o ∧ p ∉ μ1 ∧ F1 p = none := by
  obtain ⟨f1, ⟨ν1, rfl, n1⟩, k1, g1⟩ := e
  refine ⟨k1 p o h hm, fun q => ?_, ?_⟩
  · rcases List.mem_append.mp q with q | q
    · exact hm q
    · rw [n1 p q] at h; cases h
  · cases e : F1 p with
    | none => rfl
    | some u =>
      rcases g1 p u e with q | q | q
      · rw [hf] at q; cases q
      · rw [h] at q; cases q
      · exact absurd q hm
theorem Rel.side {p : Addr} {o : HO} (r : Rel K H F μ M) (hm : p ∉ μ) (hf : F p = none) : Rel K (upd H p o) F μ M := by
  refine ⟨fun a u h => ?_, r.len, r.nd, fun a ha => ?_, fun i xs h => ?_⟩
  · rw [upd_ne (fun e : a = p => by subst e; rw [hf] at h; cases h)]; exact r.sub a u h
  · obtain ⟨u, hu⟩ := r.al a ha
    exact ⟨u, by rw [upd_ne (fun e : a = p => hm (e ▸ ha))]; exact hu⟩
  · obtain ⟨a, vs, e1, e2, e3, e4⟩ := r.lst i xs h
    exact ⟨a, vs, e1, e2, by rw [upd_ne (fun e : a = p => hm (e ▸ List.mem_of_getElem? e1))]; exact e3, e4⟩
/-- a thing at the side becomes one of ours that stands -/
theorem Rel.take {p : Addr} {o : HO} (r : Rel K H F μ M) (h : H p = some o) (hm : p ∉ μ) (hf : F p = none) : Rel K H (upd F p o) μ M := by
  refine ⟨fun a u q => ?_, r.len, r.nd, r.al, fun i xs q => ?_⟩
  · by_cases e : a = p
    · subst e; rw [upd_same] at q; cases q; exact h
    · rw [upd_ne e] at q; exact r.sub a u q
  · obtain ⟨a, vs, e1, e2, e3, e4⟩ := r.lst i xs q
    have hn : a ≠ p := fun e => hm (e ▸ List.mem_of_getElem? e1)
    exact ⟨a, vs, e1, by rw [upd_ne hn]; exact e2, e3, e4.mono (Sub.new hf)⟩
/-- .. becomes a list of ours that may change -/
theorem Rel.own {p : Addr} {vs : List V} {xs : List PyData} (r : Rel K H F μ M) (h : H p = some (.lst vs)) (hm : p ∉ μ) (hf : F p = none) (d : Dqs K F vs xs) : Rel K H F (μ ++ [p]) (M ++ [MO.lst xs]) := by
  refine ⟨r.sub, by simp [r.len], ?_, fun a ha => ?_, fun i ys e => ?_⟩
  · rw [List.nodup_append]
    exact ⟨r.nd, by simp, fun a ha b hb => by simp at hb; subst hb; exact fun q => hm (q ▸ ha)⟩
  · rcases List.mem_append.mp ha with ha | ha
    · exact r.al a ha
    · simp at ha; subst ha; exact ⟨_, h⟩
  · by_cases hi : i < M.length
    · rw [List.getElem?_append_left hi] at e
      obtain ⟨a, ws, e1, e2, e3, e4⟩ := r.lst i ys e
      exact ⟨a, ws, by rw [List.getElem?_append_left (by rw [r.len]; exact hi)]; exact e1, e2, e3, e4⟩
    · rw [List.getElem?_append_right (by omega)] at e
      have hz : i = M.length := by
        have := (List.getElem?_eq_some_iff.mp e).1
        simp at this; omega
      subst hz
      simp at e; subst e
      exact ⟨p, vs, by rw [List.getElem?_append_right (by rw [r.len]; omega), r.len]; simp, hf, h, d⟩
/-- a list of ours changes -/
theorem Rel.write {i : Nat} {a : Addr} {ws : List V} {xs ys : List PyData} (r : Rel K H F μ M) (hi : M[i]? = some (MO.lst xs)) (ha : μ[i]? = some a) (d : Dqs K F ws ys) : Rel K (upd H a (.lst ws)) F μ (M.set i (MO.lst ys)) := by
  obtain ⟨a', vs', e1, e2, e3, e4⟩ := r.lst i xs hi
  rw [ha] at e1; cases e1
  have hl : i < M.length := (List.getElem?_eq_some_iff.mp hi).1
  refine ⟨fun b u h => ?_, by simp [r.len], r.nd, fun b hb => ?_, fun j zs h => ?_⟩
  · rw [upd_ne (fun e : b = a => by subst e; rw [e2] at h; cases h)]; exact r.sub b u h
  · by_cases e : b = a
    · subst e; exact ⟨_, upd_same⟩
    · rw [upd_ne e]; exact r.al b hb
  · by_cases e : i = j
    · subst e
      rw [List.getElem?_set_self hl] at h
      cases h
      exact ⟨a, ws, ha, e2, upd_same, d⟩
    · rw [List.getElem?_set_ne e] at h
      obtain ⟨b, vs, g1, g2, g3, g4⟩ := r.lst j zs h
      have hn : b ≠ a := fun q => by
        subst q
        obtain ⟨h1, k1⟩ := List.getElem?_eq_some_iff.mp ha
        obtain ⟨h2, k2⟩ := List.getElem?_eq_some_iff.mp g1
        exact e ((List.getElem_inj r.nd).mp (k1.trans k2.symm))
      exact ⟨b, vs, g1, g2, by rw [upd_ne hn]; exact g3, g4⟩
theorem Ext.write {i : Nat} {a : Addr} {o : HO} (ha : μ[i]? = some a) : Ext H F μ (upd H a o) F μ :=
  ⟨Sub.refl _, ⟨[], by simp, by simp⟩, fun b u h hn => by rw [upd_ne (fun e : b = a => hn (e ▸ List.mem_of_getElem? ha))]; exact h, fun _ _ h => .inl h⟩
theorem Rel.mem (r : Rel K H F μ M) {i : Nat} {xs : List PyData} (h : M[i]? = some (MO.lst xs)) : i < μ.length := by
  rw [r.len]; exact (List.getElem?_eq_some_iff.mp h).1
theorem Rel.new {p : Addr} {o : HO} (r : Rel K H F μ M) (n : H p = none) : Rel K (upd H p o) (upd F p o) μ M := by
  refine ⟨r.sub.upd, r.len, r.nd, fun a ha => let ⟨u, hu⟩ := r.al a ha; ⟨u, by rw [upd_ne (ne_of_none hu n)]; exact hu⟩, fun i xs h => ?_⟩
  obtain ⟨a, vs, e1, e2, e3, e4⟩ := r.lst i xs h
  have hn := ne_of_none e3 n
  exact ⟨a, vs, e1, by rw [upd_ne hn]; exact e2, by rw [upd_ne hn]; exact e3, e4.mono (Sub.new (r.sub.none n))⟩
/-- a new list of ours that may change -/
theorem Rel.push {p : Addr} {vs : List V} {xs : List PyData} (r : Rel K H F μ M) (n : H p = none) (h : Dqs K F vs xs) :
    Rel K (upd H p (.lst vs)) F (μ ++ [p]) (M ++ [MO.lst xs]) := by
  have hm : p ∉ μ := fun q => by
    obtain ⟨o, e⟩ := r.al p q
    rw [n] at e; cases e
  refine ⟨r.sub.trans (Sub.new n), by simp [r.len], ?_, fun a ha => ?_, fun i ys e => ?_⟩
  · rw [List.nodup_append]
    exact ⟨r.nd, by simp, fun a ha b hb => by simp at hb; subst hb; exact fun q => hm (q ▸ ha)⟩
  · rcases List.mem_append.mp ha with ha | ha
    · obtain ⟨u, hu⟩ := r.al a ha
      exact ⟨u, by rw [upd_ne (ne_of_none hu n)]; exact hu⟩
    · simp at ha; subst ha; exact ⟨_, upd_same⟩
  · by_cases hi : i < M.length
    · rw [List.getElem?_append_left hi] at e
      obtain ⟨a, ws, e1, e2, e3, e4⟩ := r.lst i ys e
      refine ⟨a, ws, by rw [List.getElem?_append_left (by rw [r.len]; exact hi)]; exact e1, e2, ?_, e4⟩
      rw [upd_ne (ne_of_none e3 n)]; exact e3
    · rw [List.getElem?_append_right (by omega)] at e
      have hz : i = M.length := by
        have := (List.getElem?_eq_some_iff.mp e).1
        simp at this; omega
      subst hz
      simp at e; subst e
      exact ⟨p, vs, by rw [List.getElem?_append_right (by rw [r.len]; omega), r.len]; simp, r.sub.none n, upd_same, h⟩
end
end EV

/-! EvD: the plain operations are the machine's. -/
namespace EV
open PySem PySem.Spec PyProof.Rows L2

/-- what an operation hands back: what stood (fl: a list, too), or a new object -/
inductive Res (K : PySem.W.Frag) (H F : Hp) (fl : Bool) : PyData → V → Hp → Prop
  | old {v : V} {d : PyData} : Dq K F v d → (fl = true ∨ ∀ xs, d ≠ .list xs) → Res K H F fl d v H
  | tup {p : Addr} {vs : List V} {ds : List PyData} : H p = none → Dqs K F vs ds → Res K H F fl (.tuple ds) (.ref p) (upd H p (.tup vs))
  | lst {p : Addr} {vs : List V} {ds : List PyData} : H p = none → Dqs K F vs ds → Res K H F fl (.list ds) (.ref p) (upd H p (.lst vs))
section
variable {K : PySem.W.Frag} {H F H' : Hp} {μ : List Addr} {M M' : Mem} {fl mu : Bool} {d : PyData} {v : V} {w : W}
theorem Res.fin (r : Rel K H F μ M) (z : Res K H F fl d v H') (g : give mu d M = some (w, M')) (hm : mu = true → fl = false) :
    ∃ F' μ', Ext H F μ H' F' μ' ∧ Rel K H' F' μ' M' ∧ ValR K F' μ' w v := by
  cases mu with
  | false =>
    have g : some (W.d d, M) = some (w, M') := g
    cases g
    cases z with
    | old h _ => exact ⟨F, μ, Ext.refl, r, h⟩
    | @tup p vs ds n h => exact ⟨_, μ, Ext.new n r.sub, r.new n, .tup (SqT.of upd_same) (h.mono (Sub.new (r.sub.none n)))⟩
    | @lst p vs ds n h => exact ⟨_, μ, Ext.new n r.sub, r.new n, .lst upd_same (h.mono (Sub.new (r.sub.none n)))⟩
  | true =>
    have e := hm rfl
    cases z with
    | @old v d h q =>
      cases d with
      | list xs => rcases q with q | q
                   · rw [e] at q; cases q
                   · exact absurd rfl (q xs)
      | _ => cases g
    | tup n h => cases g
    | @lst p vs ds n h =>
      have g : some (W.m M.length, M ++ [MO.lst ds]) = some (w, M') := g
      cases g
      refine ⟨F, μ ++ [p], ⟨Sub.refl _, ⟨[p], rfl, by simpa using n⟩, fun a u q _ => by rw [upd_ne (ne_of_none q n)]; exact q, fun _ _ q => .inl q⟩, r.push n h, ⟨p, ?_, rfl⟩⟩
      rw [List.getElem?_append_right (by rw [r.len]; omega), r.len]; simp
end
/-- a thing that an operation sees -/
def Dx (K : PySem.W.Frag) (H F : Hp) (v : V) : PyData → Prop
  | .list xs => ∃ a vs, v = .ref a ∧ H a = some (.lst vs) ∧ Dqs K F vs xs
  | x => Dq K F v x
def DxR (K : PySem.W.Frag) (H F : Hp) (v : V) : PyData → Prop
  | .list xs => ∃ a vs, v = .ref a ∧ SqL K H a vs ∧ Dqs K F vs xs
  | x => Dq K F v x
section
variable {K : PySem.W.Frag} {H F H' : Hp} {μ : List Addr} {M M' : Mem} {d x : PyData} {v : V} {w : W}
theorem Dx.of (s : Sub F H) : ∀ {d : PyData} {v : V}, Dq K F v d → Dx K H F v d
  | .list _, _, .lst h q => ⟨_, _, rfl, s _ _ h, q⟩
  | .none, _, h => h
  | .bool _, _, h => h
  | .int _, _, h => h
  | .str _, _, h => h
  | .tuple _, _, h => h
  | .dict _, _, h => h
theorem Dx.weak : ∀ {d : PyData} {v : V}, Dx K H F v d → DxR K H F v d
  | .list _, _, ⟨a, vs, e, h, q⟩ => ⟨a, vs, e, SqL.of h, q⟩
  | .none, _, h => h
  | .bool _, _, h => h
  | .int _, _, h => h
  | .str _, _, h => h
  | .tuple _, _, h => h
  | .dict _, _, h => h
theorem Dx.dp (s : Sub F H) : ∀ {d : PyData} {v : V}, Dx K H F v d → Dp K H v d
  | .list _, _, ⟨a, vs, e, h, q⟩ => by subst e; exact .lst (SqL.of h) (Dqs.dp _ (q.mono s))
  | .none, _, h => Dq.dp _ (Dq.mono s _ h)
  | .bool _, _, h => Dq.dp _ (Dq.mono s _ h)
  | .int _, _, h => Dq.dp _ (Dq.mono s _ h)
  | .str _, _, h => Dq.dp _ (Dq.mono s _ h)
  | .tuple _, _, h => Dq.dp _ (Dq.mono s _ h)
  | .dict _, _, h => Dq.dp _ (Dq.mono s _ h)
theorem Dx.at (r : Rel K H F μ M) (hv : ValR K F μ w v) (e : deref w M = some x) : Dx K H F v x := by
  cases w with
  | d y => cases e; exact Dx.of r.sub hv
  | m i =>
    obtain ⟨a, ha, rfl⟩ := hv
    unfold deref at e
    simp only at e
    split at e
    · rename_i xs hx
      cases e
      obtain ⟨b, vs, e1, e2, e3, e4⟩ := r.lst i xs hx
      rw [ha] at e1; cases e1
      exact ⟨_, vs, rfl, e3, e4⟩
    · cases e
  | r ns => cases e
theorem dqs_ints : ∀ ns : List Int, Dqs K F (ns.map V.int) (ns.map PyData.int)
  | [] => .nil
  | n :: ns => .cons (.int n) (dqs_ints ns)
theorem DxR.at (r : Rel K H F μ M) (hv : ValR K F μ w v) (e : derefR w M = some x) : DxR K H F v x := by
  cases w with
  | d y => exact (Dx.at r hv e).weak
  | m i => exact (Dx.at r hv e).weak
  | r ns =>
    cases e
    obtain ⟨a, rfl, h⟩ := hv
    exact ⟨a, _, rfl, sqL_mono r.sub h, dqs_ints ns⟩
end

def opr_or {X : Cx} {f : Value → Value → Sem Value} {r r' : R2} (h : OpR X f r) (h' : OpR X f r') : OpR X f (fun x y H Q => r x y H Q ∨ r' x y H Q) :=
  fun pins s σ H x y v u Q I rx ry q => q.elim (h pins s σ H x y v u Q I rx ry) (h' pins s σ H x y v u Q I rx ry)
/-- the rule r serves the operation p -/
def Sup2 (K : PySem.W.Frag) (p : P2) (r : R2) : Prop := ∀ {H F : Hp} {x y : V} {dx dy d : PyData} {Q : VK}, Sub F H → Dx K H F x dx → Dx K H F y dy → prim2 p dx dy = some d →
  (∀ v H', Res K H F false d v H' → Q v H') → r x y H Q
def Ser2 (X : Cx) (p : P2) (f : Value → Value → Sem Value) : Prop := ∃ r, OpR X f r ∧ Sup2 X.K p r

section
variable {X : Cx} {K : PySem.W.Frag} {H F : Hp} {x y : V}
theorem Res.int {i : Int} : Res K H F false (.int i) (.int i) H := .old (.int i) (.inr fun _ h => nomatch h)
theorem Res.bl {b : Bool} : Res K H F false (.bool b) (.bl b) H := .old (.bl b) (.inr fun _ h => nomatch h)
theorem Res.non : Res K H F false .none .non H := .old .non (.inr fun _ h => nomatch h)
theorem Res.str {z : Str} : Res K H F false (.str z) (.str z) H := .old (.str z) (.inr fun _ h => nomatch h)
theorem fit_eq {α : Type} {xs : List α} {r d : PyData} (h : fit xs r = some d) : xs.length ≤ sizeLine ∧ d = r := by
  unfold fit at h
  split at h
  · exact ⟨by assumption, (Option.some.inj h).symm⟩
  · cases h

theorem ser_add : Ser2 X .add (binaryOp .Add) := by
  refine ⟨_, opr_or op_add (opr_or op_catA (opr_or op_cat op_add_str)), ?_⟩
  intro H F x y dx dy d Q s hx hy e q
  cases dx <;> cases dy <;> try (cases e; done)
  case int.int i j =>
    cases e; cases hx; cases hy
    exact .inl ⟨i, j, rfl, rfl, q _ _ .int⟩
  case str.str a b =>
    simp only [prim2] at e
    split at e
    · rename_i hz
      cases e; cases hx; cases hy
      exact .inr (.inr (.inr ⟨a, b, rfl, rfl, hz, q _ _ .str⟩))
    · cases e
  case list.list xs ys =>
    obtain ⟨hz, rfl⟩ := fit_eq (show fit (xs ++ ys) (.list (xs ++ ys)) = some d from e)
    obtain ⟨a, vs, rfl, h1, q1⟩ := hx
    obtain ⟨b, ws, rfl, h2, q2⟩ := hy
    refine .inr (.inr (.inl ⟨a, b, vs, ws, rfl, rfl, h1, h2, ?_, fun p hp => q _ _ (.lst hp (q1.app q2))⟩))
    rw [q1.length, q2.length, ← List.length_append]; exact hz
  case tuple.tuple xs ys =>
    obtain ⟨hz, rfl⟩ := fit_eq (show fit (xs ++ ys) (.tuple (xs ++ ys)) = some d from e)
    cases hx with
    | @tup a vs _ h1 q1 =>
      cases hy with
      | @tup b ws _ h2 q2 =>
        refine .inr (.inl ⟨a, b, vs, ws, rfl, rfl, sqT_mono s h1, sqT_mono s h2, ?_, fun e0 => ?_, fun _ e0 => ?_, fun _ _ p hp => q _ _ (.tup hp (q1.app q2))⟩)
        · rw [q1.length, q2.length, ← List.length_append]; exact hz
        · subst e0; cases q1
          exact q _ _ (.old (.tup h2 q2) (.inr fun _ h => nomatch h))
        · subst e0; cases q2
          rw [List.append_nil] at q
          exact q _ _ (.old (.tup h1 q1) (.inr fun _ h => nomatch h))
theorem ser_sub : Ser2 X .sub (binaryOp .Sub) := by
  refine ⟨_, op_sub, ?_⟩
  intro H F x y dx dy d Q s hx hy e q
  cases dx <;> cases dy <;> try (cases e; done)
  cases e; cases hx; cases hy
  exact ⟨_, _, rfl, rfl, q _ _ .int⟩
theorem mulOk_ok {i j : Int} (h : mulOk i j = true) : IntMulOk i j := by
  unfold mulOk at h
  simp only [Bool.or_eq_true, decide_eq_true_eq] at h
  rcases h with (h3 | h3) | h3
  rotate_left
  · exact CMul.ok (.inl (by omega))
  · exact CMul.ok (.inr (by omega))
  have b : ∀ x : Int, Builtin.Int.intBits x ≤ x.natAbs.log2 + 1 := fun x => by
    unfold Builtin.Int.intBits
    split <;> omega
  have h1 := b i
  have h2 := b j
  have e : bitsLine = 134217728 := by decide
  intro z
  have z2 := (Bool.and_eq_true _ _ ▸ z).2
  unfold Builtin.Int.intTooBig at z2
  have z3 := of_decide_eq_true z2
  rw [e] at z3
  omega
theorem op_mulB : OpR X (binaryOp .Mult) (rI (fun i j => mulOk i j = true) fun i j => .int (i * j)) := opI fun _ _ _ _ _ _ _ hc q => mul_int q (mulOk_ok hc)
theorem op_fdivB : OpR X (binaryOp .FloorDiv) (rI (fun i j => j ≠ 0 ∧ Builtin.divisionGoesByPylong i j = false) fun i j => .int (i.fdiv j)) := opI fun _ _ _ _ _ _ _ hc q => floordiv_int hc.1 q (.inl hc.2)
theorem ser_fdiv : Ser2 X .fdiv (binaryOp .FloorDiv) := by
  refine ⟨_, op_fdivB, ?_⟩
  intro H F x y dx dy d Q s hx hy e q
  cases dx <;> cases dy <;> try (cases e; done)
  simp only [prim2] at e
  split at e
  · rename_i hz
    cases e; cases hx; cases hy
    exact ⟨_, _, rfl, rfl, hz, q _ _ .int⟩
  · cases e
theorem ser_mod : Ser2 X .mod (binaryOp .Mod) := by
  refine ⟨_, op_modN, ?_⟩
  intro H F x y dx dy d Q s hx hy e q
  cases dx <;> cases dy <;> try (cases e; done)
  simp only [prim2] at e
  split at e
  · rename_i hz
    cases e; cases hx; cases hy
    exact ⟨_, _, rfl, rfl, hz, q _ _ .int⟩
  · cases e
theorem ser_pow : Ser2 X .pow (binaryOp .Pow) := by
  refine ⟨_, op_pow, ?_⟩
  intro H F x y dx dy d Q s hx hy e q
  cases dx <;> cases dy <;> try (cases e; done)
  simp only [prim2] at e
  split at e
  · rename_i hz
    cases e; cases hx; cases hy
    exact ⟨_, _, rfl, rfl, hz, q _ _ .int⟩
  · cases e
theorem ser_lt : Ser2 X .lt (compareOp .Lt) := by
  refine ⟨_, op_lt, ?_⟩
  intro H F x y dx dy d Q s hx hy e q
  cases dx <;> cases dy <;> try (cases e; done)
  cases e; cases hx; cases hy
  exact ⟨_, _, rfl, rfl, q _ _ .bl⟩
theorem ser_le : Ser2 X .le (compareOp .LtE) := by
  refine ⟨_, op_le, ?_⟩
  intro H F x y dx dy d Q s hx hy e q
  cases dx <;> cases dy <;> try (cases e; done)
  cases e; cases hx; cases hy
  exact ⟨_, _, rfl, rfl, q _ _ .bl⟩
theorem ser_gt : Ser2 X .gt (compareOp .Gt) := by
  refine ⟨_, op_gt, ?_⟩
  intro H F x y dx dy d Q s hx hy e q
  cases dx <;> cases dy <;> try (cases e; done)
  cases e; cases hx; cases hy
  exact ⟨_, _, rfl, rfl, q _ _ .bl⟩
theorem ser_ge : Ser2 X .ge (compareOp .GtE) := by
  refine ⟨_, op_ge, ?_⟩
  intro H F x y dx dy d Q s hx hy e q
  cases dx <;> cases dy <;> try (cases e; done)
  cases e; cases hx; cases hy
  exact ⟨_, _, rfl, rfl, q _ _ .bl⟩
end
end EV

/-! EvD2: tuple times int, == and is, in, subscripts. -/
namespace EV
open PySem PySem.Spec PyProof.Rows L2

/-- an int times a tuple is that tuple itself -/
theorem tmul_same (l : Addr) (items : Array Value) (n : Nat) (dd : Option Addr) (sl : Array (Option Value)) (x : Int) (u : Tok)
    (g0 : (decide (x < -(2 ^ 63)) || decide (x ≥ 2 ^ 63)) = false) (g1 : (items.isEmpty || x == 1) = true) :
    Meets (Builtin.«tuple.__mul__» ⟨[.ref l, .int x u], []⟩) (fun _ R s => s.heap.get? l = some { cls := .type "tuple", dict := dd, data := .seq items n, slots := sl } ∧
      R (.ok (.ret (Value.ref l))) s) :=
  .of_wp fun prog w A R s h => by
    obtain ⟨hp, g, d, tk, os⟩ := s
    obtain ⟨hl, h⟩ := h
    have f1 := AutoSeq1.idx_int
    wp_walk using wpAny_loadPart' hl
    repeat (first
      | (refine wpAny_ite_false (decide_eq_false (fun z => by rw [g0] at z; cases z)) ?_; wp_walk using wpAny_loadPart' hl)
      | (refine wpAny_ite_true (decide_eq_true g1) ?_; wp_walk using wpAny_loadPart' hl))
    exact ⟨_, rfl, h⟩
theorem tmul_nil (l : Addr) (items : Array Value) (n : Nat) (dd : Option Addr) (sl : Array (Option Value)) (x : Int) (u : Tok)
    (g0 : (decide (x < -(2 ^ 63)) || decide (x ≥ 2 ^ 63)) = false) (g1 : (items.isEmpty || x == 1) = false) (g2 : (decide (x ≤ 0) || items.isEmpty) = true) :
    Meets (Builtin.«tuple.__mul__» ⟨[.ref l, .int x u], []⟩) (fun _ R s => s.heap.get? l = some { cls := .type "tuple", dict := dd, data := .seq items n, slots := sl } ∧
      R (.ok (.ret (Value.ref s.heap.objs.size))) { s with heap := s.heap.push { cls := Value.type "tuple", data := Data.seq #[] }, toks := s.toks }) :=
  .of_wp fun prog w A R s h => by
    obtain ⟨hp, g, d, tk, os⟩ := s
    obtain ⟨hl, h⟩ := h
    have f1 := AutoSeq1.idx_int
    wp_walk using wpAny_loadPart' hl
    repeat (first
      | (refine wpAny_ite_false (decide_eq_false (fun z => by rw [g0] at z; cases z)) ?_; wp_walk using wpAny_loadPart' hl)
      | (refine wpAny_ite_false (decide_eq_false (fun z => by rw [g1] at z; cases z)) ?_; wp_walk using wpAny_loadPart' hl)
      | (refine wpAny_ite_true (decide_eq_true g2) ?_; wp_walk using wpAny_loadPart' hl))
    exact ⟨_, rfl, h⟩

/-- a tuple times an int, whatever they are -/
def rMulT (K : PySem.W.Frag) : R2 := fun x y H Q => ∃ l k xs, x = .ref l ∧ y = .int k ∧ SqT K H l xs ∧ small62 k = true ∧ xs.length * k.toNat ≤ sizeLine ∧
  (((xs = [] ∨ k = 1) ∧ Q (.ref l) H) ∨ (xs ≠ [] ∧ k ≠ 1 ∧ ∀ p, H p = none → Q (.ref p) (upd H p (.tup (List.replicate k.toNat xs).flatten))))
theorem small62_eq {k : Int} (h : small62 k = true) : -(2 ^ 62) ≤ k ∧ k < 2 ^ 62 := by
  unfold small62 at h
  rw [Bool.and_eq_true] at h
  exact ⟨of_decide_eq_true h.1, of_decide_eq_true h.2⟩
section
variable {X : Cx}
theorem op_mulT : OpR X (binaryOp .Mult) (rMulT X.K) := by
  intro pins s σ H x y v u Q I rx ry h
  obtain ⟨l, k, xs, rfl, rfl, hT, hk, hz, q⟩ := h
  obtain ⟨k1, k2⟩ := small62_eq hk
  cases rx
  obtain ⟨t, rfl⟩ := ry
  obtain ⟨its, r, ⟨⟨cls, dd, data, sl⟩, ho, hc, n, hd⟩, hs⟩ := I.tuple hT
  simp only at hc hd
  subst hc hd
  have hle : its.length = xs.length := r.length.symm
  have g0 : (decide (k < -(2 ^ 63)) || decide (k ≥ 2 ^ 63)) = false := by
    rw [Bool.or_eq_false_iff]
    exact ⟨decide_eq_false (by omega), decide_eq_false (by omega)⟩
  have key : ∀ R : Value → Shared → Prop, (wpAny (model X.prog X.w) X.A (call (.builtin "tuple.__mul__") [.ref l, .int k t]) R X.xe s) → wpAny (model X.prog X.w) X.A (binaryOp .Mult (.ref l) (.int k t)) R X.xe s := fun R hR =>
    wpAny_binaryOp_repeat_ref (T := "tuple") (U := "int") (by decide) ⟨_, ho, rfl⟩ (fun s' => typeIs_int s' k t) noFill_tuple_mul F.fills_int_mul F.slot_int_rmul repeat_tuple F.slot_int_index.lookup
      (call_meets F.slot_int_rmul (typeIs_int s k t) F.entry_int_rmul (F.args_int_rmul_2 _ _) (int_rmul_tuple k t l its.toArray n dd sl) ⟨ho, rfl, ⟨_, ho, rfl⟩, hR⟩)
  rcases q with ⟨hq, q⟩ | ⟨n0, n1, q⟩
  · refine key _ (call_meets F.slot_tuple_mul ⟨_, ho, rfl⟩ F.entry_tuple_mul (F.args_tuple_mul_2 _ _) (tmul_same l its.toArray n dd sl k t g0 ?_) ⟨ho, ⟨.ref l, H, I, rfl, q⟩⟩)
    rcases hq with hq | hq
    · subst hq
      have : its = [] := List.eq_nil_of_length_eq_zero hle
      subst this; rfl
    · subst hq; rw [beq_self_eq_true, Bool.or_true]
  · have hn : its ≠ [] := fun e => n0 (by
      rw [e] at hle
      exact List.eq_nil_of_length_eq_zero hle.symm)
    have hi : its.toArray.isEmpty = false := by
      cases its with
      | nil => exact absurd rfl hn
      | cons a b => rfl
    have g1 : (its.toArray.isEmpty || k == 1) = false := by rw [hi, Bool.false_or]; exact beq_eq_false_iff_ne.mpr n1
    by_cases k0 : k ≤ 0
    · refine key _ (call_meets F.slot_tuple_mul ⟨_, ho, rfl⟩ F.entry_tuple_mul (F.args_tuple_mul_2 _ _) (tmul_nil l its.toArray n dd sl k t g0 g1 (by rw [decide_eq_true k0, Bool.true_or])) ⟨ho, ?_⟩)
      have e0 : (List.replicate k.toNat xs).flatten = [] := by rw [show k.toNat = 0 by omega]; rfl
      rw [e0] at q
      refine ⟨.ref s.heap.objs.size, _, I.laid (t' := s.toks) (o := .tup []) (fun b ob z => Heap.get?_push_of_some _ z) (Nat.le_refl _) ?_, rfl, q _ (I.hok.fresh (Nat.le_refl _))⟩
      exact ⟨Nat.zero_le _, [], .nil, IsTup.new _ _⟩
    · have g2 : (decide (k ≤ 0) || its.toArray.isEmpty) = false := by rw [hi, Bool.or_false]; exact decide_eq_false k0
      have e1 : ((its.toArray.size : Nat) : Int) * k = ((xs.length * k.toNat : Nat) : Int) := by
        rw [List.size_toArray, hle, Int.natCast_mul, Int.toNat_of_nonneg (by omega)]
      have hz' : ((its.toArray.size : Nat) : Int) * k ≤ 16777216 := by
        rw [e1]
        have : xs.length * k.toNat ≤ 16777216 := by rw [← sizeLine_eq]; exact hz
        omega
      have flen : (List.replicate k.toNat its).flatten.length ≤ sizeLine := by
        rw [PyProof.Rows.lm_len_rep_flat, hle, Nat.mul_comm]; exact hz
      have g4 : Builtin.Tuple.tupleTooMany (((its.toArray.size : Nat) : Int) * k) = false := by
        unfold Builtin.Tuple.tupleTooMany
        rw [sizeLine_eq]
        exact decide_eq_false (by omega)
      refine key _ (call_meets F.slot_tuple_mul ⟨_, ho, rfl⟩ F.entry_tuple_mul (F.args_tuple_mul_2 _ _) (tuple_mulW l its.toArray n dd sl k t g0 g1 g2 (by omega) g4 (by rw [size_rep, List.size_toArray]; exact flen)) ⟨ho, ?_⟩)
      rw [size_rep]
      refine ⟨.ref s.heap.objs.size, _, I.laid (t' := s.toks) (o := .tup (List.replicate k.toNat xs).flatten) (fun b ob z => Heap.get?_push_of_some _ z) (Nat.le_refl _) ?_, rfl, q _ (I.hok.fresh (Nat.le_refl _))⟩
      exact ⟨by rw [PyProof.Rows.lm_len_rep_flat, Nat.mul_comm]; exact hz, _, r.rep k.toNat, IsTup.new _ _⟩

theorem ser_mul : Ser2 X .mul (binaryOp .Mult) := by
  refine ⟨_, opr_or op_mulB (opr_or op_rep op_mulT), ?_⟩
  intro H F x y dx dy d Q s hx hy e q
  cases dx <;> cases dy <;> try (cases e; done)
  case int.int i j =>
    simp only [prim2] at e
    split at e
    · rename_i hz
      cases e; cases hx; cases hy
      exact .inl ⟨i, j, rfl, rfl, hz, q _ _ .int⟩
    · cases e
  case list.int xs k =>
    simp only [prim2] at e
    split at e
    · rename_i hz
      cases e; cases hy
      obtain ⟨a, vs, rfl, h1, q1⟩ := hx
      obtain ⟨k1, k2⟩ := small62_eq hz.1
      exact .inr (.inl ⟨a, k, vs, rfl, rfl, h1, by omega, by omega, by rw [q1.length]; exact hz.2, fun p hp => q _ _ (.lst hp (q1.rep _))⟩)
    · cases e
  case tuple.int xs k =>
    simp only [prim2] at e
    split at e
    · rename_i hz
      cases e; cases hy
      cases hx with
      | @tup a vs _ h1 q1 =>
        refine .inr (.inr ⟨a, k, vs, rfl, rfl, sqT_mono s h1, hz.1, by rw [q1.length]; exact hz.2, ?_⟩)
        by_cases h0 : vs = [] ∨ k = 1
        · refine .inl ⟨h0, q _ _ (.old (.tup h1 ?_) (.inr fun _ h => nomatch h))⟩
          rcases h0 with h0 | h0
          · subst h0; cases q1
            have : (List.replicate k.toNat ([] : List PyData)).flatten = [] := by simp
            rw [this]; exact .nil
          · subst h0
            have : (List.replicate (1 : Int).toNat xs).flatten = xs := by simp
            rw [this]; exact q1
        · exact .inr ⟨fun z => h0 (.inl z), fun z => h0 (.inr z), fun p hp => q _ _ (.tup hp (q1.rep _))⟩
    · cases e

/-! ### ==, != -/
theorem shEq_ok {A : Around} {x y : PyData} (h : shEq x y = true) (hu : A.units + 64 < cLine) : x.canLay0 = true ∧ y.canLay0 = true ∧ A.units + min x.depth y.depth < cLine := by
  unfold shEq at h
  rw [Bool.and_eq_true, Bool.and_eq_true] at h
  have := of_decide_eq_true h.2
  exact ⟨h.1.1, h.1.2, by omega⟩
def rEqQ (K : PySem.W.Frag) (g : Bool → Bool) : R2 := fun x y H Q => ∃ d e, Dp K H x d ∧ Dp K H y e ∧ shEq d e = true ∧ Q (.bl (g (PyData.eqv d e))) H
theorem op_eqQ (hu : X.A.units + 64 < cLine) : OpR X (compareOp .Eq) (rEqQ X.K id) := by
  intro pins s σ H x y v u Q I rx ry h
  obtain ⟨d, e, hd, he, sd, q⟩ := h
  obtain ⟨as, r1⟩ := Dp.reads I d x v hd rx
  obtain ⟨bs, r2⟩ := Dp.reads I e y u he ry
  obtain ⟨s1, s2, s3⟩ := shEq_ok (A := X.A) sd hu
  exact SeqAt.compareEq_reads r1 r2 s1 s2 s3 ⟨.bl _, H, I, rfl, q⟩
theorem op_neQ (hu : X.A.units + 64 < cLine) : OpR X (compareOp .NotEq) (rEqQ X.K not) := by
  intro pins s σ H x y v u Q I rx ry h
  obtain ⟨d, e, hd, he, sd, q⟩ := h
  obtain ⟨as, r1⟩ := Dp.reads I d x v hd rx
  obtain ⟨bs, r2⟩ := Dp.reads I e y u he ry
  obtain ⟨s1, s2, s3⟩ := shEq_ok (A := X.A) sd hu
  exact SeqAt.compareNe_reads r1 r2 s1 s2 s3 ⟨.bl _, H, I, rfl, q⟩
theorem peq_eq {x y : PyData} {b : Bool} (h : peq x y = some b) : shEq x y = true ∧ b = PyData.eqv x y := by
  unfold peq at h
  split at h
  · exact ⟨by assumption, (Option.some.inj h).symm⟩
  · cases h
theorem ser_eq (hu : X.A.units + 64 < cLine) : Ser2 X .eq (compareOp .Eq) := by
  refine ⟨_, op_eqQ hu, ?_⟩
  intro H F x y dx dy d Q s hx hy e q
  obtain ⟨b, e1, rfl⟩ := Option.map_eq_some_iff.mp (show (peq dx dy).map PyData.bool = some d from e)
  obtain ⟨h1, rfl⟩ := peq_eq e1
  exact ⟨dx, dy, hx.dp s, hy.dp s, h1, q _ _ .bl⟩
theorem ser_ne (hu : X.A.units + 64 < cLine) : Ser2 X .ne (compareOp .NotEq) := by
  refine ⟨_, op_neQ hu, ?_⟩
  intro H F x y dx dy d Q s hx hy e q
  obtain ⟨b, e1, rfl⟩ := Option.map_eq_some_iff.mp (show (peq dx dy).map (fun b => PyData.bool !b) = some d from e)
  obtain ⟨h1, rfl⟩ := peq_eq e1
  exact ⟨dx, dy, hx.dp s, hy.dp s, h1, q _ _ .bl⟩

/-! ### is, is not -/
def sameV : V → V → Option Bool
  | .non, .non => some true
  | .non, .bl _ => some false
  | .bl _, .non => some false
  | .int _, .non => some false
  | .str _, .non => some false
  | .ref _, .non => some false
  | .bl a, .bl b => some (a == b)
  | .int _, .bl _ => some false
  | .str _, .bl _ => some false
  | .ref _, .bl _ => some false
  | _, _ => none
def rSame (g : Bool → Bool) : R2 := fun x y H Q => ∃ b, sameV x y = some b ∧ Q (.bl (g b)) H
theorem op_isV : OpR X (compareOp .Is) (rSame id) := by
  intro pins s σ H x y v u Q I rx ry h
  obtain ⟨b, hb, q⟩ := h
  cases y <;> try (cases x <;> cases hb; done)
  case non =>
    cases ry
    refine is_none_gen (fin_bl I q ?_)
    rw [rx.none_iff]
    cases x <;> cases hb <;> rfl
  case bl c =>
    cases ry
    cases x <;> try (cases hb; done)
    case non => cases hb; cases rx; exact wpAny_is_other rfl (fun z => nomatch z) (fin_bl I q rfl)
    case bl a =>
      cases hb; cases rx
      exact is_bool (fin_bl I q rfl)
    case int i => cases hb; obtain ⟨t, rfl⟩ := rx; exact wpAny_is_other rfl (fun z => nomatch z) (fin_bl I q rfl)
    case str i => cases hb; obtain ⟨t, rfl⟩ := rx; exact wpAny_is_other rfl (fun z => nomatch z) (fin_bl I q rfl)
    case ref i => cases hb; cases rx; exact wpAny_is_other rfl (fun z => nomatch z) (fin_bl I q rfl)
theorem op_isnV : OpR X (compareOp .IsNot) (rSame not) := by
  intro pins s σ H x y v u Q I rx ry h
  obtain ⟨b, hb, q⟩ := h
  cases y <;> try (cases x <;> cases hb; done)
  case non =>
    cases ry
    refine isnot_none_gen (fin_bl I q ?_)
    rw [rx.none_iff]
    cases x <;> cases hb <;> rfl
  case bl c =>
    cases ry
    cases x <;> try (cases hb; done)
    case non => cases hb; cases rx; exact wpAny_isNot_other rfl (fun z => nomatch z) (fin_bl I q rfl)
    case bl a =>
      cases hb; cases rx
      exact isnot_bool (fin_bl I q (by cases a <;> cases c <;> rfl))
    case int i => cases hb; obtain ⟨t, rfl⟩ := rx; exact wpAny_isNot_other rfl (fun z => nomatch z) (fin_bl I q rfl)
    case str i => cases hb; obtain ⟨t, rfl⟩ := rx; exact wpAny_isNot_other rfl (fun z => nomatch z) (fin_bl I q rfl)
    case ref i => cases hb; cases rx; exact wpAny_isNot_other rfl (fun z => nomatch z) (fin_bl I q rfl)
theorem same_of {K : PySem.W.Frag} {H F : Hp} {x y : V} {dx dy : PyData} {b : Bool} (hx : Dx K H F x dx) (hy : Dx K H F y dy) (e : isSame dx dy = some b) : sameV x y = some b := by
  cases dx <;> cases dy <;> try (cases e; done)
  all_goals first
    | (cases hx; done)
    | (cases hx; cases hy; exact e)
    | (cases hy; obtain ⟨a, vs, rfl, _⟩ := hx; exact e)
theorem ser_is : Ser2 X .is (compareOp .Is) := by
  refine ⟨_, op_isV, ?_⟩
  intro H F x y dx dy d Q s hx hy e q
  obtain ⟨b, e1, rfl⟩ := Option.map_eq_some_iff.mp (show (isSame dx dy).map PyData.bool = some d from e)
  exact ⟨b, same_of hx hy e1, q _ _ .bl⟩
theorem ser_isn : Ser2 X .isn (compareOp .IsNot) := by
  refine ⟨_, op_isnV, ?_⟩
  intro H F x y dx dy d Q s hx hy e q
  obtain ⟨b, e1, rfl⟩ := Option.map_eq_some_iff.mp (show (isSame dx dy).map (fun b => PyData.bool !b) = some d from e)
  exact ⟨b, same_of hx hy e1, q _ _ .bl⟩

/-! ### a[i] -/
def SupI (K : PySem.W.Frag) (r : R2) : Prop := ∀ {H F : Hp} {x y : V} {dx dy d : PyData} {Q : VK}, Sub F H → DxR K H F x dx → Dx K H F y dy → prim2 .ix dx dy = some d →
  (∀ v H', Res K H F true d v H' → Q v H') → r x y H Q
theorem at_eq {α β : Type} {xs : List α} {ys : List β} {i : Int} {d : β} (h : at_ ys i = some d) (hl : xs.length = ys.length) : ∃ j : Nat, ixN xs.length i = some j ∧ ys[j]? = some d := by
  unfold at_ at h
  unfold ixN
  rw [hl]
  split at h
  · rename_i h0
    have := (List.getElem?_eq_some_iff.mp h).1
    exact ⟨i.toNat, by rw [if_pos h0, if_pos (by omega)], h⟩
  · rename_i h0
    split at h
    · rename_i h1
      exact ⟨_, by rw [if_neg h0, if_pos (by omega)], h⟩
    · cases h
theorem at_dqs {K : PySem.W.Frag} {F : Hp} {vs : List V} {xs : List PyData} {i : Int} {d : PyData} (q : Dqs K F vs xs) (h : at_ xs i = some d) : ∃ v, atI vs i = some v ∧ Dq K F v d := by
  obtain ⟨j, h1, h2⟩ := at_eq h q.length
  obtain ⟨v, h3, h4⟩ := q.get h2
  exact ⟨v, by unfold atI; rw [h1]; exact h3, h4⟩
theorem at_atI {α : Type} {xs : List α} {i : Int} {d : α} (h : at_ xs i = some d) : atI xs i = some d := by
  obtain ⟨j, h1, h2⟩ := at_eq h rfl
  unfold atI; rw [h1]; exact h2
theorem ser_ix : ∃ r, IxR X r ∧ SupI X.K r := by
  refine ⟨_, ix_seq, ?_⟩
  intro H F x y dx dy d Q s hx hy e q
  cases dx <;> cases dy <;> try (cases e; done)
  case list.int xs i =>
    obtain ⟨a, vs, rfl, h1, q1⟩ := hx
    cases hy
    obtain ⟨v, h3, h4⟩ := at_dqs q1 (show at_ xs i = some d from e)
    exact .inl ⟨a, vs, i, v, rfl, rfl, h1, h3, q _ _ (.old h4 (.inl rfl))⟩
  case tuple.int xs i =>
    cases hy
    cases hx with
    | @tup a vs _ h1 q1 =>
      obtain ⟨v, h3, h4⟩ := at_dqs q1 (show at_ xs i = some d from e)
      exact .inr (.inl ⟨a, vs, i, v, rfl, rfl, sqT_mono s h1, h3, q _ _ (.old h4 (.inl rfl))⟩)
  case str.int z i =>
    simp only [prim2] at e
    split at e
    · rename_i hz
      obtain ⟨c, e1, rfl⟩ := Option.map_eq_some_iff.mp e
      cases hx; cases hy
      exact .inr (.inr ⟨z, i, c, rfl, rfl, hz, at_atI e1, q _ _ (.old (.str _) (.inl rfl))⟩)
    · cases e
end
end EV

/-! EvD3: slices, backwards, truth, built-in functions. -/
namespace EV
open PySem PySem.Spec PyProof.Rows L2

section
variable {prog : Program} {w : World} {A : Around} {E : Value → Shared → Prop} {s : Shared}
theorem sliced_back {sl : Addr} {vl vu vs : Value} {n : Nat} {Q : Int × Int × Nat → Shared → Prop} (hs : s.heap.IsSliceOf sl vl vu vs) (pl : IsPart vl none) (pu : IsPart vu none) (ps : IsPart vs (some (-1)))
    (h : Q ((n : Int) - 1, -1, n) s) : wpAny (model prog w) A (Builtin.Slice.sliceApplied (.ref sl) (pure (n : Int))) Q E s := by
  obtain ⟨os, hos, hcs, hds⟩ := id hs
  unfold Builtin.Slice.sliceApplied Builtin.Slice.sliceFields
  refine wpAny_bind (wpAny_bind (wpAny_field hos hds (x := vl) rfl (wpAny_bind (wpAny_field hos hds (x := vu) rfl (wpAny_bind (wpAny_field hos hds (x := vs) rfl (wpAny_pure ?_)))))))
  refine wpAny_bind (HT.slicePart_ ps ?_)
  show wpAny _ _ (if ((-1 : Int) == 0) = true then _ else _) _ _ s
  rw [if_neg (by decide)]
  refine wpAny_bind (HT.slicePart_ pl (wpAny_bind (HT.slicePart_ pu (wpAny_bind (wpAny_pure ?_)))))
  have e1 : Builtin.Slice.sliceAdjust none none (-1) (n : Int) = ((n : Int) - 1, -1) := by
    unfold Builtin.Slice.sliceAdjust
    rfl
  have e2 : Builtin.Slice.slicePlaces ((n : Int) - 1) (-1) (-1) = n := by
    unfold Builtin.Slice.slicePlaces
    have h1 : ¬ ((-1 : Int) > 0) := by omega
    have h2 : -(-1 : Int) = 1 := by omega
    simp only [h1, if_false, h2, Int.ediv_one]
    split <;> omega
  show wpAny _ _ (match Builtin.Slice.sliceAdjust none none (-1) (n : Int) with | (lo, hi) => pure (lo, (-1 : Int), Builtin.Slice.slicePlaces lo hi (-1))) _ _ s
  rw [e1]
  show wpAny _ _ (pure ((n : Int) - 1, (-1 : Int), Builtin.Slice.slicePlaces ((n : Int) - 1) (-1) (-1))) _ _ s
  rw [e2]
  exact wpAny_pure h
theorem back_items (xs : Array Value) : ((List.range xs.size).filterMap fun (k : Nat) => xs[(((xs.size : Int) - 1) + (k : Int) * (-1)).toNat]?) = xs.toList.reverse := by
  have e : ((List.range xs.size).filterMap fun (k : Nat) => xs[(((xs.size : Int) - 1) + (k : Int) * (-1)).toNat]?) = ((List.range xs.size).map (fun k => xs.size - 1 - k)).filterMap (xs[·]?) := by
    rw [List.filterMap_map]
    congr 1
    funext k
    show xs[(((xs.size : Int) - 1) + (k : Int) * (-1)).toNat]? = xs[xs.size - 1 - k]?
    congr 1
    omega
  rw [e, PySem.W.krv_range, List.filterMap_reverse, PySem.W.krv_all]
/-- t[::-1] of a tuple: a new one -/
theorem getItem_back {t sl : Addr} {items : Array Value} {vl vu vs : Value} {Q : Value → Shared → Prop} (ht : IsTup s.heap t items) (hs : s.heap.IsSliceOf sl vl vu vs) (pl : IsPart vl none) (pu : IsPart vu none) (ps : IsPart vs (some (-1)))
    (h : Q (.ref s.heap.objs.size) { s with heap := s.heap.push { cls := .type "tuple", data := .seq items.toList.reverse.toArray } })
    (hsz : items.size ≤ sizeLine) : wpAny (model prog w) A (getItem (.ref t) (.ref sl)) Q E s := by
  have hok : sizeOk (.seq items.toList.reverse.toArray) := by
    show items.toList.reverse.toArray.size ≤ sizeLine
    simpa using hsz
  obtain ⟨os, hos, hcs, hds⟩ := id hs
  have hTs : s.TypeIs (.ref sl) "slice" := ⟨os, hos, hcs⟩
  unfold getItem
  try with_reducible refine wpAny_holding ?_
  first | refine wpAny_bind (wpAny_pure ?_) | skip
  refine wpAny_bind (wpAny_sequenceKey ht.typeIs (by decide) ?_)
  refine wpAny_bind (wpAny_callSpecial?_slot (name := Str.ofString "__getitem__") ht.typeIs PyProof.Rows.slot_tuple_getitem (wpAny_call_entry PyProof.Rows.slot_tuple_getitem ht.typeIs PyProof.Rows.entry_tuple_getitem ?_ (PyProof.Rows.args_tuple_getitem _ _)))
  show wpAny _ _ (Builtin.Tuple.tupleItemsOf (.ref t) >>= _) _ _ s
  refine wpAny_bind (tupleItemsOf_ ht ?_)
  refine wpAny_bind (wpAny_typeOf hTs ?_)
  rw [if_pos (by decide)]
  refine wpAny_bind (sliced_back hs pl pu ps ?_)
  have hno : ¬ ((((items.size : Int) - 1) == 0 && (-1 : Int) == 1 && items.size == items.size) = true) := by
    intro q
    rw [Bool.and_eq_true, Bool.and_eq_true] at q
    exact absurd (eq_of_beq q.1.2) (by decide)
  show wpAny _ _ (if (((items.size : Int) - 1) == 0 && (-1 : Int) == 1 && items.size == items.size) = true then _ else _) _ _ s
  rw [if_neg hno, back_items]
  first
    | exact wpAny_bind (m := Builtin.Tuple.tupleExact _) (wpAny_newObj_type (wpAny_pure ⟨_, rfl, wpAny_pure h⟩) hok)
    | exact wpAny_bind (m := Builtin.Tuple.tupleExact _) (wpAny_newObj_type (wpAny_bind (wpAny_pure (wpAny_pure ⟨_, rfl, wpAny_pure h⟩))) hok)
    | exact wpAny_bind (wpAny_bind (m := Builtin.Tuple.tupleExact _) (wpAny_newObj_type (wpAny_pure (wpAny_pure ⟨_, rfl, wpAny_pure h⟩)) hok))
    | exact wpAny_bind (wpAny_bind (m := Builtin.Tuple.tupleExact _) (wpAny_newObj_type (wpAny_pure ⟨_, rfl, wpAny_pure h⟩) hok))
end

section
variable {X : Cx} {K : PySem.W.Frag}
def tRevA (K : PySem.W.Frag) (te : TE) : TE := fun σ H Q => te σ H fun x H1 => ∃ a xs, x = .ref a ∧ ((SqL K H1 a xs ∧ ∀ p, H1 p = none → Q (.ref p) (upd H1 p (.lst xs.reverse))) ∨ (SqT K H1 a xs ∧ ∀ p, H1 p = none → Q (.ref p) (upd H1 p (.tup xs.reverse))))
theorem pe_revA {e : Expr} {te : TE} {k : Nat} {p1 p2 p3 pos : Pos} (he : PE X e te) : PE X (.Subscript e (.Slice none none (some (.UnaryOp .USub (.Constant (.int 1) k p1) p2)) p3) pos) (tRevA X.K te) := by
  refine ⟨fun pins s σ H Q I h => ?_⟩
  refine Subscript_ (thn (he.run pins s σ H _ I h) fun v s1 ⟨x, H1, I1, r1, q1⟩ => ?_)
  obtain ⟨a, xs, ex, q⟩ := q1
  subst ex
  cases r1
  have hst : PO X (some (.UnaryOp .USub (.Constant (.int 1) k p1) p2)) (tPart (tUn (rU fun i => .int (-i)) (tC (.int 1)))) := po_some (pe_un un_neg pe_int)
  refine wpAny_Slice (thn (po_none.run pins s1 σ H1 (fun o H2 => o = none ∧ H2 = H1) I1 ⟨rfl, rfl⟩) fun vl s2 ⟨l, H2, I2, pl, el, e2⟩ => ?_)
  subst el e2
  refine thn (po_none.run pins s2 σ H2 (fun o H3 => o = none ∧ H3 = H2) I2 ⟨rfl, rfl⟩) fun vu s3 ⟨u, H3, I3, pu, eu, e3⟩ => ?_
  subst eu e3
  refine thn (hst.run pins s3 σ H3 (fun o H4 => o = some (-1) ∧ H4 = H3) I3 ⟨1, rfl, -1, rfl, rfl, rfl⟩) fun vs s4 ⟨o, H4, I4, ps, eo, e4⟩ => ?_
  subst eo e4
  have I5 : Inv X pins σ H4 { s4 with heap := s4.heap.push { cls := .type "slice", data := .fields #[vl, vu, vs] } } := I4.kept (t' := s4.toks) fun b ob q => Heap.get?_push_of_some _ q
  show wpAny (model X.prog X.w) X.A (subscriptTail e (.Slice none none (some (.UnaryOp .USub (.Constant (.int 1) k p1) p2)) p3) (.ref a) (.ref s4.heap.objs.size)) (EP X pins σ Q) X.xe { s4 with heap := s4.heap.push { cls := .type "slice", data := .fields #[vl, vu, vs] } }
  rcases q with ⟨hx, q⟩ | ⟨hx, q⟩
  · obtain ⟨its, r, ht, hz⟩ := I5.list hx
    have hlen := r.length
    refine tail_any (ops := [.ref a, .ref s4.heap.objs.size]) ht.isList.typeIs (PySem.slot_list_getitem.lookup) ?_ (by with_unfolding_all rfl)
    refine wpAny_getItem_list_slice ht.isList (Heap.IsSliceOf.new _ vl vu vs) pl pu ps (by decide) ?_ (by rw [List.size_toArray]; omega)
    rw [PySem.W.krv_pick]
    refine ⟨.ref _, _, I5.laid (t' := s4.toks) (o := .lst xs.reverse) (fun b ob q => Heap.get?_push_of_some _ q) (Nat.le_refl _) ?_, rfl, q _ (I5.hok.fresh (Nat.le_refl _))⟩
    exact ⟨by rw [List.length_reverse]; exact hz, _, 0, r.reverse, Heap.get?_push_size _ rfl⟩
  · obtain ⟨its, r, ht, hz⟩ := I5.tuple hx
    have hlen := r.length
    refine tail_any (ops := [.ref a, .ref s4.heap.objs.size]) ht.typeIs (PyProof.Rows.slot_tuple_getitem.lookup) ?_ (by with_unfolding_all rfl)
    refine getItem_back ht (Heap.IsSliceOf.new _ vl vu vs) pl pu ps ?_ (by rw [List.size_toArray]; omega)
    refine ⟨.ref _, _, I5.laid (t' := s4.toks) (o := .tup xs.reverse) (fun b ob q => Heap.get?_push_of_some _ q) (Nat.le_refl _) ?_, rfl, q _ (I5.hok.fresh (Nat.le_refl _))⟩
    exact ⟨by rw [List.length_reverse]; exact hz, _, r.reverse, ⟨_, Heap.get?_push_size _ rfl, rfl, _, rfl⟩⟩

/-! ### a[lo:hi] -/
def SupS (K : PySem.W.Frag) (r : V → Option Int → Option Int → Hp → VK → Prop) : Prop := ∀ {H F : Hp} {x : V} {dx d : PyData} {lo hi : Option Int} {Q : VK}, Sub F H → Dx K H F x dx → primSl dx lo hi = some d →
  (∀ v H', Res K H F false d v H' → Q v H') → r x lo hi H Q
theorem cut_dqs {K : PySem.W.Frag} {F : Hp} {vs : List V} {xs : List PyData} (lo hi : Option Int) (q : Dqs K F vs xs) : Dqs K F (cutV vs lo hi) (cutL xs lo hi) := by
  unfold cutV cutL
  rw [q.length]
  exact (q.drop _).take _
theorem ser_slice : ∃ r, SlR X r ∧ SupS X.K r := by
  refine ⟨_, SlR.or sl_list sl_tupA, ?_⟩
  intro H F x dx d lo hi Q s hx e q
  cases dx <;> try (cases e; done)
  case list xs =>
    cases e
    obtain ⟨a, vs, rfl, h1, q1⟩ := hx
    exact .inl ⟨a, vs, rfl, SqL.of h1, fun p hp => q _ _ (.lst hp (cut_dqs lo hi q1))⟩
  case tuple xs =>
    cases e
    cases hx with
    | @tup a vs _ h1 q1 =>
      refine .inr ⟨a, vs, rfl, sqT_mono s h1, fun h => q _ _ (.old (.tup h1 ?_) (.inr fun _ h => nomatch h)), fun _ p hp => q _ _ (.tup hp (cut_dqs lo hi q1))⟩
      have e1 : cutV vs lo hi = vs := by
        unfold cutV
        rw [h.1, h.2]; simp
      have := cut_dqs lo hi q1
      rw [e1] at this; exact this

/-! ### truth -/
theorem tru_of {H F : Hp} {x : V} {d : PyData} {b : Bool} (s : Sub F H) (hx : Dx K H F x d) (e : truth d = some b) : TruV K x H b := by
  cases d <;> try (cases e; done)
  case none => cases e; cases hx; rfl
  case bool c => cases e; cases hx; rfl
  case int i => cases e; cases hx; rfl
  case str z =>
    simp only [truth] at e
    split at e
    · rename_i hz
      cases e; cases hx
      exact ⟨hz, rfl⟩
    · cases e
  case list xs =>
    cases e
    obtain ⟨a, vs, rfl, h1, q1⟩ := hx
    refine .inl ⟨vs, SqL.of h1, ?_⟩
    cases q1 <;> rfl
  case tuple xs =>
    cases e
    cases hx with
    | @tup a vs _ h1 q1 =>
      refine .inr (.inl ⟨vs, sqT_mono s h1, ?_⟩)
      cases q1 <;> rfl
end
end EV

/-! EvD4: built-in functions. -/
namespace EV
open PySem PySem.Spec PyProof.Rows L2

/-- things that an operation sees, one by one -/
inductive Dxs (K : PySem.W.Frag) (H F : Hp) : List V → List PyData → Prop
  | nil : Dxs K H F [] []
  | cons {v : V} {vs : List V} {d : PyData} {ds : List PyData} : Dx K H F v d → Dxs K H F vs ds → Dxs K H F (v :: vs) (d :: ds)
section
variable {K : PySem.W.Frag} {H F : Hp}
theorem Dxs.one {vs : List V} {d : PyData} (h : Dxs K H F vs [d]) : ∃ v, vs = [v] ∧ Dx K H F v d := by
  cases h with
  | cons a b => cases b; exact ⟨_, rfl, a⟩
theorem Dxs.two {vs : List V} {d e : PyData} (h : Dxs K H F vs [d, e]) : ∃ v w, vs = [v, w] ∧ Dx K H F v d ∧ Dx K H F w e := by
  cases h with
  | cons a b =>
    obtain ⟨w, rfl, q⟩ := b.one
    exact ⟨_, _, rfl, a, q⟩
end
def bFn : B → Value
  | .len => .builtin "len"
  | .abs => .builtin "abs"
  | .int => .type "int"
  | .all => .builtin "all"
  | .any => .builtin "any"
  | .sum => .builtin "sum"
  | .tuple => .type "tuple"
  | .list => .type "list"
  | .max => .builtin "max"
  | .min => .builtin "min"
  | .gcd => .builtin "math.gcd"
  | .lcm => .builtin "math.lcm"
  | .sorted => .builtin "sorted"
  | .str => .type "str"
  | .isi _ => .builtin "isinstance"
def SupB (K : PySem.W.Frag) (b : B) (r : List V → Hp → VK → Prop) : Prop := ∀ {H F : Hp} {vs : List V} {xs : List PyData} {d : PyData} {Q : VK}, Sub F H → Dxs K H F vs xs → primB b xs = some d →
  (∀ v H', Res K H F false d v H' → Q v H') → r vs H Q
def SerB (X : Cx) (b : B) : Prop := ∃ r, CallR X (bFn b) r ∧ SupB X.K b r
def callr_or {X : Cx} {f : Value} {r r' : List V → Hp → VK → Prop} (h : CallR X f r) (h' : CallR X f r') : CallR X f (fun xs H Q => r xs H Q ∨ r' xs H Q) :=
  fun pins s σ H xs us Q I rx q => q.elim (h pins s σ H xs us Q I rx) (h' pins s σ H xs us Q I rx)
section
variable {X : Cx}
/-- len: also of the script -/
theorem ser_len : ∃ r, CallR X (bFn .len) r ∧ ∀ {H F : Hp} {v : V} {x d : PyData} {Q : VK}, Sub F H → DxR X.K H F v x → primB .len [x] = some d → (∀ v H', Res X.K H F false d v H' → Q v H') → r [v] H Q := by
  refine ⟨_, call_len, ?_⟩
  intro H F v x d Q s hx e q
  cases x <;> try (cases e; done)
  case list xs =>
    cases e
    obtain ⟨a, vs, rfl, h1, q1⟩ := hx
    exact ⟨_, vs.length, rfl, .inl ⟨vs, h1, rfl⟩, by rw [q1.length]; exact q _ _ .int⟩
  case tuple xs =>
    cases e
    cases hx with
    | @tup a vs _ h1 q1 => exact ⟨_, vs.length, rfl, .inr ⟨vs, sqT_mono s h1, rfl⟩, by rw [q1.length]; exact q _ _ .int⟩
  case str z =>
    simp only [primB] at e
    split at e
    · rename_i hz
      cases e; cases hx
      exact ⟨_, z.length, rfl, ⟨hz, rfl⟩, q _ _ .int⟩
    · cases e
theorem ser_abs : SerB X .abs := by
  refine ⟨_, call_abs, ?_⟩
  intro H F vs xs d Q s hx e q
  match xs, e with
  | [.int i], e =>
    cases e
    obtain ⟨v, rfl, h⟩ := hx.one
    cases h
    exact ⟨i, rfl, q _ _ .int⟩
theorem ser_int : SerB X .int := by
  refine ⟨_, call_int1, ?_⟩
  intro H F vs xs d Q s hx e q
  match xs, e with
  | [.int i], e =>
    cases e
    obtain ⟨v, rfl, h⟩ := hx.one
    cases h
    exact .inl ⟨i, rfl, q _ _ .int⟩
  | [.bool b], e =>
    cases e
    obtain ⟨v, rfl, h⟩ := hx.one
    cases h
    exact .inr ⟨b, rfl, q _ _ .int⟩
theorem ser_all (hc : X.calm = true) : SerB X .all := by
  refine ⟨_, cr_all hc, ?_⟩
  intro H F vs xs d Q s hx e q
  match xs, e with
  | [.list ys], e =>
    obtain ⟨bs, e1, rfl⟩ := Option.map_eq_some_iff.mp (show (allB ys).map (fun bs => PyData.bool (bs.all id)) = some d from e)
    obtain ⟨v, rfl, a, ws, rfl, h1, q1⟩ := hx.one
    have := q1.ofBools e1
    subst this
    exact ⟨a, bs, rfl, SqL.of h1, q _ _ .bl⟩
theorem ser_any (hc : X.calm = true) : SerB X .any := by
  refine ⟨_, cr_any hc, ?_⟩
  intro H F vs xs d Q s hx e q
  match xs, e with
  | [.list ys], e =>
    obtain ⟨bs, e1, rfl⟩ := Option.map_eq_some_iff.mp (show (allB ys).map (fun bs => PyData.bool (bs.any id)) = some d from e)
    obtain ⟨v, rfl, a, ws, rfl, h1, q1⟩ := hx.one
    have := q1.ofBools e1
    subst this
    exact ⟨a, bs, rfl, SqL.of h1, q _ _ .bl⟩
theorem ser_sum (hc : X.calm = true) : SerB X .sum := by
  refine ⟨_, cr_sum hc, ?_⟩
  intro H F vs xs d Q s hx e q
  match xs, e with
  | [.list ys], e =>
    obtain ⟨bs, e1, rfl⟩ := Option.map_eq_some_iff.mp (show (allI ys).map (fun bs => PyData.int bs.sum) = some d from e)
    obtain ⟨v, rfl, a, ws, rfl, h1, q1⟩ := hx.one
    have := q1.ofInts e1
    subst this
    exact ⟨a, bs, rfl, SqL.of h1, q _ _ .int⟩
theorem ser_tuple : SerB X .tuple := by
  refine ⟨_, call_tuple_of, ?_⟩
  intro H F vs xs d Q s hx e q
  match xs, e with
  | [.list ys], e =>
    cases e
    obtain ⟨v, rfl, a, ws, rfl, h1, q1⟩ := hx.one
    exact ⟨a, ws, rfl, .inl ⟨SqL.of h1, fun l hl => q _ _ (.tup hl q1)⟩⟩
  | [.tuple ys], e =>
    cases e
    obtain ⟨v, rfl, h⟩ := hx.one
    cases h with
    | @tup a ws _ h1 q1 => exact ⟨a, ws, rfl, .inr ⟨sqT_mono s h1, q _ _ (.old (.tup h1 q1) (.inr fun _ h => nomatch h))⟩⟩
theorem ser_list : SerB X .list := by
  refine ⟨_, call_list_of, ?_⟩
  intro H F vs xs d Q s hx e q
  match xs, e with
  | [.list ys], e =>
    cases e
    obtain ⟨v, rfl, a, ws, rfl, h1, q1⟩ := hx.one
    exact ⟨a, ws, rfl, .inl (SqL.of h1), fun l hl => q _ _ (.lst hl q1)⟩
  | [.tuple ys], e =>
    cases e
    obtain ⟨v, rfl, h⟩ := hx.one
    cases h with
    | @tup a ws _ h1 q1 => exact ⟨a, ws, rfl, .inr (sqT_mono s h1), fun l hl => q _ _ (.lst hl q1)⟩
theorem foldl_max (xs : List Int) : ∀ x : Int, (x :: xs).foldl max x = xs.foldl max x := fun x => by
  rw [List.foldl_cons, Int.max_self]
theorem max_mem : ∀ (xs : List Int) (x : Int), xs.foldl max x ∈ x :: xs ∧ ∀ y ∈ x :: xs, y ≤ xs.foldl max x
  | [], x => by simp
  | y :: ys, x => by
    obtain ⟨h1, h2⟩ := max_mem ys (max x y)
    rw [List.foldl_cons]
    have hm : max x y ≤ ys.foldl max (max x y) := h2 _ (by simp)
    have hx : x ≤ max x y := Int.le_max_left x y
    have hy : y ≤ max x y := Int.le_max_right x y
    refine ⟨?_, fun z hz => ?_⟩
    · rcases List.mem_cons.mp h1 with e | e
      · rw [e]
        by_cases c : x ≤ y
        · rw [Int.max_eq_right c]; simp
        · rw [Int.max_eq_left (by omega)]; simp
      · simp [e]
    · rcases List.mem_cons.mp hz with rfl | hz
      · omega
      · rcases List.mem_cons.mp hz with rfl | hz
        · omega
        · exact h2 z (by simp [hz])
theorem ser_max (hc : X.calm = true) : SerB X .max := by
  refine ⟨_, callr_or (call_max2 hc) (cr_max hc), ?_⟩
  intro H F vs xs d Q s hx e q
  match xs, e with
  | [.int i, .int j], e =>
    cases e
    obtain ⟨v, w, rfl, h1, h2⟩ := hx.two
    cases h1; cases h2
    exact .inl ⟨i, j, rfl, q _ _ .int⟩
  | [.list ys], e =>
    obtain ⟨ns, e1, e2⟩ := Option.bind_eq_some_iff.mp (show (allI ys).bind (fun ns => (maxI ns).map PyData.int) = some d from e)
    obtain ⟨v, rfl, a, ws, rfl, h1, q1⟩ := hx.one
    have := q1.ofInts e1
    subst this
    cases ns with
    | nil => cases e2
    | cons n ns =>
      cases e2
      refine .inr ⟨a, n :: ns, rfl, SqL.of h1, by simp, fun m hm hle => ?_⟩
      obtain ⟨g1, g2⟩ := max_mem ns n
      have e3 : m = ns.foldl max n := Int.le_antisymm (g2 m hm) (hle _ g1)
      rw [e3]
      exact q _ _ .int
theorem ser_min (hc : X.calm = true) : SerB X .min := by
  refine ⟨_, call_min2 hc, ?_⟩
  intro H F vs xs d Q s hx e q
  match xs, e with
  | [.int i, .int j], e =>
    cases e
    obtain ⟨v, w, rfl, h1, h2⟩ := hx.two
    cases h1; cases h2
    exact ⟨i, j, rfl, q _ _ .int⟩
theorem ser_gcd : SerB X .gcd := by
  refine ⟨_, cr_gcd, ?_⟩
  intro H F vs xs d Q s hx e q
  match xs, e with
  | [.int i, .int j], e =>
    cases e
    obtain ⟨v, w, rfl, h1, h2⟩ := hx.two
    cases h1; cases h2
    exact ⟨i, j, rfl, q _ _ .int⟩

/-! ### isinstance -/
def tyS : Ty → String
  | .tuple => "tuple"
  | .list => "list"
  | .int => "int"
  | .str => "str"
  | .bool => "bool"
def dTy : PyData → Option String
  | .none => some "NoneType"
  | .bool _ => some "bool"
  | .int _ => some "int"
  | .str _ => some "str"
  | .list _ => some "list"
  | .tuple _ => some "tuple"
  | .dict _ => none
theorem kits : ∀ t : Ty, kitB "NoneType" (tyS t) = some false ∧ kitB "bool" (tyS t) = some (decide (t = .bool) || decide (t = .int)) ∧ kitB "int" (tyS t) = some (decide (t = .int)) ∧
    kitB "str" (tyS t) = some (decide (t = .str)) ∧ kitB "list" (tyS t) = some (decide (t = .list)) ∧ kitB "tuple" (tyS t) = some (decide (t = .tuple))
  | .tuple => by decide +kernel
  | .list => by decide +kernel
  | .int => by decide +kernel
  | .str => by decide +kernel
  | .bool => by decide +kernel
theorem kit_d {t : Ty} {x : PyData} {b : Bool} (e : isTy t x = some b) : ∃ n, dTy x = some n ∧ kitB n (tyS t) = some b := by
  obtain ⟨k1, k2, k3, k4, k5, k6⟩ := kits t
  cases x with
  | none => refine ⟨_, rfl, ?_⟩; rw [k1]; cases t <;> exact e
  | bool c => refine ⟨_, rfl, ?_⟩; rw [k2]; cases t <;> exact e
  | int c => refine ⟨_, rfl, ?_⟩; rw [k3]; cases t <;> exact e
  | str c => refine ⟨_, rfl, ?_⟩; rw [k4]; cases t <;> exact e
  | list c => refine ⟨_, rfl, ?_⟩; rw [k5]; cases t <;> exact e
  | tuple c => refine ⟨_, rfl, ?_⟩; rw [k6]; cases t <;> exact e
  | dict c => cases t <;> cases e
theorem tyx_of {K : PySem.W.Frag} {H F : Hp} {v : V} {x : PyData} {n : String} (s : Sub F H) (hx : Dx K H F v x) (e : dTy x = some n) : TyX K H v (.type n) := by
  cases x with
  | none => cases e; cases hx; exact .base .non
  | bool c => cases e; cases hx; exact .base (.bl _)
  | int c => cases e; cases hx; exact .base (.int _)
  | str c => cases e; cases hx; exact .base (.str _)
  | list c =>
    cases e
    obtain ⟨a, vs, rfl, h1, q1⟩ := hx
    exact .base (.lst h1)
  | tuple c =>
    cases e
    cases hx with
    | @tup a vs _ h1 q1 =>
      rcases sqT_mono s h1 with (h | ⟨o, h⟩) | ⟨o, its, n, h, h2, _⟩
      · exact .base (.tup h)
      · exact .fTuple h
      · exact .kTuple h h2
  | dict c => cases e
theorem sup_isi {t : Ty} {H F : Hp} {v : V} {x d : PyData} {Q : VK} (s : Sub F H) (hx : Dx X.K H F v x) (e : primB (.isi t) [x] = some d) (q : ∀ v H', Res X.K H F false d v H' → Q v H') : rIsi X.K [v, .ty (tyS t)] H Q := by
  obtain ⟨b, e1, rfl⟩ := Option.map_eq_some_iff.mp (show (isTy t x).map PyData.bool = some d from e)
  obtain ⟨n, h1, h2⟩ := kit_d e1
  exact ⟨v, _, .type n, .type (tyS t), b, rfl, .ty _, tyx_of s hx h1, kit_ty h2, q _ _ .bl⟩
end
end EV

/-! EvI: enumerate and zip over lists and tuples. -/
namespace EV
open PySem PySem.Spec PyProof.Rows L2

theorem enum_new1 {v : Value} {o : Obj} {H : Heap → Prop} (B : Begins v o H) :
    Meets (Builtin.«enumerate.__new__» ⟨[.type "enumerate", v], []⟩) (fun _ R s => H s.heap ∧
      R (.ok (.ret (.ref (s.heap.push o).objs.size))) { s with heap := (s.heap.push o).push { cls := .type "enumerate", data := .fields #[.none, .bool false, .ref s.heap.objs.size, rawInt 0, .none, .none] } }) :=
  .of_wp fun prog w A R s h => by
    obtain ⟨hp, g, d, tk, os⟩ := s
    obtain ⟨h1, h⟩ := h
    have hsub := sub_enumerate
    have q1 : ∀ {A' : Around} {E : Value → Shared → Prop} {Q : Value → Shared → Prop}, Q (.ref hp.objs.size) ⟨hp.push o, g, d, tk, os⟩ → wpAny (model prog w) A' (pyIter v) Q E ⟨hp, g, d, tk, os⟩ :=
      fun q => B.iter prog w _ _ ⟨hp, g, d, tk, os⟩ _ h1 q
    wp_walk using q1
    refine wpAny_stack_any fun st => wpAny_pure ?_
    split
    · rename_i c _ _ _ _ _
      cases (c == Value.type "enumerate")
      all_goals (wp_walk using q1; exact ⟨_, rfl, h⟩)
    · wp_walk using q1
      exact ⟨_, rfl, h⟩
section
variable {prog : Program} {w : World} {A : Around} {E : Value → Shared → Prop} {s : Shared}
theorem enum_call1 {v : Value} {o : Obj} {H : Heap → Prop} {Q : Value → Shared → Prop} (B : Begins v o H) (h1 : H s.heap)
    (h : ∀ h', IsEnum h' (s.heap.objs.size + 1) s.heap.objs.size 0 .none → h'.get? s.heap.objs.size = some o → h'.objs.size = s.heap.objs.size + 2 →
      (∀ b o, s.heap.get? b = some o → h'.get? b = some o) → Q (.ref (s.heap.objs.size + 1)) { s with heap := h' }) :
    wpAny (model prog w) A (call (.type "enumerate") [v]) Q E s := by
  refine callType_new F.called_enumerate (by decide) (F.typeCall_enumerate_1 _) (F.newCall_enumerate_1 _) (fun obj => F.args_object_init_2 obj _) F.entry_enumerate_new (enum_new1 B) ⟨h1, ?_⟩
  have hz : (s.heap.push o).objs.size = s.heap.objs.size + 1 := Heap.size_push ..
  show _ ∧ _
  rw [hz]
  have he : IsEnum ((s.heap.push o).push { cls := .type "enumerate", data := .fields #[.none, .bool false, .ref s.heap.objs.size, rawInt 0, .none, .none] }) (s.heap.objs.size + 1) s.heap.objs.size 0 .none := by
    have := Heap.get?_push_size (s.heap.push o) (o := { cls := .type "enumerate", data := .fields #[.none, .bool false, .ref s.heap.objs.size, rawInt 0, .none, .none] }) rfl
    rw [hz] at this; exact this
  exact ⟨⟨_, he, rfl⟩, h _ he (Heap.get?_push_of_some _ (Heap.get?_push_size _ B.free)) (by rw [Heap.size_push, hz]) fun b o x => Heap.get?_push_of_some _ (Heap.get?_push_of_some _ x)⟩
end

/-- N pairs, while G holds -/
def Itp (N : Nat) (G : Hp → Prop) (xs ys : Nat → Option V) : L2.It :=
  ⟨fun i H => i < N ∧ G H, fun i H v H' => ∃ T x y, v = .ref T ∧ H T = none ∧ H' = upd H T (.tup [x, y]) ∧ xs i = some x ∧ ys i = some y, fun i H => i = N ∧ G H⟩
theorem walk_pairs {N : Nat} {G : Hp → Prop} {xs ys : Nat → Option V} : Walk (Itp N G xs ys) N G (YPair xs ys) :=
  ⟨fun _ _ hi g => ⟨hi, g⟩, fun _ g => ⟨rfl, g⟩, fun _ _ _ _ _ _ y => y⟩
/-- such an iterator, by the library's walks at each turn -/
theorem turn_pairs {P : Program} {w : World} {K : PySem.W.Frag} {elts : List Expr} {kk : Nat} {tpos : Pos} {N : Nat} {G : Hp → Prop} {xs ys : Nat → Option V} {fp : List Addr} {it : Addr} {tn : Nat → Heap → Prop} (hm : it ∈ fp)
    (ho : ∀ i h, tn i h → ∀ b ∈ fp, ∃ o, h.get? b = some o ∧ ∀ v, o.data ≠ .cell v)
    (hk : ∀ i h h', tn i h → (∀ b ∈ fp, ∀ o, h.get? b = some o → h'.get? b = some o) → tn i h')
    (hw : ∀ (X : Cx), X.prog = P → X.w = w → X.K = K → X.calm = true → ∀ (pins : List (Addr × Obj)) (s : Shared) (σ : L2.St) (H : Hp), Inv X pins σ H s → G H →
      ∃ fq wr Pt St Mid, WalksT P w X.A it fq wr N Pt St Mid ∧ (∀ b ∈ wr, b ∈ fp) ∧ (∀ i, tn i s.heap → St i s.heap) ∧ (∀ i h, St i h → tn i h) ∧ ∀ i vals, Pt i vals → ∃ x y, Vals [x, y] vals.toList ∧ xs i = some x ∧ ys i = some y)
    (hs : ∀ (A : Around) (i : Nat) (s : Shared) (Q : Value → Shared → Prop) (E : Value → Shared → Prop), tn i s.heap → Q (.ref it) s → wpAny (model P w) A (pyIter (.ref it)) Q E s) :
    Turn P w K (.Tuple elts kk tpos) (Itp N G xs ys) fp it tn where
  mem := hm
  obj := ho
  keep := hk
  item := by
    intro X hP hW hK hc i pins s σ H E I hf st hg
    obtain ⟨fq, wr, Pt, St, Mid, W, hwr, s1, s2, s3⟩ := hw X hP hW hK hc pins s σ H I hg.2
    refine W.item i s _ _ hg.1 (s1 i st) fun T vals h' tk hP' hT isT mid keep => ?_
    obtain ⟨x, y, rv, ex, ey⟩ := s3 i vals hP'
    refine ⟨_, rfl, W.go elts kk tpos i T _ _ _ mid fun h'' st' keep2 => ?_⟩
    have isT2 : IsTup h'' T vals := by
      obtain ⟨o, e1, e2⟩ := isT
      exact ⟨o, keep2 T o (W.apart i T h' mid) e1, e2⟩
    have ev : vals = vals.toList.toArray := by simp
    have new : ObjOk X.prog X.w (upd H T (.tup [x, y])) h'' T (.tup [x, y]) := ⟨by show 2 ≤ sizeLine; decide, vals.toList, rv, by rw [← ev]; exact isT2⟩
    have I1 : Inv X pins σ (upd H T (.tup [x, y])) { s with heap := h'', toks := tk } :=
      I.turnedNew (t' := tk) (ch := fp) (fun b ob hb q => keep2 b ob (fun z => hb (hwr b z)) (keep b ob (fun z => hb (hwr b z)) q)) hf hT new
    refine ⟨.ref T, _, I1, rfl, ⟨T, x, y, rfl, I.hok.fresh hT, rfl, ex, ey⟩, s2 _ _ st', fun b hb => ?_⟩
    obtain ⟨o, e, _⟩ := ho i s.heap st b hb
    rw [upd_ne (Nat.ne_of_lt (Nat.lt_of_lt_of_le (Heap.lt_size e) hT))]
    exact (hf b hb).1
  done := by
    intro X hP hW hK hc i pins s σ H E I hf st hg
    obtain ⟨fq, wr, Pt, St, Mid, W, hwr, s1, s2, s3⟩ := hw X hP hW hK hc pins s σ H I hg.2
    obtain ⟨rfl, _⟩ := hg
    exact W.done s _ _ (s1 _ st) fun h' tk keep => ⟨rfl, I.turnedL (t' := tk) (ch := fp) (fun b o hb q => keep b o (fun z => hb (hwr b z)) q) hf⟩
  self := hs

/-- a list (k = true) or a tuple -/
def SqA (K : PySem.W.Frag) (k : Bool) (H : Hp) (a : Addr) (xs : List V) : Prop := if k = true then SqL K H a xs else SqT K H a xs
def ItA (k : Bool) (h : Heap) (it a : Addr) (i : Nat) : Prop := if k = true then h.IsListIter it a i else h.IsTupleIter it a i
def HasA (k : Bool) (h : Heap) (a : Addr) (its : Array Value) : Prop := if k = true then h.IsList a its else h.IsTuple a its
def objA (k : Bool) (a : Addr) : Obj := { cls := .type (if k = true then "list_iterator" else "tuple_iterator"), data := .fields #[.ref a, .int 0 0] }
theorem ItA.obj {k : Bool} {h : Heap} {it a : Addr} {i : Nat} (x : ItA k h it a i) : ∃ o, h.get? it = some o ∧ ∀ v, o.data ≠ .cell v := by
  cases k
  · obtain ⟨o, e, c, d⟩ := (show h.IsTupleIter it a i from x)
    exact ⟨o, e, fun v z => by rw [d] at z; cases z⟩
  · obtain ⟨o, e, c, d⟩ := (show h.IsListIter it a i from x)
    exact ⟨o, e, fun v z => by rw [d] at z; cases z⟩
theorem ItA.at {k : Bool} {h h' : Heap} {it a : Addr} {i : Nat} (x : ItA k h it a i) (e : ∀ o, h.get? it = some o → h'.get? it = some o) : ItA k h' it a i := by
  cases k
  · exact (show h.IsTupleIter it a i from x).at e
  · exact (show h.IsListIter it a i from x).at e
theorem ItA.start {k : Bool} {h : Heap} {it a : Addr} (e : h.get? it = some (objA k a)) : ItA k h it a 0 := by
  cases k
  · exact ⟨_, e, rfl, rfl⟩
  · exact ⟨_, e, rfl, rfl⟩
theorem begins_A (k : Bool) (a : Addr) (its : Array Value) : Begins (.ref a) (objA k a) fun h => HasA k h a its := by
  cases k
  · exact begins_tuple a its
  · exact begins_list a its
theorem draws_A {prog : Program} {w : World} {A : Around} (k : Bool) (hh : A.handled = none) (it a : Addr) (hne : a ≠ it) (its : Array Value) :
    Draws prog w A it [it, a] its.size (fun i v => its[i]? = some v) (fun i h => ItA k h it a i ∧ HasA k h a its) := by
  cases k
  · exact Draws.tuple hh it a hne its
  · exact Draws.list hh it a hne its
section
variable {X : Cx} {pins : List (Addr × Obj)} {σ : L2.St} {H : Hp} {s : Shared} {a : Addr} {xs : List V} {k : Bool}
theorem sqA_has (I : Inv X pins σ H s) (h : SqA X.K k H a xs) : ∃ its : List Value, Vals xs its ∧ HasA k s.heap a its.toArray := by
  cases k
  · obtain ⟨its, r, p, _⟩ := I.tuple (show SqT X.K H a xs from h)
    exact ⟨its, r, show s.heap.IsTuple a its.toArray from p⟩
  · obtain ⟨its, r, p, _⟩ := I.list (show SqL X.K H a xs from h)
    exact ⟨its, r, p.isList⟩
theorem HasA.lt {h : Heap} {its : Array Value} (x : HasA k h a its) : a < h.objs.size := by
  cases k
  · obtain ⟨o, e, _⟩ := (show h.IsTuple a its from x); exact Heap.lt_size e
  · obtain ⟨o, e, _⟩ := (show h.IsList a its from x); exact Heap.lt_size e
end
theorem vals_ints (n : Int) (t : Tok) {x : V} {u : Value} (r : RelV x u) : Vals [V.int n, x] [Value.int n t, u] := .cons ⟨t, rfl⟩ (.cons r .nil)

theorem turn_enumA {P : Program} {w : World} {K : PySem.W.Frag} {elts : List Expr} {kk : Nat} {tpos : Pos} (k : Bool) (a e it : Addr) (xs : List V) (hei : e ≠ it) (hae : a ≠ e) (hai : a ≠ it) :
    Turn P w K (.Tuple elts kk tpos) (Itp xs.length (fun H => SqA K k H a xs) (fun i => some (.int (i : Nat))) (fun i => xs[i]?)) [e, it] e (fun i h => (∃ old, IsEnum h e it ((i : Nat) : Int) old) ∧ ItA k h it a i) := by
  refine turn_pairs (by simp) (fun i h st b hb => ?_) (fun i h h' st kp => ?_) (fun X hP hW hK hc pins s σ H I g => ?_) (fun A i s Q E st h => ?_)
  · obtain ⟨⟨old, he⟩, q⟩ := st
    have e' : b = e ∨ b = it := by simpa using hb
    rcases e' with z | z
    · rw [z]; exact ⟨_, he, fun v q => nomatch q⟩
    · rw [z]; exact q.obj
  · obtain ⟨⟨old, he⟩, q⟩ := st
    exact ⟨⟨old, kp e (by simp) _ he⟩, q.at fun o z => kp it (by simp) o z⟩
  · subst hP hW hK
    obtain ⟨its, rv, ha⟩ := sqA_has I g
    have D := draws_A (prog := X.prog) (w := X.w) (A := X.A.in1) k (I.ok.hd hc) it a hai its.toArray
    have W := WalksT.enumFrom 0 D e hei (by simp [hei, Ne.symm hae]) (by simp)
    have hl : its.toArray.size = xs.length := by rw [List.size_toArray]; exact rv.length.symm
    rw [hl] at W
    refine ⟨_, _, _, _, _, W, fun b hb => hb, fun i st => ?_, fun i h st => ?_, fun i vals hp => ?_⟩
    · obtain ⟨⟨old, he⟩, q⟩ := st
      exact ⟨⟨old, by rw [Int.zero_add]; exact he⟩, q, ha⟩
    · obtain ⟨⟨old, he⟩, q, _⟩ := st
      rw [Int.zero_add] at he
      exact ⟨⟨old, he⟩, q⟩
    · obtain ⟨t, u, hu, rfl⟩ := hp
      have hu' : its[i]? = some u := by simpa using hu
      have hi : i < xs.length := by rw [rv.length]; exact (List.getElem?_eq_some_iff.mp hu').1
      obtain ⟨u2, h2, r2⟩ := rv.get (List.getElem?_eq_getElem hi)
      rw [hu'] at h2; cases h2
      refine ⟨.int (i : Nat), xs[i], ?_, rfl, List.getElem?_eq_getElem hi⟩
      rw [Int.zero_add]
      exact vals_ints _ _ r2
  · obtain ⟨⟨old, he⟩, _⟩ := st
    exact wpAny_pyIter_enum he h
def iEnumA (K : PySem.W.Frag) (ta : TA) : TI := fun σ H R => ta σ H fun vs H1 => ∃ k a xs, vs = [.ref a] ∧ SqA K k H1 a xs ∧ R (Itp xs.length (fun H => SqA K k H a xs) (fun i => some (.int (i : Nat))) (fun i => xs[i]?)) H1
theorem pi_enumA {X : Cx} {e : Expr} {ta : TA} {p pos tpos : Pos} {elts : List Expr} {kk : Nat} (hg : Gl X "enumerate") (hm : X.mg "enumerate" = none) (ha : PA X [e] ta) (hs : starEach [e] X.env = [(false, eval e X.env)]) :
    PI X (.Tuple elts kk tpos) (.Call (.Name "enumerate" p) [e] [] pos) (iEnumA X.K ta) := by
  refine ⟨fun pins s σ H R I h => ?_⟩
  refine Call_ (ld_blt I hg hm boot_enumerate (PyProof.Rows.callWith_type1 (thn (ha.run pos pins s σ H _ I h) fun us s1 ⟨vs, H1, I1, r1, q1⟩ => ?_) hs rfl))
  obtain ⟨k, a, xs, ex, hq, q⟩ := q1
  subst ex
  cases r1 with
  | cons r rr =>
    cases rr
    cases r
    obtain ⟨its, rv, ha'⟩ := sqA_has I1 hq
    have hal := ha'.lt
    refine enum_call1 (begins_A k a its.toArray) ha' fun h' he hit hsz hk => wpAny_pyIter_enum he ?_
    have I2 : Inv X pins σ H1 { s1 with heap := h' } := I1.kept (t' := s1.toks) hk
    have n1 : (s1.heap.objs.size + 1 : Nat) ≠ s1.heap.objs.size := by omega
    have n2 : a ≠ (s1.heap.objs.size + 1 : Nat) := Nat.ne_of_lt (Nat.lt_succ_of_lt hal)
    have n3 : a ≠ s1.heap.objs.size := Nat.ne_of_lt hal
    refine ⟨s1.heap.objs.size + 1, [s1.heap.objs.size + 1, s1.heap.objs.size], _, _, H1, rfl, I2, turn_enumA k a (s1.heap.objs.size + 1) s1.heap.objs.size xs n1 n2 n3, ⟨⟨.none, he⟩, ItA.start hit⟩, fun b hb => ?_, q⟩
    have e' : b = s1.heap.objs.size + 1 ∨ b = s1.heap.objs.size := by simpa using hb
    have hle : s1.heap.objs.size ≤ b := by
      rcases e' with z | z
      · rw [z]; exact Nat.le_add_right _ _
      · rw [z]; exact Nat.le_refl _
    exact I1.fpOk hle (I1.hok.fresh hle)

/-! ### zip -/
structure Apart5 (z TI TO i1 i2 a b : Addr) : Prop where
  s : ZipSep2 z TI TO i1 i2 [i1, a] [i2, b]
  a1 : a ≠ i1
  b2 : b ≠ i2
theorem turn_zipA {P : Program} {w : World} {K : PySem.W.Frag} {elts : List Expr} {kk : Nat} {tpos : Pos} (k1 k2 : Bool) (a b z TI TO i1 i2 : Addr) (xs ys : List V) (D : Apart5 z TI TO i1 i2 a b) :
    Turn P w K (.Tuple elts kk tpos) (Itp (min xs.length ys.length) (fun H => SqA K k1 H a xs ∧ SqA K k2 H b ys) (fun i => xs[i]?) (fun i => ys[i]?)) [z, TI, TO, i1, i2] z
      (fun i h => IsZip h z TI TO .none ∧ IsTupOf2 h TI (.ref i1) (.ref i2) ∧ (∃ x y, IsTupOf2 h TO x y) ∧ ItA k1 h i1 a i ∧ ItA k2 h i2 b i) := by
  refine turn_pairs (by simp) (fun i h st c hc => ?_) (fun i h h' st kp => ?_) (fun X hP hW hK hc pins s σ H I g => ?_) (fun A i s Q E st h => ?_)
  · obtain ⟨hz, hTI, ⟨x, y, hTO⟩, h1, h2⟩ := st
    have e' : c = z ∨ c = TI ∨ c = TO ∨ c = i1 ∨ c = i2 := by simpa using hc
    rcases e' with q | q | q | q | q
    · rw [q]; exact ⟨_, hz, fun v q => nomatch q⟩
    · rw [q]; exact ⟨_, hTI, fun v q => nomatch q⟩
    · rw [q]; exact ⟨_, hTO, fun v q => nomatch q⟩
    · rw [q]; exact h1.obj
    · rw [q]; exact h2.obj
  · obtain ⟨hz, hTI, ⟨x, y, hTO⟩, h1, h2⟩ := st
    exact ⟨kp z (by simp) _ hz, kp TI (by simp) _ hTI, ⟨x, y, kp TO (by simp) _ hTO⟩, h1.at fun o q => kp i1 (by simp) o q, h2.at fun o q => kp i2 (by simp) o q⟩
  · subst hP hW hK
    obtain ⟨its, rv, ha⟩ := sqA_has I g.1
    obtain ⟨its2, rv2, hb⟩ := sqA_has I g.2
    have D1 := draws_A (prog := X.prog) (w := X.w) (A := X.A.in1) k1 (I.ok.hd hc) i1 a D.a1 its.toArray
    have D2 := draws_A (prog := X.prog) (w := X.w) (A := X.A.in1) k2 (I.ok.hd hc) i2 b D.b2 its2.toArray
    have W := WalksT.zipD2 D.s D1 D2
    have hl : its.toArray.size = xs.length := by rw [List.size_toArray]; exact rv.length.symm
    have hl2 : its2.toArray.size = ys.length := by rw [List.size_toArray]; exact rv2.length.symm
    rw [hl, hl2] at W
    refine ⟨_, _, _, _, _, W, fun c hc => ?_, fun i st => ?_, fun i h st => ?_, fun i vals hp => ?_⟩
    · have e' : c = z ∨ c = TO ∨ c = i1 ∨ c = i2 := by simpa using hc
      rcases e' with q | q | q | q <;> rw [q] <;> simp
    · obtain ⟨h1, h2, h3, h4, h5⟩ := st
      exact ⟨h1, h2, h3, ⟨h4, ha⟩, h5, hb⟩
    · obtain ⟨h1, h2, h3, ⟨h4, _⟩, h5, _⟩ := st
      exact ⟨h1, h2, h3, h4, h5⟩
    · obtain ⟨u, v, hu, hv, rfl⟩ := hp
      have hu' : its[i]? = some u := by simpa using hu
      have hv' : its2[i]? = some v := by simpa using hv
      have hi : i < xs.length := by rw [rv.length]; exact (List.getElem?_eq_some_iff.mp hu').1
      have hj : i < ys.length := by rw [rv2.length]; exact (List.getElem?_eq_some_iff.mp hv').1
      obtain ⟨u2, h2, r2⟩ := rv.get (List.getElem?_eq_getElem hi)
      obtain ⟨v2, h3, r3⟩ := rv2.get (List.getElem?_eq_getElem hj)
      rw [hu'] at h2; cases h2
      rw [hv'] at h3; cases h3
      exact ⟨xs[i], ys[i], .cons r2 (.cons r3 .nil), List.getElem?_eq_getElem hi, List.getElem?_eq_getElem hj⟩
  · exact wpAny_pyIter_zip st.1 h
def iZipB (K : PySem.W.Frag) (ta : TA) : TI := fun σ H R => ta σ H fun vs H1 => ∃ k1 k2 a b xs ys, vs = [.ref a, .ref b] ∧ (SqA K k1 H1 a xs ∧ SqA K k2 H1 b ys) ∧ R (Itp (min xs.length ys.length) (fun H => SqA K k1 H a xs ∧ SqA K k2 H b ys) (fun i => xs[i]?) (fun i => ys[i]?)) H1
theorem pi_zipB {X : Cx} {e e2 : Expr} {ta : TA} {p pos tpos : Pos} {elts : List Expr} {kk : Nat} (hg : Gl X "zip") (hm : X.mg "zip" = none) (ha : PA X [e, e2] ta)
    (hs : starEach [e, e2] X.env = (false, eval e X.env) :: starEach [e2] X.env) (hpl : (backTo pos (starEach [e2] X.env)).any (·.1) = false) :
    PI X (.Tuple elts kk tpos) (.Call (.Name "zip" p) [e, e2] [] pos) (iZipB X.K ta) := by
  refine ⟨fun pins s σ H R I h => ?_⟩
  refine Call_ (ld_blt I hg hm PyProof.Rows.boot_zip (PyProof.Rows.callWith_type1 (thn (ha.run pos pins s σ H _ I h) fun us s1 ⟨vs, H1, I1, r1, q1⟩ => ?_) hs hpl))
  obtain ⟨k1, k2, a, b, xs, ys, ex, ⟨hq, hq2⟩, q⟩ := q1
  subst ex
  cases r1 with
  | cons r rr =>
    cases rr with
    | cons r' rr =>
      cases rr
      cases r
      cases r'
      obtain ⟨its, rv, ha'⟩ := sqA_has I1 hq
      obtain ⟨its2, rv2, hb'⟩ := sqA_has I1 hq2
      have hal := ha'.lt
      have hbl := hb'.lt
      refine zip_begins2 (begins_A k1 a its.toArray) (begins_A k2 b its2.toArray) ha' hb' fun h' hz hTI hTO h1 h2 hsz hk => wpAny_pyIter_zip hz ?_
      have I2 : Inv X pins σ H1 { s1 with heap := h' } := I1.kept (t' := s1.toks) hk
      have AP : Apart5 (s1.heap.objs.size + 4) (s1.heap.objs.size + 2) (s1.heap.objs.size + 3) s1.heap.objs.size (s1.heap.objs.size + 1) a b :=
        ⟨zip_sep2 (by simpa using hal) (by simpa using hbl), Nat.ne_of_lt hal, Nat.ne_of_lt (Nat.lt_succ_of_lt hbl)⟩
      refine ⟨s1.heap.objs.size + 4, [s1.heap.objs.size + 4, s1.heap.objs.size + 2, s1.heap.objs.size + 3, s1.heap.objs.size, s1.heap.objs.size + 1], _, _, H1, rfl, I2, turn_zipA k1 k2 a b _ _ _ _ _ xs ys AP, ⟨hz, hTI, ⟨_, _, hTO⟩, ItA.start h1, ItA.start h2⟩, fun c hcm => ?_, q⟩
      have e' : c = s1.heap.objs.size + 4 ∨ c = s1.heap.objs.size + 2 ∨ c = s1.heap.objs.size + 3 ∨ c = s1.heap.objs.size ∨ c = s1.heap.objs.size + 1 := by simpa using hcm
      have hle : s1.heap.objs.size ≤ c := by
        rcases e' with z | z | z | z | z <;> rw [z] <;> first | exact Nat.le_refl _ | exact Nat.le_add_right _ _
      exact I1.fpOk hle (I1.hok.fresh hle)
end EV

/-! EvE: our expressions are the machine's. -/
namespace EV
open PySem PySem.Spec PyProof.Rows L2

/-- what stays the same through a def: the names of defs, of constants, of brought-in built-ins, the slots; the calls, the constants, the turns that a while may take, the room -/
structure Sig where
  fs : List Str
  gs : List Str
  im : List B
  N : List Str
  cf : Nat → List W → Mem → Option (W × Mem)
  G : List PyData
  wf : Nat
  k : Nat
abbrev Sig.ev (Z : Sig) : E → Loc → Mem → Option (W × Mem) := evalE Z.cf Z.G Z.wf
abbrev Sig.evs (Z : Sig) : Es → Loc → Mem → Option (List W × Mem) := evalEs Z.cf Z.G Z.wf
abbrev Sig.evb (Z : Sig) : Bool → Es → Loc → Mem → Option (W × Mem) := evalB Z.cf Z.G Z.wf
abbrev Sig.evi (Z : Sig) : It → Loc → Mem → Option (Src × Mem) := evalIt Z.cf Z.G Z.wf

inductive ValRs (K : PySem.W.Frag) (F : Hp) (μ : List Addr) : List W → List V → Prop
  | nil : ValRs K F μ [] []
  | cons {w : W} {ws : List W} {v : V} {vs : List V} : ValR K F μ w v → ValRs K F μ ws vs → ValRs K F μ (w :: ws) (v :: vs)
theorem ValRs.mono {K : PySem.W.Frag} {H F H1 F1 : Hp} {μ μ1 : List Addr} (e : Ext H F μ H1 F1 μ1) : ∀ {ws : List W} {vs : List V}, ValRs K F μ ws vs → ValRs K F1 μ1 ws vs
  | _, _, .nil => .nil
  | _, _, .cons a b => .cons (a.mono e) (ValRs.mono e b)
theorem ValRs.length {K : PySem.W.Frag} {F : Hp} {μ : List Addr} : ∀ {ws : List W} {vs : List V}, ValRs K F μ ws vs → ws.length = vs.length
  | _, _, .nil => rfl
  | _, _, .cons _ b => congrArg (· + 1) b.length
/-- what a def promises -/
def spF (K : PySem.W.Frag) (ar : Nat) (c : List W → Mem → Option (W × Mem)) : Sp := fun vs H Q _ => vs.length = ar ∧ ∃ F μ M ws w M', Rel K H F μ M ∧ ValRs K F μ ws vs ∧ c ws M = some (w, M') ∧
  ∀ v H' F' μ', Ext H F μ H' F' μ' → Rel K H' F' μ' M' → ValR K F' μ' w v → Q v H'

def bltNames : List Str := ["len", "abs", "int", "all", "any", "sum", "tuple", "list", "max", "min", "isinstance", "range", "enumerate", "zip", "str", "bool"]
structure Ctx (Z : Sig) (X : Cx) (sc : Scope) : Prop where
  kind : X.env.scope.kind = .function
  vis : ∀ x, isVis sc x = true → Vis X.env.scope x
  loc : ∀ x, isLoc sc x = true → L2.Loc X.env.scope x
  lcl : ∀ x, isLocal sc x = true → X.env.scope.names.lookup x = some .local
  gl : ∀ x, isGl sc x = true → Gl X x ∧ (x == ("__debug__" : Str)) = false
  frc : ∀ x, (sc.names.lookup x = some .cell ∨ sc.names.lookup x = some .free) → (X.env.scope.names.lookup x = some .cell ∨ X.env.scope.names.lookup x = some .free)
  fnc : ∀ x, isLoc sc x = true → X.fn x = true ∨ X.env.scope.names.lookup x = some .local
  names : X.N = Z.N
  nd : Z.N.Nodup
  calm : X.calm = true
  xe : X.xe = fun _ _ => False
  room : Room Z.k X.A
  fns : ∀ (f : Nat) (x : Str), Z.fs[f]? = some x → ∃ a fd ps ar, X.mg x = some (.ref a) ∧ PySem.W.keepIn X.K (.ref a) = true ∧ FnOk X.prog X.w X.K X.mg X.base CX0 Z.k a fd ps (spF X.K ar (Z.cf f)) ∧ Binds X.K fd ps [] ∧ (∀ ws M r, Z.cf f ws M = some r → ws.length = ar)
  gls : ∀ (i : Nat) (x : Str), Z.gs[i]? = some x → ∃ d v u, Z.G[i]? = some d ∧ X.mg x = some u ∧ RelV v u ∧ ∀ F, Dq X.K F v d
  blt : ∀ x ∈ bltNames, X.mg x = none
  imp : ∀ b ∈ Z.im, X.mg (bName b) = some (bFn b)

/-! ### soundness, told -/
def SE (Z : Sig) (X : Cx) (pe : Expr) (e : E) : Prop := ∃ t, PE X pe t ∧ ∀ σ H F μ ρ M w M' (Q : VK), Rel X.K H F μ M → LocR X.K F μ ρ σ → Z.ev e ρ M = some (w, M') →
  (∀ v H' F' μ', Ext H F μ H' F' μ' → Rel X.K H' F' μ' M' → ValR X.K F' μ' w v → Q v H') → t σ H Q
def ST (Z : Sig) (X : Cx) (pe : Expr) (e : E) : Prop := ∃ t, PT X pe t ∧ ∀ σ H F μ ρ M b M' (Q : Bool → Hp → Prop), Rel X.K H F μ M → LocR X.K F μ ρ σ → testOf (Z.ev e ρ M) = some (b, M') →
  (∀ H' F' μ', Ext H F μ H' F' μ' → Rel X.K H' F' μ' M' → Q b H') → t σ H Q
def SA (Z : Sig) (X : Cx) (pes : List Expr) (es : Es) : Prop := ∃ t, PA X pes t ∧ (∀ ρ M ws M', Z.evs es ρ M = some (ws, M') → ws.length = pes.length) ∧ ∀ σ H F μ ρ M ws M' (Q : List V → Hp → Prop), Rel X.K H F μ M → LocR X.K F μ ρ σ → Z.evs es ρ M = some (ws, M') →
  (∀ vs H' F' μ', Ext H F μ H' F' μ' → Rel X.K H' F' μ' M' → ValRs X.K F' μ' ws vs → Q vs H') → t σ H Q

section
variable {Z : Sig} {X : Cx} {sc : Scope}
theorem SE.of {pe : Expr} {e : E} (h : SE Z X pe e) : SE Z X pe e := h
theorem tame_star {pe : Expr} (h : tame pe = true) (ps : List Expr) (env : PySem.Env) : starEach (pe :: ps) env = (false, eval pe env) :: starEach ps env := by
  cases pe <;> first | rfl | cases h
theorem tame_plainIx {pe : Expr} (h : tame pe = true) : PlainIx pe := by
  intro o i
  cases pe <;> first | rfl | cases h
theorem tame_marks {pe : Expr} (h : tame pe = true) (op : CmpOp) : behindInMarks op pe = false := by
  cases pe <;> first | rfl | cases h
theorem tame_fold {pe : Expr} (h : tame pe = true) (env : PySem.Env) (x : Value) : foldedSetIterable pe env x = pure x := by
  cases pe <;> first | rfl | cases h
theorem tames_star : ∀ {pes : List Expr}, pes.all tame = true → ∀ env : PySem.Env, starEach pes env = pes.map fun p => (false, eval p env)
  | [], _, _ => rfl
  | p :: ps, h, env => by
    rw [List.all_cons, Bool.and_eq_true] at h
    rw [tame_star h.1, tames_star h.2, List.map_cons]
theorem tames_plain {pes : List Expr} (h : pes.all tame = true) (env : PySem.Env) (pos : Pos) : (backTo pos (starEach pes env)).any (·.1) = false := by
  rw [tames_star h]
  unfold backTo
  rw [List.map_map, List.any_map, List.any_eq_false]
  intro p _
  simp

/-! ### the smallest -/
theorem se_var (C : Ctx Z X sc) {i : Nat} {x : Str} {pos : Pos} (h1 : Z.N[i]? = some x) (h2 : isVis sc x = true) (h3 : dunder x = false) : SE Z X (.Name x pos) (.var i) := by
  have hd : (x == ("__debug__" : Str)) = false ∧ (x == ("__classdict__" : Str)) = false := by
    unfold dunder at h3
    exact Bool.or_eq_false_iff.mp h3
  refine ⟨_, pe_var (by rw [C.names]; exact h1) (C.vis x h2) hd.1 hd.2, fun σ H F μ ρ M w M' Q r l e q => ?_⟩
  simp only [Sig.ev, evalE] at e
  split at e
  · rename_i u hu
    cases e
    obtain ⟨v, hv, rv⟩ := l.2 i w hu
    exact ⟨v, hv, q v H F μ Ext.refl r rv⟩
  · cases e
theorem lit_pe {x : PyData} {c : Const} {j : Nat} {pos : Pos} (h : litOk x c = true) : ∃ v, PE X (.Constant c j pos) (tC v) ∧ ∀ K F, Dq K F v x := by
  cases x <;> cases c <;> try (cases h; done)
  case none.none => exact ⟨_, pe_non, fun _ _ => .non⟩
  case bool.bool a b =>
    have : a = b := eq_of_beq h
    subst this
    exact ⟨_, pe_bl, fun _ _ => .bl _⟩
  case int.int a b =>
    have : a = b := of_decide_eq_true h
    subst this
    exact ⟨_, pe_int, fun _ _ => .int _⟩
  case str.str a b =>
    have : a = b := of_decide_eq_true h
    subst this
    exact ⟨_, pe_str, fun _ _ => .str _⟩
theorem se_lit {x : PyData} {c : Const} {j : Nat} {pos : Pos} (h : litOk x c = true) : SE Z X (.Constant c j pos) (.lit x) := by
  obtain ⟨v, p, d⟩ := lit_pe (X := X) (j := j) (pos := pos) h
  refine ⟨_, p, fun σ H F μ ρ M w M' Q r l e q => ?_⟩
  have e : some (W.d x, M) = some (w, M') := e
  cases e
  exact q v H F μ Ext.refl r (d _ _)
theorem se_glb (C : Ctx Z X sc) {i : Nat} {x : Str} {pos : Pos} (h1 : Z.gs[i]? = some x) (h2 : isGl sc x = true) : SE Z X (.Name x pos) (.glb i) := by
  obtain ⟨d, v, u, hg, hm, hr, hd⟩ := C.gls i x h1
  obtain ⟨g1, g2⟩ := C.gl x h2
  refine ⟨_, pe_glob g1 hm hr g2, fun σ H F μ ρ M w M' Q r l e q => ?_⟩
  simp only [Sig.ev, evalE, hg] at e
  cases e
  exact q v H F μ Ext.refl r (hd F)

/-! ### argument lists -/
theorem sa_nil : SA Z X [] .nil := by
  refine ⟨_, pa_nil, fun ρ M ws M' e => by (have e : some (([] : List W), M) = some (ws, M') := e); cases e; rfl, fun σ H F μ ρ M ws M' Q r l e q => ?_⟩
  have e : some (([] : List W), M) = some (ws, M') := e
  cases e
  exact q [] H F μ Ext.refl r .nil
theorem sa_cons {pe : Expr} {e : E} {ps : List Expr} {es : Es} (h : SE Z X pe e) (ht : tame pe = true) (hs : SA Z X ps es) : SA Z X (pe :: ps) (.cons e es) := by
  obtain ⟨t, p, f⟩ := h
  obtain ⟨ts, pp, gl, g⟩ := hs
  refine ⟨_, pa_cons p pp (tame_star ht ps X.env), fun ρ M ws M' ev => ?_, fun σ H F μ ρ M ws M' Q r l ev q => ?_⟩
  · simp only [Sig.evs, evalEs] at ev
    split at ev
    · rename_i w M1 e1
      split at ev
      · rename_i ws' M2 e2
        cases ev
        rw [List.length_cons, List.length_cons, gl _ _ _ _ e2]
      · cases ev
    · cases ev
  simp only [Sig.evs, evalEs] at ev
  split at ev
  · rename_i w M1 e1
    split at ev
    · rename_i ws' M2 e2
      cases ev
      refine f σ H F μ ρ M w M1 _ r l e1 fun v H1 F1 μ1 x1 r1 v1 => ?_
      refine g σ H1 F1 μ1 ρ M1 ws' M' _ r1 (l.mono x1) e2 fun vs H2 F2 μ2 x2 r2 v2 => ?_
      exact q (v :: vs) H2 F2 μ2 (x1.trans x2 r2.nd) r2 (.cons (v1.mono x2) v2)
    · cases ev
  · cases ev
theorem plain_dqs {K : PySem.W.Frag} {F : Hp} {μ : List Addr} : ∀ {ws : List W} {vs : List V} {xs : List PyData}, ValRs K F μ ws vs → plain ws = some xs → Dqs K F vs xs
  | [], _, xs, .nil, e => by cases e; exact .nil
  | w :: ws, _, xs, .cons a b, e => by
    cases w with
    | d x =>
      obtain ⟨ys, e1, rfl⟩ := Option.map_eq_some_iff.mp (show (plain ws).map (x :: ·) = some xs from e)
      exact .cons a (plain_dqs b e1)
    | m i => cases e
    | r ns => cases e
theorem derefs_dxs {K : PySem.W.Frag} {H F : Hp} {μ : List Addr} {M : Mem} (r : Rel K H F μ M) : ∀ {ws : List W} {vs : List V} {xs : List PyData}, ValRs K F μ ws vs → derefs ws M = some xs → Dxs K H F vs xs
  | [], _, xs, .nil, e => by cases e; exact .nil
  | w :: ws, _, xs, .cons a b, e => by
    simp only [derefs] at e
    split at e
    · rename_i x ys e1 e2
      cases e
      exact .cons (Dx.at r a e1) (derefs_dxs r b e2)
    · cases e
theorem se_tup {ps : List Expr} {es : Es} {k : Nat} {pos : Pos} (h : SA Z X ps es) : SE Z X (.Tuple ps k pos) (.tup es) := by
  obtain ⟨t, p, _, f⟩ := h
  refine ⟨_, pe_tup p, fun σ H F μ ρ M w M' Q r l ev q => ?_⟩
  simp only [Sig.ev, evalE] at ev
  split at ev
  · rename_i ws M1 e1
    split at ev
    · rename_i xs e2
      split at ev
      · rename_i hz
        cases ev
        refine f σ H F μ ρ M ws M' _ r l e1 fun vs H1 F1 μ1 x1 r1 v1 => ?_
        have d := plain_dqs v1 e2
        refine ⟨by rw [d.length]; exact hz, fun a ha => ?_⟩
        obtain ⟨F2, μ2, x2, r2, v2⟩ := Res.fin (mu := false) (fl := false) r1 (.tup ha d) rfl (fun h => nomatch h)
        exact q _ _ F2 μ2 (x1.trans x2 r2.nd) r2 v2
      · cases ev
    · cases ev
  · cases ev
theorem se_lst {ps : List Expr} {es : Es} {mu : Bool} {pos : Pos} (h : SA Z X ps es) : SE Z X (.List ps pos) (.lst mu es) := by
  obtain ⟨t, p, _, f⟩ := h
  refine ⟨_, pe_lst p, fun σ H F μ ρ M w M' Q r l ev q => ?_⟩
  simp only [Sig.ev, evalE] at ev
  split at ev
  · rename_i ws M1 e1
    split at ev
    · rename_i xs e2
      split at ev
      · rename_i hz
        refine f σ H F μ ρ M ws M1 _ r l e1 fun vs H1 F1 μ1 x1 r1 v1 => ?_
        have d := plain_dqs v1 e2
        refine ⟨by rw [d.length]; exact hz, fun a ha => ?_⟩
        obtain ⟨F2, μ2, x2, r2, v2⟩ := Res.fin (fl := false) r1 (.lst ha d) ev (fun _ => rfl)
        exact q _ _ F2 μ2 (x1.trans x2 r2.nd) r2 v2
      · cases ev
    · cases ev
  · cases ev

/-! ### two operands -/
theorem two_go {pa pb : Expr} {a b : E} {ta tb : TE} {mu : Bool} {p : P2} {fl : Bool} {rr : R2}
    (fa : ∀ σ H F μ ρ M w M' (Q : VK), Rel X.K H F μ M → LocR X.K F μ ρ σ → Z.ev a ρ M = some (w, M') → (∀ v H' F' μ', Ext H F μ H' F' μ' → Rel X.K H' F' μ' M' → ValR X.K F' μ' w v → Q v H') → ta σ H Q)
    (fb : ∀ σ H F μ ρ M w M' (Q : VK), Rel X.K H F μ M → LocR X.K F μ ρ σ → Z.ev b ρ M = some (w, M') → (∀ v H' F' μ', Ext H F μ H' F' μ' → Rel X.K H' F' μ' M' → ValR X.K F' μ' w v → Q v H') → tb σ H Q)
    (s : ∀ {H F : Hp} {x y : V} {dx dy d : PyData} {Q : VK}, Sub F H → (if p = .ix then DxR X.K H F x dx else Dx X.K H F x dx) → Dx X.K H F y dy → prim2 p dx dy = some d → (∀ v H', Res X.K H F fl d v H' → Q v H') → rr x y H Q) (hm : mu = true → fl = false) :
    ∀ σ H F μ ρ M w M' (Q : VK), Rel X.K H F μ M → LocR X.K F μ ρ σ → Z.ev (.op2 mu p a b) ρ M = some (w, M') → (∀ v H' F' μ', Ext H F μ H' F' μ' → Rel X.K H' F' μ' M' → ValR X.K F' μ' w v → Q v H') → tOp rr ta tb σ H Q := by
  intro σ H F μ ρ M w M' Q r l ev q
  simp only [Sig.ev, evalE] at ev
  split at ev
  · rename_i u M1 e1
    split at ev
    · rename_i v M2 e2
      split at ev
      · rename_i x y d1 d2
        split at ev
        · rename_i z e3
          refine fa σ H F μ ρ M u M1 _ r l e1 fun v1 H1 F1 μ1 x1 r1 w1 => ?_
          refine fb σ H1 F1 μ1 ρ M1 v M2 _ r1 (l.mono x1) e2 fun v2 H2 F2 μ2 x2 r2 w2 => ?_
          refine s r2.sub ?_ (Dx.at r2 w2 d2) e3 fun v3 H3 z3 => ?_
          · split at d1
            · rename_i hp
              rw [if_pos hp]
              exact DxR.at r2 (w1.mono x2) d1
            · rename_i hp
              rw [if_neg hp]
              exact Dx.at r2 (w1.mono x2) d1
          · obtain ⟨F3, μ3, x3, r3, v4⟩ := Res.fin r2 z3 ev hm
            exact q _ _ F3 μ3 ((x1.trans x2 r2.nd).trans x3 r3.nd) r3 v4
        · cases ev
      · cases ev
    · cases ev
  · cases ev
theorem ser_wide {p : P2} {rr : R2} (h : Sup2 X.K p rr) (hp : p ≠ .ix) {H F : Hp} {x y : V} {dx dy d : PyData} {Q : VK} (s : Sub F H) (hx : if p = .ix then DxR X.K H F x dx else Dx X.K H F x dx) (hy : Dx X.K H F y dy) (e : prim2 p dx dy = some d) (q : ∀ v H', Res X.K H F false d v H' → Q v H') : rr x y H Q := by
  rw [if_neg hp] at hx
  exact h s hx hy e q
theorem se_bin {pa pb : Expr} {a b : E} {mu : Bool} {p : P2} {o : Operator} {pos : Pos} (ha : SE Z X pa a) (hb : SE Z X pb b) (s : Ser2 X p (binaryOp o)) (hp : p ≠ .ix) : SE Z X (.BinOp pa o pb pos) (.op2 mu p a b) := by
  obtain ⟨ta, p1, fa⟩ := ha
  obtain ⟨tb, p2, fb⟩ := hb
  obtain ⟨rr, o1, o2⟩ := s
  exact ⟨_, pe_op o1 p1 p2, two_go (pa := pa) (pb := pb) (fl := false) fa fb (fun s hx hy e q => ser_wide o2 hp s hx hy e q) fun _ => rfl⟩
theorem se_cmp {pa pb : Expr} {a b : E} {p : P2} {o : CmpOp} {pos : Pos} (ha : SE Z X pa a) (hb : SE Z X pb b) (s : Ser2 X p (compareOp o)) (hp : p ≠ .ix) (ht : tame pb = true) : SE Z X (.Compare pa [o] [pb] pos) (.op2 false p a b) := by
  obtain ⟨ta, p1, fa⟩ := ha
  obtain ⟨tb, p2, fb⟩ := hb
  obtain ⟨rr, o1, o2⟩ := s
  exact ⟨_, pe_cmpR o1 p1 p2 (tame_marks ht o), two_go (pa := pa) (pb := pb) (fl := false) fa fb (fun s hx hy e q => ser_wide o2 hp s hx hy e q) fun _ => rfl⟩
theorem se_ix {pa pb : Expr} {a b : E} {pos : Pos} (ha : SE Z X pa a) (hb : SE Z X pb b) (ht : tame pb = true) : SE Z X (.Subscript pa pb pos) (.op2 false .ix a b) := by
  obtain ⟨ta, p1, fa⟩ := ha
  obtain ⟨tb, p2, fb⟩ := hb
  obtain ⟨rr, o1, o2⟩ := ser_ix (X := X)
  refine ⟨_, pe_ix o1 p1 p2 (tame_plainIx ht), two_go (pa := pa) (pb := pb) (fl := true) fa fb (fun s hx hy e q => ?_) fun h => nomatch h⟩
  rw [if_pos rfl] at hx
  exact o2 s hx hy e q

/-! ### tests -/
theorem testOf_eq {r : Option (W × Mem)} {b : Bool} {M' : Mem} (h : testOf r = some (b, M')) : ∃ w x, r = some (w, M') ∧ deref w M' = some x ∧ truth x = some b := by
  unfold testOf at h
  split at h
  · rename_i w M
    split at h
    · rename_i x e1
      split at h
      · rename_i b' e2
        cases h
        exact ⟨w, x, rfl, e1, e2⟩
      · cases h
    · cases h
  · cases h
/-- an expression whose test is its value's truth -/
theorem st_plain {pe : Expr} {e : E} (h : SE Z X pe e) (he : ∀ whole, isTrue pe X.env whole = (do let v ← whole; standAt pe.pos; holding [v] (truthy v))) : ST Z X pe e := by
  obtain ⟨t, p, f⟩ := h
  refine ⟨_, pt_truth p he, fun σ H F μ ρ M b M' Q r l ev q => ?_⟩
  obtain ⟨w, x, e1, e2, e3⟩ := testOf_eq ev
  refine f σ H F μ ρ M w M' _ r l e1 fun v H1 F1 μ1 x1 r1 v1 => ⟨b, tru_of r1.sub (Dx.at r1 v1 e2) e3, q H1 F1 μ1 x1 r1⟩
theorem st_cmp {pa pb : Expr} {a b : E} {p : P2} {o : CmpOp} {pos : Pos} (ha : SE Z X pa a) (hb : SE Z X pb b) (s : Ser2 X p (compareOp o)) (hp : p ≠ .ix) (ht : tame pb = true)
    (hbl : ∀ x y d, prim2 p x y = some d → ∃ c, d = .bool c) : ST Z X (.Compare pa [o] [pb] pos) (.op2 false p a b) := by
  obtain ⟨ta, p1, fa⟩ := ha
  obtain ⟨tb, p2, fb⟩ := hb
  obtain ⟨rr, o1, o2⟩ := s
  refine ⟨_, pt_cmpR o1 p1 p2 (tame_marks ht o), fun σ H F μ ρ M b' M' Q r l ev q => ?_⟩
  obtain ⟨w, x, e1, e2, e3⟩ := testOf_eq ev
  have key := two_go (Z := Z) (pa := pa) (pb := pb) (fl := false) (mu := false) fa fb (fun s hx hy e q => ser_wide o2 hp s hx hy e q) (fun _ => rfl) σ H F μ ρ M w M' (fun z H' => ∃ k, z = V.bl k ∧ Q k H') r l e1 fun v H1 F1 μ1 x1 r1 v1 => ?_
  · exact key
  · have hd : ∃ c, w = .d (.bool c) := by
      simp only [Sig.ev, evalE] at e1
      split at e1
      · split at e1
        · split at e1
          · split at e1
            · rename_i z e4
              obtain ⟨c, rfl⟩ := hbl _ _ _ e4
              have e1 : some (W.d (PyData.bool c), _) = some (w, M') := e1
              cases e1
              exact ⟨c, rfl⟩
            · cases e1
          · cases e1
        · cases e1
      · cases e1
    obtain ⟨c, rfl⟩ := hd
    cases e2
    cases e3
    cases v1
    exact ⟨_, rfl, q H1 F1 μ1 x1 r1⟩
end
end EV

/-! EvE2: and, or, not, if, chains, slices, calls, methods. -/
namespace EV
open PySem PySem.Spec PyProof.Rows L2
section
variable {Z : Sig} {X : Cx} {sc : Scope}

/-! ### and, or -/
def opB (k : Bool) : PySem.BoolOp := if k = true then .And else .Or
def SBv (Z : Sig) (X : Cx) (k : Bool) (pes : List Expr) (pos : Pos) (es : Es) : Prop := ∃ t, PE X (.BoolOp (opB k) pes pos) t ∧ ∀ σ H F μ ρ M w M' (Q : VK), Rel X.K H F μ M → LocR X.K F μ ρ σ → Z.evb k es ρ M = some (w, M') →
  (∀ v H' F' μ', Ext H F μ H' F' μ' → Rel X.K H' F' μ' M' → ValR X.K F' μ' w v → Q v H') → t σ H Q
def SBt (Z : Sig) (X : Cx) (k : Bool) (pes : List Expr) (pos : Pos) (es : Es) : Prop := ∃ t, PW X (.BoolOp (opB k) pes pos) t ∧ ∀ σ H F μ ρ M b M' (Q : Bool → Hp → Prop), Rel X.K H F μ M → LocR X.K F μ ρ σ → testOf (Z.evb k es ρ M) = some (b, M') →
  (∀ H' F' μ', Ext H F μ H' F' μ' → Rel X.K H' F' μ' M' → Q b H') → t σ H Q
theorem sbv_one {k : Bool} {pe : Expr} {e : E} {pos : Pos} (h : SE Z X pe e) : SBv Z X k [pe] pos (.cons e .nil) := by
  obtain ⟨t, p, f⟩ := h
  refine ⟨t, by cases k <;> exact pe_one p, fun σ H F μ ρ M w M' Q r l ev q => f σ H F μ ρ M w M' Q r l ?_ q⟩
  simpa [Sig.evb, evalB] using ev
theorem sbt_one {k : Bool} {pe : Expr} {e : E} {pos : Pos} (h : ST Z X pe e) : SBt Z X k [pe] pos (.cons e .nil) := by
  obtain ⟨t, p, f⟩ := h
  refine ⟨t, by cases k <;> first | exact pw_or1 p | exact pw_and1 p, fun σ H F μ ρ M w M' Q r l ev q => f σ H F μ ρ M w M' Q r l ?_ q⟩
  simpa [Sig.evb, evalB] using ev
theorem evb_cons {k : Bool} {e e2 : E} {es : Es} {ρ : Loc} {M M' : Mem} {w : W} (h : Z.evb k (.cons e (.cons e2 es)) ρ M = some (w, M')) :
    ∃ u M1 b, Z.ev e ρ M = some (u, M1) ∧ testOf (some (u, M1)) = some (b, M1) ∧ ((b = k ∧ Z.evb k (.cons e2 es) ρ M1 = some (w, M')) ∨ (b ≠ k ∧ u = w ∧ M1 = M')) := by
  simp only [Sig.evb, evalB] at h
  split at h
  · rename_i u M1 e1
    split at h
    · rename_i b M2 e3
      have e4 : M2 = M1 := by
        obtain ⟨_, _, q, _, _⟩ := testOf_eq e3
        cases q; rfl
      subst e4
      refine ⟨u, M2, b, e1, e3, ?_⟩
      split at h
      · rename_i hb
        exact .inl ⟨hb, h⟩
      · rename_i hb
        cases h
        exact .inr ⟨hb, rfl, rfl⟩
    · cases h
  · cases h
theorem sbv_cons {k : Bool} {pe pe2 : Expr} {e e2 : E} {ps : List Expr} {es : Es} {pos : Pos} (h : SE Z X pe e) (hs : SBv Z X k (pe2 :: ps) pos (.cons e2 es)) : SBv Z X k (pe :: pe2 :: ps) pos (.cons e (.cons e2 es)) := by
  obtain ⟨t, p, f⟩ := h
  obtain ⟨ts, pp, g⟩ := hs
  cases k with
  | true =>
    refine ⟨_, pe_andT p pp, fun σ H F μ ρ M w M' Q r l ev q => ?_⟩
    obtain ⟨u, M1, b, e1, e3, h⟩ := evb_cons ev
    refine f σ H F μ ρ M u M1 _ r l e1 fun v H1 F1 μ1 x1 r1 v1 => ?_
    obtain ⟨_, y, q1, q2, q3⟩ := testOf_eq e3
    cases q1
    refine ⟨b, tru_of r1.sub (Dx.at r1 v1 q2) q3, ?_⟩
    rcases h with ⟨rfl, h⟩ | ⟨hb, rfl, rfl⟩
    · rw [if_pos rfl]
      exact g σ H1 F1 μ1 ρ M1 w M' Q r1 (l.mono x1) h fun v2 H2 F2 μ2 x2 r2 v3 => q v2 H2 F2 μ2 (x1.trans x2 r2.nd) r2 v3
    · rw [if_neg hb]
      exact q v H1 F1 μ1 x1 r1 v1
  | false =>
    refine ⟨_, pe_orT p pp, fun σ H F μ ρ M w M' Q r l ev q => ?_⟩
    obtain ⟨u, M1, b, e1, e3, h⟩ := evb_cons ev
    refine f σ H F μ ρ M u M1 _ r l e1 fun v H1 F1 μ1 x1 r1 v1 => ?_
    obtain ⟨_, y, q1, q2, q3⟩ := testOf_eq e3
    cases q1
    refine ⟨b, tru_of r1.sub (Dx.at r1 v1 q2) q3, ?_⟩
    rcases h with ⟨rfl, h⟩ | ⟨hb, rfl, rfl⟩
    · rw [if_neg (by decide)]
      exact g σ H1 F1 μ1 ρ M1 w M' Q r1 (l.mono x1) h fun v2 H2 F2 μ2 x2 r2 v3 => q v2 H2 F2 μ2 (x1.trans x2 r2.nd) r2 v3
    · have hb' : b = true := by cases b <;> simp_all
      rw [if_pos hb']
      exact q v H1 F1 μ1 x1 r1 v1
theorem sbt_cons {k : Bool} {pe pe2 : Expr} {e e2 : E} {ps : List Expr} {es : Es} {pos : Pos} (h : ST Z X pe e) (hs : SBt Z X k (pe2 :: ps) pos (.cons e2 es)) : SBt Z X k (pe :: pe2 :: ps) pos (.cons e (.cons e2 es)) := by
  obtain ⟨t, p, f⟩ := h
  obtain ⟨ts, pp, g⟩ := hs
  have key : ∀ ρ M b M', testOf (Z.evb k (.cons e (.cons e2 es)) ρ M) = some (b, M') → ∃ M1 c, testOf (Z.ev e ρ M) = some (c, M1) ∧ ((c = k ∧ testOf (Z.evb k (.cons e2 es) ρ M1) = some (b, M')) ∨ (c ≠ k ∧ c = b ∧ M1 = M')) := by
    intro ρ M b M' h
    obtain ⟨w, x, h1, h2, h3⟩ := testOf_eq h
    obtain ⟨u, M1, c, e1, e3, h4⟩ := evb_cons h1
    refine ⟨M1, c, by rw [e1]; exact e3, ?_⟩
    rcases h4 with ⟨hc, h4⟩ | ⟨hc, rfl, rfl⟩
    · exact .inl ⟨hc, by rw [h4]; rw [h1] at h; exact h⟩
    · refine .inr ⟨hc, ?_, rfl⟩
      rw [h1, e3] at h
      cases h; rfl
  cases k with
  | true =>
    refine ⟨_, pw_and p pp, fun σ H F μ ρ M b M' Q r l ev q => ?_⟩
    obtain ⟨M1, c, e1, h⟩ := key ρ M b M' ev
    refine f σ H F μ ρ M c M1 _ r l e1 fun H1 F1 μ1 x1 r1 => ?_
    rcases h with ⟨rfl, h⟩ | ⟨hb, rfl, rfl⟩
    · rw [if_pos rfl]
      exact g σ H1 F1 μ1 ρ M1 b M' Q r1 (l.mono x1) h fun H2 F2 μ2 x2 r2 => q H2 F2 μ2 (x1.trans x2 r2.nd) r2
    · have hc : c = false := by cases c <;> simp_all
      subst hc
      rw [if_neg (by decide)]
      exact q H1 F1 μ1 x1 r1
  | false =>
    refine ⟨_, pw_or p pp, fun σ H F μ ρ M b M' Q r l ev q => ?_⟩
    obtain ⟨M1, c, e1, h⟩ := key ρ M b M' ev
    refine f σ H F μ ρ M c M1 _ r l e1 fun H1 F1 μ1 x1 r1 => ?_
    rcases h with ⟨rfl, h⟩ | ⟨hb, rfl, rfl⟩
    · rw [if_neg (by decide)]
      exact g σ H1 F1 μ1 ρ M1 b M' Q r1 (l.mono x1) h fun H2 F2 μ2 x2 r2 => q H2 F2 μ2 (x1.trans x2 r2.nd) r2
    · have hc : c = true := by cases c <;> simp_all
      subst hc
      rw [if_pos rfl]
      exact q H1 F1 μ1 x1 r1
theorem se_andor {k : Bool} {pes : List Expr} {pos : Pos} {es : Es} (h : SBv Z X k pes pos es) : SE Z X (.BoolOp (opB k) pes pos) (if k = true then .and es else .or es) := by
  obtain ⟨t, p, f⟩ := h
  refine ⟨t, p, fun σ H F μ ρ M w M' Q r l ev q => f σ H F μ ρ M w M' Q r l ?_ q⟩
  cases k <;> simpa [Sig.ev, evalE] using ev
theorem st_andor {k : Bool} {pes : List Expr} {pos : Pos} {es : Es} (h : SBt Z X k pes pos es) : ST Z X (.BoolOp (opB k) pes pos) (if k = true then .and es else .or es) := by
  obtain ⟨t, p, f⟩ := h
  refine ⟨t, p.pt, fun σ H F μ ρ M w M' Q r l ev q => f σ H F μ ρ M w M' Q r l ?_ q⟩
  cases k <;> simpa [Sig.ev, evalE] using ev

/-! ### not, -, if -/
theorem se_not {pe : Expr} {e : E} {pos : Pos} (h : SE Z X pe e) : SE Z X (.UnaryOp .Not pe pos) (.not e) := by
  obtain ⟨t, p, f⟩ := h
  refine ⟨_, pe_notT p, fun σ H F μ ρ M w M' Q r l ev q => ?_⟩
  simp only [Sig.ev, evalE] at ev
  split at ev
  · rename_i b M1 e1
    cases ev
    obtain ⟨u, x, e2, e3, e4⟩ := testOf_eq e1
    refine f σ H F μ ρ M u M' _ r l e2 fun v H1 F1 μ1 x1 r1 v1 => ⟨b, tru_of r1.sub (Dx.at r1 v1 e3) e4, q _ H1 F1 μ1 x1 r1 (.bl _)⟩
  · cases ev
theorem st_not {pe : Expr} {e : E} {pos : Pos} (h : ST Z X pe e) : ST Z X (.UnaryOp .Not pe pos) (.not e) := by
  obtain ⟨t, p, f⟩ := h
  refine ⟨_, pt_not p, fun σ H F μ ρ M b M' Q r l ev q => ?_⟩
  obtain ⟨w, x, e1, e2, e3⟩ := testOf_eq ev
  simp only [Sig.ev, evalE] at e1
  split at e1
  · rename_i c M1 e4
    cases e1
    cases e2
    cases e3
    exact f σ H F μ ρ M c M' _ r l e4 q
  · cases e1
theorem se_neg {pe : Expr} {e : E} {pos : Pos} (h : SE Z X pe e) : SE Z X (.UnaryOp .USub pe pos) (.neg e) := by
  obtain ⟨t, p, f⟩ := h
  refine ⟨_, pe_un un_neg p, fun σ H F μ ρ M w M' Q r l ev q => ?_⟩
  simp only [Sig.ev, evalE] at ev
  split at ev
  · rename_i i M1 e1
    cases ev
    refine f σ H F μ ρ M _ M' _ r l e1 fun v H1 F1 μ1 x1 r1 v1 => ?_
    cases v1
    exact ⟨i, rfl, q _ H1 F1 μ1 x1 r1 (.int _)⟩
  · cases ev
theorem se_ife {pc pa pb : Expr} {c a b : E} {pos : Pos} (hc : ST Z X pc c) (ha : SE Z X pa a) (hb : SE Z X pb b) : SE Z X (.IfExp pc pa pb pos) (.ife c a b) := by
  obtain ⟨tc, p1, fc⟩ := hc
  obtain ⟨ta, p2, fa⟩ := ha
  obtain ⟨tb, p3, fb⟩ := hb
  refine ⟨_, pe_ifExp p1 p2 p3, fun σ H F μ ρ M w M' Q r l ev q => ?_⟩
  simp only [Sig.ev, evalE] at ev
  split at ev
  · rename_i M1 e1
    refine fc σ H F μ ρ M true M1 _ r l e1 fun H1 F1 μ1 x1 r1 => ?_
    rw [if_pos rfl]
    exact fa σ H1 F1 μ1 ρ M1 w M' Q r1 (l.mono x1) ev fun v H2 F2 μ2 x2 r2 v2 => q v H2 F2 μ2 (x1.trans x2 r2.nd) r2 v2
  · rename_i M1 e1
    refine fc σ H F μ ρ M false M1 _ r l e1 fun H1 F1 μ1 x1 r1 => ?_
    rw [if_neg (by decide)]
    exact fb σ H1 F1 μ1 ρ M1 w M' Q r1 (l.mono x1) ev fun v H2 F2 μ2 x2 r2 v2 => q v H2 F2 μ2 (x1.trans x2 r2.nd) r2 v2
  · cases ev
theorem pt_ifExp {pc pa pb : Expr} {tc ta tb : TT} {pos : Pos} (hc : PT X pc tc) (ha : PT X pa ta) (hb : PT X pb tb) : PT X (.IfExp pc pa pb pos) (fun σ H Q => tc σ H fun c H1 => if c = true then ta σ H1 Q else tb σ H1 Q) := by
  refine ⟨fun pins s σ H Q I h => ?_⟩
  refine isTrue_IfExp (thn (hc.run pins s σ H _ I h) fun d s1 ⟨H1, I1, q1⟩ => ?_)
  cases d with
  | true => exact ha.run pins s1 σ H1 Q I1 q1
  | false => exact hb.run pins s1 σ H1 Q I1 q1
theorem st_ife {pc pa pb : Expr} {c a b : E} {pos : Pos} (hc : ST Z X pc c) (ha : ST Z X pa a) (hb : ST Z X pb b) : ST Z X (.IfExp pc pa pb pos) (.ife c a b) := by
  obtain ⟨tc, p1, fc⟩ := hc
  obtain ⟨ta, p2, fa⟩ := ha
  obtain ⟨tb, p3, fb⟩ := hb
  refine ⟨_, pt_ifExp p1 p2 p3, fun σ H F μ ρ M w M' Q r l ev q => ?_⟩
  obtain ⟨u, x, e1, e2, e3⟩ := testOf_eq ev
  simp only [Sig.ev, evalE] at e1
  split at e1
  · rename_i M1 e4
    refine fc σ H F μ ρ M true M1 _ r l e4 fun H1 F1 μ1 x1 r1 => ?_
    show if true = true then _ else _
    rw [if_pos rfl]
    exact fa σ H1 F1 μ1 ρ M1 w M' Q r1 (l.mono x1) (by rw [show Z.ev a ρ M1 = some (u, M') from e1]; simp [testOf, e2, e3]) fun H2 F2 μ2 x2 r2 => q H2 F2 μ2 (x1.trans x2 r2.nd) r2
  · rename_i M1 e4
    refine fc σ H F μ ρ M false M1 _ r l e4 fun H1 F1 μ1 x1 r1 => ?_
    show if false = true then _ else _
    rw [if_neg (by decide)]
    exact fb σ H1 F1 μ1 ρ M1 w M' Q r1 (l.mono x1) (by rw [show Z.ev b ρ M1 = some (u, M') from e1]; simp [testOf, e2, e3]) fun H2 F2 μ2 x2 r2 => q H2 F2 μ2 (x1.trans x2 r2.nd) r2
  · cases e1

/-! ### chains -/
theorem res_bool {K : PySem.W.Frag} {H F H' : Hp} {b : Bool} {v : V} (z : Res K H F false (.bool b) v H') : v = .bl b ∧ H' = H := by
  cases z with
  | old h _ => cases h; exact ⟨rfl, rfl⟩
theorem chain_go {pa pb pc : Expr} {a b c : E} {p q : P2} {o o' : CmpOp} {pos : Pos} (ha : SE Z X pa a) (hb : SE Z X pb b) (hc : SE Z X pc c) (s : Ser2 X p (compareOp o)) (s' : Ser2 X q (compareOp o')) (ht : tame pc = true) :
    ∃ t : TE, PE X (.Compare pa [o, o'] [pb, pc] pos) t ∧ PT X (.Compare pa [o, o'] [pb, pc] pos) (tTest t) ∧ ∀ σ H F μ ρ M w M' (Q : VK), Rel X.K H F μ M → LocR X.K F μ ρ σ → Z.ev (.chain p q a b c) ρ M = some (w, M') →
      (∀ r H' F' μ', w = .d (.bool r) → Ext H F μ H' F' μ' → Rel X.K H' F' μ' M' → Q (.bl r) H') → t σ H Q := by
  obtain ⟨ta, p1, fa⟩ := ha
  obtain ⟨tb, p2, fb⟩ := hb
  obtain ⟨tc, p3, fc⟩ := hc
  obtain ⟨rr, o1, o2⟩ := s
  obtain ⟨rr', o3, o4⟩ := s'
  have hl : lastMarks [o, o'] [pb, pc] = false := by
    show behindInMarks o' pc = false
    exact tame_marks ht o'
  refine ⟨_, pe_chain o1 o3 p1 p2 p3 hl, pt_chain o1 o3 p1 p2 p3 hl, fun σ H F μ ρ M w M' Q r l ev q => ?_⟩
  simp only [Sig.ev, evalE] at ev
  split at ev
  · rename_i u M1 e1
    split at ev
    · rename_i v M2 e2
      split at ev
      · rename_i x y d1 d2
        refine fa σ H F μ ρ M u M1 _ r l e1 fun v1 H1 F1 μ1 x1 r1 w1 => ?_
        refine fb σ H1 F1 μ1 ρ M1 v M2 _ r1 (l.mono x1) e2 fun v2 H2 F2 μ2 x2 r2 w2 => ?_
        split at ev
        · rename_i e3
          refine o2 r2.sub (Dx.at r2 (w1.mono x2) d1) (Dx.at r2 w2 d2) e3 fun v3 H3 z3 => ?_
          obtain ⟨rfl, rfl⟩ := res_bool z3
          refine ⟨true, rfl, ?_⟩
          rw [if_pos rfl]
          split at ev
          · rename_i w3 M3 e4
            split at ev
            · rename_i y' z' d3 d4
              split at ev
              · rename_i r' e5
                cases ev
                refine fc σ H3 F2 μ2 ρ M2 w3 M' _ r2 ((l.mono x1).mono x2) e4 fun v4 H4 F4 μ4 x4 r4 w4 => ?_
                refine o4 r4.sub (Dx.at r4 (w2.mono x4) d3) (Dx.at r4 w4 d4) e5 fun v5 H5 z5 => ?_
                obtain ⟨rfl, rfl⟩ := res_bool z5
                exact q _ H5 F4 μ4 rfl ((x1.trans x2 r2.nd).trans x4 r4.nd) r4
              · cases ev
            · cases ev
          · cases ev
        · rename_i e3
          cases ev
          refine o2 r2.sub (Dx.at r2 (w1.mono x2) d1) (Dx.at r2 w2 d2) e3 fun v3 H3 z3 => ?_
          obtain ⟨rfl, rfl⟩ := res_bool z3
          refine ⟨false, rfl, ?_⟩
          rw [if_neg (by decide)]
          exact q _ H3 F2 μ2 rfl (x1.trans x2 r2.nd) r2
        · cases ev
      · cases ev
    · cases ev
  · cases ev
theorem chain_bool {p q : P2} {a b c : E} {ρ : Loc} {M M' : Mem} {w : W} (ev : Z.ev (.chain p q a b c) ρ M = some (w, M')) : ∃ r, w = .d (.bool r) := by
  simp only [Sig.ev, evalE] at ev
  repeat (split at ev <;> try (cases ev; done))
  all_goals (cases ev; exact ⟨_, rfl⟩)
theorem se_chain {pa pb pc : Expr} {a b c : E} {p q : P2} {o o' : CmpOp} {pos : Pos} (ha : SE Z X pa a) (hb : SE Z X pb b) (hc : SE Z X pc c) (s : Ser2 X p (compareOp o)) (s' : Ser2 X q (compareOp o')) (ht : tame pc = true) : SE Z X (.Compare pa [o, o'] [pb, pc] pos) (.chain p q a b c) := by
  obtain ⟨t, p1, _, f⟩ := chain_go (pos := pos) ha hb hc s s' ht
  refine ⟨t, p1, fun σ H F μ ρ M w M' Q r l ev q => f σ H F μ ρ M w M' Q r l ev fun r' H' F' μ' e x r1 => ?_⟩
  subst e
  exact q _ H' F' μ' x r1 (.bl _)
theorem st_chain {pa pb pc : Expr} {a b c : E} {p q : P2} {o o' : CmpOp} {pos : Pos} (ha : SE Z X pa a) (hb : SE Z X pb b) (hc : SE Z X pc c) (s : Ser2 X p (compareOp o)) (s' : Ser2 X q (compareOp o')) (ht : tame pc = true) : ST Z X (.Compare pa [o, o'] [pb, pc] pos) (.chain p q a b c) := by
  obtain ⟨t, _, p1, f⟩ := chain_go (pos := pos) ha hb hc s s' ht
  refine ⟨_, p1, fun σ H F μ ρ M b' M' Q r l ev q => ?_⟩
  obtain ⟨w, x, e1, e2, e3⟩ := testOf_eq ev
  refine f σ H F μ ρ M w M' _ r l e1 fun r' H' F' μ' e x r1 => ?_
  subst e
  cases e2
  cases e3
  exact ⟨_, rfl, q H' F' μ' x r1⟩

/-! ### slices -/
def SO (Z : Sig) (X : Cx) (po : Option Expr) (k : Bool) (e : E) : Prop := ∃ t : TO, PO X po t ∧ ∀ σ H F μ ρ M x M' o (Q : Option Int → Hp → Prop), Rel X.K H F μ M → LocR X.K F μ ρ σ → Z.ev e ρ M = some (.d x, M') → bnd k x = some o →
  (∀ H' F' μ', Ext H F μ H' F' μ' → Rel X.K H' F' μ' M' → Q o H') → t σ H Q
theorem so_none : SO Z X none false (.lit .none) := by
  refine ⟨_, po_none, fun σ H F μ ρ M x M' o Q r l ev e q => ?_⟩
  have ev : some (W.d PyData.none, M) = some (W.d x, M') := ev
  cases ev
  cases e
  exact q H F μ Ext.refl r
theorem so_some {pe : Expr} {e : E} (h : SE Z X pe e) : SO Z X (some pe) true e := by
  obtain ⟨t, p, f⟩ := h
  refine ⟨_, po_some p, fun σ H F μ ρ M x M' o Q r l ev e q => ?_⟩
  refine f σ H F μ ρ M _ M' _ r l ev fun v H1 F1 μ1 x1 r1 v1 => ?_
  cases x <;> try (cases e; done)
  cases e
  cases v1
  exact ⟨_, rfl, q H1 F1 μ1 x1 r1⟩
theorem se_slc {pa : Expr} {pl ph : Option Expr} {a lo hi : E} {mu hl hu : Bool} {p2 pos : Pos} (ha : SE Z X pa a) (h1 : SO Z X pl hl lo) (h2 : SO Z X ph hu hi) : SE Z X (.Subscript pa (.Slice pl ph none p2) pos) (.slc mu hl hu a lo hi) := by
  obtain ⟨ta, p1, fa⟩ := ha
  obtain ⟨tl, pp1, fl⟩ := h1
  obtain ⟨th, pp2, fh⟩ := h2
  obtain ⟨rr, o1, o2⟩ := ser_slice (X := X)
  refine ⟨_, pe_slice o1 p1 pp1 pp2, fun σ H F μ ρ M w M' Q r l ev q => ?_⟩
  simp only [Sig.ev, evalE] at ev
  split at ev
  · rename_i u M1 e1
    split at ev
    · rename_i lx M2 e2
      split at ev
      · rename_i hx M3 e3
        split at ev
        · rename_i x l' h' d1 b1 b2
          split at ev
          · rename_i z e4
            refine fa σ H F μ ρ M u M1 _ r l e1 fun v1 H1 F1 μ1 x1 r1 w1 => ?_
            refine fl σ H1 F1 μ1 ρ M1 lx M2 l' _ r1 (l.mono x1) e2 b1 fun H2 F2 μ2 x2 r2 => ?_
            refine fh σ H2 F2 μ2 ρ M2 hx M3 h' _ r2 ((l.mono x1).mono x2) e3 b2 fun H3 F3 μ3 x3 r3 => ?_
            refine o2 r3.sub (Dx.at r3 ((w1.mono x2).mono x3) d1) e4 fun v4 H4 z4 => ?_
            obtain ⟨F5, μ5, x5, r5, v5⟩ := Res.fin r3 z4 ev fun _ => rfl
            exact q _ _ F5 μ5 (((x1.trans x2 r2.nd).trans x3 r3.nd).trans x5 r5.nd) r5 v5
          · cases ev
        · cases ev
      · cases ev
    · cases ev
  · cases ev
theorem se_rev {pa : Expr} {a : E} {mu : Bool} {k : Nat} {p1 p2 p3 pos : Pos} (ha : SE Z X pa a) : SE Z X (.Subscript pa (.Slice none none (some (.UnaryOp .USub (.Constant (.int 1) k p1) p2)) p3) pos) (.rev mu a) := by
  obtain ⟨ta, pp, fa⟩ := ha
  refine ⟨_, pe_revA pp, fun σ H F μ ρ M w M' Q r l ev q => ?_⟩
  simp only [Sig.ev, evalE] at ev
  split at ev
  · rename_i u M1 e1
    split at ev
    · rename_i x d1
      split at ev
      · rename_i z e4
        refine fa σ H F μ ρ M u M1 _ r l e1 fun v1 H1 F1 μ1 x1 r1 w1 => ?_
        have hx := Dx.at r1 w1 d1
        cases x <;> try (cases e4; done)
        case list xs =>
          cases e4
          obtain ⟨b, vs, rfl, h1, q1⟩ := hx
          refine ⟨b, vs, rfl, .inl ⟨SqL.of h1, fun p hp => ?_⟩⟩
          obtain ⟨F5, μ5, x5, r5, v5⟩ := Res.fin (fl := false) r1 (.lst hp q1.rev) ev fun _ => rfl
          exact q _ _ F5 μ5 (x1.trans x5 r5.nd) r5 v5
        case tuple xs =>
          cases e4
          cases hx with
          | @tup b vs _ h1 q1 =>
            refine ⟨b, vs, rfl, .inr ⟨sqT_mono r1.sub h1, fun p hp => ?_⟩⟩
            obtain ⟨F5, μ5, x5, r5, v5⟩ := Res.fin (fl := false) r1 (.tup hp q1.rev) ev fun _ => rfl
            exact q _ _ F5 μ5 (x1.trans x5 r5.nd) r5 v5
      · cases ev
    · cases ev
  · cases ev

/-! ### calls -/
theorem se_call (C : Ctx Z X sc) {f : Nat} {x : Str} {ps : List Expr} {es : Es} {p pos : Pos} (h1 : Z.fs[f]? = some x) (h2 : isGl sc x = true) (hs : SA Z X ps es) (ht : ps.all tame = true) (hz : ps = [] → es = .nil) : SE Z X (.Call (.Name x p) ps [] pos) (.call f es) := by
  obtain ⟨a, fd, prs, ar, m1, m2, m3, m4, m5⟩ := C.fns f x h1
  obtain ⟨g1, g2⟩ := C.gl x h2
  obtain ⟨t, pp, _, g⟩ := hs
  have fin : ∀ σ H F μ ρ M w M' (Q : VK), Rel X.K H F μ M → LocR X.K F μ ρ σ → Z.ev (.call f es) ρ M = some (w, M') → (∀ v H' F' μ', Ext H F μ H' F' μ' → Rel X.K H' F' μ' M' → ValR X.K F' μ' w v → Q v H') →
      t σ H fun vs H1 => spF X.K ar (Z.cf f) (vs ++ []) H1 Q E0 := by
    intro σ H F μ ρ M w M' Q r l ev q
    simp only [Sig.ev, evalE] at ev
    split at ev
    · rename_i ws M1 e1
      refine g σ H F μ ρ M ws M1 _ r l e1 fun vs H1 F1 μ1 x1 r1 v1 => ?_
      rw [List.append_nil]
      exact ⟨by rw [← v1.length]; exact m5 ws M1 _ ev, F1, μ1, M1, ws, w, M', r1, v1, ev, fun v H2 F2 μ2 x2 r2 v2 => q v H2 F2 μ2 (x1.trans x2 r2.nd) r2 v2⟩
    · cases ev
  cases ps with
  | nil =>
    refine ⟨_, pe_call0 m3 C.room g1 m1 m2 m4 .nil pass0 g2, fun σ H F μ ρ M w M' Q r l ev q => ?_⟩
    simp only [Sig.ev, evalE] at ev
    split at ev
    · rename_i ws M1 e1
      have he := hz rfl
      subst he
      have e1 : some (([] : List W), M) = some (ws, M1) := e1
      cases e1
      show spF X.K ar (Z.cf f) ([] ++ []) H Q E0
      exact ⟨m5 [] M _ ev, F, μ, M, [], w, M', r, .nil, ev, q⟩
    · cases ev
  | cons pe ps =>
    rw [List.all_cons, Bool.and_eq_true] at ht
    exact ⟨_, pe_call m3 C.room g1 m1 m2 m4 .nil pass0 pp g2 (tame_star ht.1 ps X.env) (tames_plain ht.2 X.env pos), fin⟩
end
end EV

/-! EvE3: built-in functions, methods, targets, what is walked. -/
namespace EV
open PySem PySem.Spec PyProof.Rows L2
section
variable {Z : Sig} {X : Cx} {sc : Scope}

/-! ### built-in functions -/
/-- whatever a rule asks, the call of the built-in function b is served by it -/
theorem pe_blt (C : Ctx Z X sc) {b : B} (hb : bGood Z.im b = true) (hg : isGl sc (bName b) = true) {r : List V → Hp → VK → Prop} (hc : CallR X (bFn b) r) {pe : Expr} {ps : List Expr} {t : TA} {p pos : Pos} (ha : PA X (pe :: ps) t)
    (h1 : starEach (pe :: ps) X.env = (false, eval pe X.env) :: starEach ps X.env) (h2 : (backTo pos (starEach ps X.env)).any (·.1) = false) : PE X (.Call (.Name (bName b) p) (pe :: ps) [] pos) (tCB r t) := by
  obtain ⟨g1, g2⟩ := C.gl _ hg
  cases b with
  | len => exact pe_callB hc g1 (C.blt _ (by decide)) (by decide +kernel) ha (by decide) g2 h1 h2
  | abs => exact pe_callB hc g1 (C.blt _ (by decide)) (by decide +kernel) ha (by decide) g2 h1 h2
  | int => exact pe_callTy hc g1 (C.blt _ (by decide)) (by decide +kernel) ha (by decide) g2 h1 h2
  | all => exact pe_callB hc g1 (C.blt _ (by decide)) (by decide +kernel) ha (by decide) g2 h1 h2
  | any => exact pe_callB hc g1 (C.blt _ (by decide)) (by decide +kernel) ha (by decide) g2 h1 h2
  | sum => exact pe_callB hc g1 (C.blt _ (by decide)) (by decide +kernel) ha (by decide) g2 h1 h2
  | tuple => exact pe_callTy hc g1 (C.blt _ (by decide)) (by decide +kernel) ha (by decide) g2 h1 h2
  | list => exact pe_callTy hc g1 (C.blt _ (by decide)) (by decide +kernel) ha (by decide) g2 h1 h2
  | max => exact pe_callB hc g1 (C.blt _ (by decide)) (by decide +kernel) ha (by decide) g2 h1 h2
  | min => exact pe_callB hc g1 (C.blt _ (by decide)) (by decide +kernel) ha (by decide) g2 h1 h2
  | gcd => exact pe_callBfun hc g1 (C.imp _ (by simpa [bGood] using hb)) ha g2 h1 h2
  | lcm => exact pe_callBfun hc g1 (C.imp _ (by simpa [bGood] using hb)) ha g2 h1 h2
  | sorted => cases hb
  | str => cases hb
  | isi t => exact pe_callB (x := "isinstance") hc g1 (C.blt _ (by decide)) (by decide +kernel) ha (by decide) g2 h1 h2
theorem se_blt (C : Ctx Z X sc) {b : B} {mu : Bool} (hb : bGood Z.im b = true) (hg : isGl sc (bName b) = true) (hl : b ≠ .len) (s : SerB X b) {pe : Expr} {ps : List Expr} {es : Es} {p pos : Pos} (hs : SA Z X (pe :: ps) es)
    (ht : (pe :: ps).all tame = true) : SE Z X (.Call (.Name (bName b) p) (pe :: ps) [] pos) (.blt mu b es) := by
  obtain ⟨rr, o1, o2⟩ := s
  obtain ⟨t, pp, _, g⟩ := hs
  have ht' := ht
  rw [List.all_cons, Bool.and_eq_true] at ht'
  refine ⟨_, pe_blt C hb hg o1 pp (tame_star ht'.1 ps X.env) (tames_plain ht'.2 X.env pos), fun σ H F μ ρ M w M' Q r l ev q => ?_⟩
  simp only [Sig.ev, evalE] at ev
  split at ev
  · rename_i ws M1 e1
    split at ev
    · rename_i xs e2
      split at ev
      · rename_i z e3
        refine g σ H F μ ρ M ws M1 _ r l e1 fun vs H1 F1 μ1 x1 r1 v1 => ?_
        have e2' : derefs ws M1 = some xs := by
          unfold derefsB at e2
          split at e2
          · exact absurd rfl hl
          · exact e2
        refine o2 r1.sub (derefs_dxs r1 v1 e2') e3 fun v H2 z2 => ?_
        obtain ⟨F3, μ3, x3, r3, v3⟩ := Res.fin r1 z2 ev fun _ => rfl
        exact q _ _ F3 μ3 (x1.trans x3 r3.nd) r3 v3
      · cases ev
    · cases ev
  · cases ev
theorem se_len (C : Ctx Z X sc) {mu : Bool} (hg : isGl sc "len" = true) {pe : Expr} {e : E} {p pos : Pos} (h : SE Z X pe e) (ht : tame pe = true) : SE Z X (.Call (.Name "len" p) [pe] [] pos) (.blt mu .len (.cons e .nil)) := by
  obtain ⟨rr, o1, o2⟩ := ser_len (X := X)
  obtain ⟨t, pp, g⟩ := h
  refine ⟨_, pe_blt C (b := .len) rfl hg o1 (pa_cons pp pa_nil (tame_star ht [] X.env)) (tame_star ht [] X.env) rfl, fun σ H F μ ρ M w M' Q r l ev q => ?_⟩
  simp only [Sig.ev, evalE, evalEs] at ev
  split at ev
  · rename_i ws M1 e1
    split at e1
    · rename_i w1 M2 e4
      cases e1
      split at ev
      · rename_i xs e2
        split at ev
        · rename_i z e3
          refine g σ H F μ ρ M w1 _ _ r l e4 fun v H1 F1 μ1 x1 r1 v1 => ?_
          obtain ⟨x, e5, rfl⟩ := Option.map_eq_some_iff.mp (show (derefR w1 _).map (fun x => [x]) = some xs from e2)
          refine o2 r1.sub (DxR.at r1 v1 e5) e3 fun v' H2 z2 => ?_
          obtain ⟨F3, μ3, x3, r3, v3⟩ := Res.fin r1 z2 ev fun _ => rfl
          exact q _ _ F3 μ3 (x1.trans x3 r3.nd) r3 v3
        · cases ev
      · cases ev
    · cases e1
  · cases ev
theorem boot_ty (t : Ty) : bootBuiltins (tyName t) = some (.type (tyS t)) := by cases t <;> decide +kernel
theorem se_isi (C : Ctx Z X sc) {t : Ty} {mu : Bool} (hg : isGl sc "isinstance" = true) (hg2 : isGl sc (tyName t) = true) {pe : Expr} {e : E} {p p2 pos : Pos} (h : SE Z X pe e) (ht : tame pe = true) :
    SE Z X (.Call (.Name "isinstance" p) [pe, .Name (tyName t) p2] [] pos) (.blt mu (.isi t) (.cons e .nil)) := by
  obtain ⟨tt, pp, g⟩ := h
  obtain ⟨g1, g2⟩ := C.gl _ hg2
  have hm : X.mg (tyName t) = none := by cases t <;> exact C.blt _ (by decide)
  have hn : tyName t ≠ "__name__" := by cases t <;> decide
  have p2' : PE X (.Name (tyName t) p2) (tC (.ty (tyS t))) := pe_bltn g1 hm (boot_ty t) rfl hn g2
  refine ⟨_, pe_blt C (b := .isi t) rfl hg (call_isi (X := X)) (pa_cons pp (pa_cons p2' pa_nil) (tame_star ht _ X.env)) (tame_star ht _ X.env) rfl, fun σ H F μ ρ M w M' Q r l ev q => ?_⟩
  simp only [Sig.ev, evalE, evalEs] at ev
  split at ev
  · rename_i ws M1 e1
    split at e1
    · rename_i w1 M2 e4
      cases e1
      split at ev
      · rename_i xs e2
        split at ev
        · rename_i z e3
          refine g σ H F μ ρ M w1 _ _ r l e4 fun v H1 F1 μ1 x1 r1 v1 => ?_
          have e2' : derefs [w1] M1 = some xs := e2
          simp only [derefs] at e2'
          split at e2'
          · rename_i x ys e5 e6
            cases e6
            cases e2'
            show rIsi X.K [v, .ty (tyS t)] H1 Q
            refine sup_isi r1.sub (Dx.at r1 v1 e5) e3 fun v' H2 z2 => ?_
            obtain ⟨F3, μ3, x3, r3, v3⟩ := Res.fin r1 z2 ev fun _ => rfl
            exact q _ _ F3 μ3 (x1.trans x3 r3.nd) r3 v3
          · cases e2'
        · cases ev
      · cases ev
    · cases e1
  · cases ev

/-! ### methods -/
theorem bare_base {po : Expr} (h : bare po = true) (x : Str) (env : PySem.Env) (w : Sem Value) : attributeBase po x env w = w := by
  cases po <;> first | rfl | cases h
theorem lst_ty {K : PySem.W.Frag} {H F : Hp} {μ : List Addr} {M : Mem} {i : Nat} {v : V} {x : PyData} (r : Rel K H F μ M) (hv : ValR K F μ (.m i) v) (e : deref (.m i) M = some x) : tyV K "list" v H := by
  obtain ⟨a, ha, rfl⟩ := hv
  unfold deref at e
  simp only at e
  split at e
  · rename_i xs hx
    obtain ⟨b, vs, e1, e2, e3, e4⟩ := r.lst i xs hx
    rw [ha] at e1; cases e1
    exact .inl ⟨rfl, vs, SqL.of e3⟩
  · cases e
theorem lst_at {K : PySem.W.Frag} {H F : Hp} {μ : List Addr} {M : Mem} {i : Nat} {v : V} {xs : List PyData} (r : Rel K H F μ M) (hv : ValR K F μ (.m i) v) (e : M[i]? = some (.lst xs)) : ∃ a vs, v = .ref a ∧ μ[i]? = some a ∧ H a = some (.lst vs) ∧ Dqs K F vs xs := by
  obtain ⟨a, ha, rfl⟩ := hv
  obtain ⟨b, vs, e1, e2, e3, e4⟩ := r.lst i xs e
  rw [ha] at e1; cases e1
  exact ⟨a, vs, rfl, ha, e3, e4⟩
theorem appendM_eq {u w : W} {ws : List W} {M M' : Mem} (h : appendM u ws M = some (w, M')) : ∃ i x xs, u = .m i ∧ ws = [.d x] ∧ M[i]? = some (MO.lst xs) ∧ xs.length < sizeLine ∧ w = .d .none ∧ M' = M.set i (.lst (xs ++ [x])) := by
  unfold appendM at h
  split at h
  · rename_i i x
    split at h
    · rename_i xs hx
      split at h
      · rename_i hz
        cases h
        exact ⟨i, x, xs, rfl, rfl, hx, hz, rfl, rfl⟩
      · cases h
    · cases h
  · cases h
theorem popM_eq {u w : W} {ws : List W} {M M' : Mem} (h : popM u ws M = some (w, M')) : ∃ i x xs, u = .m i ∧ ws = [] ∧ M[i]? = some (MO.lst xs) ∧ xs.getLast? = some x ∧ w = .d x ∧ M' = M.set i (.lst xs.dropLast) := by
  unfold popM at h
  split at h
  · rename_i i
    split at h
    · rename_i xs hx
      split at h
      · rename_i x hz
        cases h
        exact ⟨i, x, xs, rfl, rfl, hx, hz, rfl, rfl⟩
      · cases h
    · cases h
  · cases h
theorem extendM_eq {u w : W} {ws : List W} {M M' : Mem} (h : extendM u ws M = some (w, M')) : ∃ i v xs ys, u = .m i ∧ ws = [v] ∧ M[i]? = some (MO.lst xs) ∧ deref v M = some (.list ys) ∧ xs.length + ys.length ≤ sizeLine ∧ w = .d .none ∧ M' = M.set i (.lst (xs ++ ys)) := by
  unfold extendM at h
  split at h
  · rename_i i v
    split at h
    · rename_i xs ys hx hy
      split at h
      · rename_i hz
        cases h
        exact ⟨i, v, xs, ys, rfl, rfl, hx, hy, hz, rfl, rfl⟩
      · cases h
    · cases h
  · cases h
theorem se_append {po pe : Expr} {o e : E} {apos cpos : Pos} (ho : SE Z X po o) (he : SE Z X pe e) (hb : bare po = true) (ht : tame pe = true) (hl : (apos.endLine == cpos.line) = true) :
    SE Z X (.Call (.Attribute po "append" apos) [pe] [] cpos) (.meth .append o (.cons e .nil)) := by
  obtain ⟨t1, p1, f1⟩ := ho
  obtain ⟨t2, p2, f2⟩ := he
  have hs := tame_star ht [] X.env
  refine ⟨_, pe_bm PySem.F.plainAttrs_list PySem.F.slot_list_append PySem.F.type_list_append mt_append p1 (pa_cons p2 pa_nil hs) (bare_base hb _ X.env _) (by rw [hs]; rfl) hl hs rfl, fun σ H F μ ρ M w M' Q r l ev q => ?_⟩
  simp only [Sig.ev, evalE, evalEs] at ev
  split at ev
  · rename_i u M1 e1
    split at ev
    · rename_i x d1
      split at ev
      · rename_i ws M2 e2
        split at e2
        · rename_i w2 M3 e3
          cases e2
          obtain ⟨i, y, xs, rfl, hw, hx, hz, rfl, rfl⟩ := appendM_eq (show appendM u [w2] _ = some (w, M') from ev)
          cases hw
          refine f1 σ H F μ ρ M _ M1 _ r l e1 fun v1 H1 F1 μ1 x1 r1 w1 => ⟨lst_ty r1 w1 d1, ?_⟩
          refine f2 σ H1 F1 μ1 ρ M1 _ _ _ r1 (l.mono x1) e3 fun v2 H2 F2 μ2 x2 r2 w2 => ?_
          obtain ⟨a, vs, rfl, ha, h3, h4⟩ := lst_at r2 (w1.mono x2) hx
          have hz' : vs.length < sizeLine := by rw [h4.length]; exact hz
          have hw2 : Dq X.K F2 v2 y := w2
          refine ⟨a, vs, v2, rfl, rfl, h3, hz', ?_⟩
          have r3 := r2.write hx ha (h4.app (.cons hw2 .nil))
          exact q _ _ F2 μ2 ((x1.trans x2 r2.nd).trans (Ext.write ha) r3.nd) r3 .non
        · cases e2
      · cases ev
    · cases ev
  · cases ev
theorem se_extend {po pe : Expr} {o e : E} {apos cpos : Pos} (ho : SE Z X po o) (he : SE Z X pe e) (hb : bare po = true) (ht : tame pe = true) (hl : (apos.endLine == cpos.line) = true) :
    SE Z X (.Call (.Attribute po "extend" apos) [pe] [] cpos) (.meth .extend o (.cons e .nil)) := by
  obtain ⟨t1, p1, f1⟩ := ho
  obtain ⟨t2, p2, f2⟩ := he
  have hs := tame_star ht [] X.env
  refine ⟨_, pe_bm PySem.F.plainAttrs_list PySem.F.slot_list_extend PySem.F.type_list_extend mt_extend p1 (pa_cons p2 pa_nil hs) (bare_base hb _ X.env _) (by rw [hs]; rfl) hl hs rfl, fun σ H F μ ρ M w M' Q r l ev q => ?_⟩
  simp only [Sig.ev, evalE, evalEs] at ev
  split at ev
  · rename_i u M1 e1
    split at ev
    · rename_i x d1
      split at ev
      · rename_i ws M2 e2
        split at e2
        · rename_i w2 M3 e3
          cases e2
          obtain ⟨i, v', xs, ys, rfl, hw, hx, hy, hz, rfl, rfl⟩ := extendM_eq (show extendM u [w2] _ = some (w, M') from ev)
          cases hw
          refine f1 σ H F μ ρ M _ M1 _ r l e1 fun v1 H1 F1 μ1 x1 r1 w1 => ⟨lst_ty r1 w1 d1, ?_⟩
          refine f2 σ H1 F1 μ1 ρ M1 _ _ _ r1 (l.mono x1) e3 fun v2 H2 F2 μ2 x2 r2 w2 => ?_
          obtain ⟨a, vs, rfl, ha, h3, h4⟩ := lst_at r2 (w1.mono x2) hx
          obtain ⟨b, zs, rfl, h5, h6⟩ := Dx.at r2 w2 hy
          refine ⟨a, b, vs, zs, rfl, rfl, h3, h5, by rw [h4.length, h6.length]; exact hz, ?_⟩
          have r3 := r2.write hx ha (h4.app h6)
          exact q _ _ F2 μ2 ((x1.trans x2 r2.nd).trans (Ext.write ha) r3.nd) r3 .non
        · cases e2
      · cases ev
    · cases ev
  · cases ev
theorem se_pop {po : Expr} {o : E} {apos cpos : Pos} (ho : SE Z X po o) (hb : bare po = true) (hl : (apos.endLine == cpos.line) = true) :
    SE Z X (.Call (.Attribute po "pop" apos) [] [] cpos) (.meth .pop o .nil) := by
  obtain ⟨t1, p1, f1⟩ := ho
  refine ⟨_, pe_bm0 PySem.F.plainAttrs_list PySem.F.slot_list_pop PySem.F.type_list_pop mt_pop p1 (bare_base hb _ X.env _) hl, fun σ H F μ ρ M w M' Q r l ev q => ?_⟩
  simp only [Sig.ev, evalE, evalEs] at ev
  split at ev
  · rename_i u M1 e1
    split at ev
    · rename_i x d1
      obtain ⟨i, y, xs, rfl, hw, hx, hy, rfl, rfl⟩ := popM_eq (show popM u [] M1 = some (w, M') from ev)
      refine f1 σ H F μ ρ M _ _ _ r l e1 fun v1 H1 F1 μ1 x1 r1 w1 => ⟨lst_ty r1 w1 d1, ?_⟩
      obtain ⟨a, vs, rfl, ha, h3, h4⟩ := lst_at r1 w1 hx
      have hy' : xs[xs.length - 1]? = some y := by rw [← List.getLast?_eq_getElem?]; exact hy
      obtain ⟨v, g1, g2⟩ := h4.get hy'
      rw [← h4.length] at g1
      refine ⟨a, vs, v, rfl, rfl, h3, g1, ?_⟩
      have r3 := r1.write hx ha h4.dropLast
      exact q _ _ F1 μ1 (x1.trans (Ext.write ha) r3.nd) r3 g2
    · cases ev
  · cases ev
end
end EV

/-! EvE4: what is walked, targets. -/
namespace EV
open PySem PySem.Spec PyProof.Rows L2
/-- the iterator J gives what src tells -/
def SrcR (K : PySem.W.Frag) (J : L2.It) (src : Src) (H F : Hp) (μ : List Addr) : Prop := match src with
  | .its xs => ∃ (G : Hp → Prop) (Y : Nat → Hp → V → Hp → Prop), Walk J xs.length G Y ∧ (∀ H', Sub F H' → G H') ∧ ∀ i H1 v H2 F1 μ1 M1, i < xs.length → Sub F F1 → Rel K H1 F1 μ1 M1 → Y i H1 v H2 →
      ∃ F2 d, Ext H1 F1 μ1 H2 F2 μ1 ∧ Rel K H2 F2 μ1 M1 ∧ xs[i]? = some d ∧ Dq K F2 v d
  | .cur i => ∃ a, μ[i]? = some a ∧ J = Itl K a
def SI (Z : Sig) (X : Cx) (ptg pit : Expr) (it : It) : Prop := ∃ wi, PI X ptg pit wi ∧ ∀ σ H F μ ρ M src M' (R : L2.It → Hp → Prop), Rel X.K H F μ M → LocR X.K F μ ρ σ → Z.evi it ρ M = some (src, M') →
  (∀ J H' F' μ', Ext H F μ H' F' μ' → Rel X.K H' F' μ' M' → SrcR X.K J src H' F' μ' → R J H') → wi σ H R
section
variable {Z : Sig} {X : Cx} {sc : Scope}
theorem pi_or {tg pit : Expr} {w1 w2 : TI} (h1 : PI X tg pit w1) (h2 : PI X tg pit w2) : PI X tg pit (fun σ H R => w1 σ H R ∨ w2 σ H R) :=
  ⟨fun pins s σ H R I h => h.elim (h1.run pins s σ H R I) (h2.run pins s σ H R I)⟩
theorem src_seq {K : PySem.W.Frag} {J : L2.It} {H F : Hp} {μ : List Addr} {vs : List V} {xs : List PyData} {G : Hp → Prop} (w : Walk J vs.length G (YAt vs)) (g : ∀ H', Sub F H' → G H') (d : Dqs K F vs xs) : SrcR K J (.its xs) H F μ := by
  rw [d.length] at w
  refine ⟨G, YAt vs, w, g, fun i H1 v H2 F1 μ1 M1 hi s r y => ?_⟩
  obtain ⟨rfl, hv⟩ := y
  obtain ⟨e, h1, h2⟩ := (d.mono s).get' hv
  exact ⟨F1, e, Ext.refl, r, h1, h2⟩
theorem src_tup {K : PySem.W.Frag} {H F : Hp} {μ : List Addr} {a : Addr} {vs : List V} {xs : List PyData} (h : SqT K F a vs) (d : Dqs K F vs xs) : SrcR K (Itt K a) (.its xs) H F μ :=
  src_seq walk_tup (fun H' s => sqT_mono s h) d
theorem src_lst {K : PySem.W.Frag} {H F : Hp} {μ : List Addr} {a : Addr} {vs : List V} {xs : List PyData} (h : SqL K F a vs) (d : Dqs K F vs xs) : SrcR K (Itl K a) (.its xs) H F μ :=
  src_seq walk_list (fun H' s => sqL_mono s h) d
theorem src_str {K : PySem.W.Frag} {H F : Hp} {μ : List Addr} {z : Str} : SrcR K (Its z) (.its (z.cps.toList.map fun c => .str ⟨#[c]⟩)) H F μ := by
  have w := walk_str (z := z)
  have hl : (z.cps.toList.map fun c => PyData.str ⟨#[c]⟩).length = z.cps.size := by simp
  rw [← hl] at w
  refine ⟨_, _, w, fun _ _ => trivial, fun i H1 v H2 F1 μ1 M1 hi s r y => ?_⟩
  obtain ⟨rfl, c, hc, rfl⟩ := y
  exact ⟨F1, .str ⟨#[c]⟩, Ext.refl, r, by simp [hc], .str _⟩
theorem si_seq {ptg pe : Expr} {e : E} (h : SE Z X pe e) : SI Z X ptg pe (.seq e) := by
  obtain ⟨t, p, f⟩ := h
  refine ⟨_, pi_or (pi_list p) (pi_or (pi_tup p) (pi_str p)), fun σ H F μ ρ M src M' R r l ev q => ?_⟩
  simp only [Sig.evi, evalIt] at ev
  split at ev
  · rename_i x M1 e1
    split at ev
    · rename_i xs e2
      cases ev
      cases x <;> try (cases e2; done)
      case list ys =>
        cases e2
        refine .inl (f σ H F μ ρ M _ M' _ r l e1 fun v H1 F1 μ1 x1 r1 v1 => ?_)
        cases v1 with
        | @lst a vs _ h1 q1 => exact ⟨a, rfl, ⟨vs, SqL.of (r1.sub _ _ h1)⟩, q _ H1 F1 μ1 x1 r1 (src_lst (SqL.of h1) q1)⟩
      case tuple ys =>
        cases e2
        refine .inr (.inl (f σ H F μ ρ M _ M' _ r l e1 fun v H1 F1 μ1 x1 r1 v1 => ?_))
        cases v1 with
        | @tup a vs _ h1 q1 => exact ⟨a, rfl, ⟨vs, sqT_mono r1.sub h1⟩, q _ H1 F1 μ1 x1 r1 (src_tup h1 q1)⟩
      case str z =>
        cases e2
        refine .inr (.inr (f σ H F μ ρ M _ M' _ r l e1 fun v H1 F1 μ1 x1 r1 v1 => ?_))
        cases v1
        exact ⟨z, rfl, q _ H1 F1 μ1 x1 r1 src_str⟩
    · cases ev
  · rename_i i M1 e1
    have hd : src = .cur i ∧ M' = M1 ∧ ∃ xs, M1[i]? = some (MO.lst xs) := by
      split at ev
      · rename_i xs hx
        cases ev
        exact ⟨rfl, rfl, xs, hx⟩
      · cases ev
    obtain ⟨rfl, rfl, xs, hx⟩ := hd
    refine .inl (f σ H F μ ρ M _ M' _ r l e1 fun v H1 F1 μ1 x1 r1 v1 => ?_)
    obtain ⟨a, vs, rfl, ha, h3, h4⟩ := lst_at r1 v1 hx
    exact ⟨a, rfl, ⟨vs, SqL.of h3⟩, q _ H1 F1 μ1 x1 r1 ⟨a, ha, rfl⟩⟩
  · rename_i ns M1 e1
    cases ev
    refine .inl (f σ H F μ ρ M _ M' _ r l e1 fun v H1 F1 μ1 x1 r1 v1 => ?_)
    obtain ⟨a, rfl, h3⟩ := v1
    exact ⟨a, rfl, ⟨_, sqL_mono r1.sub h3⟩, q _ H1 F1 μ1 x1 r1 (src_lst h3 (dqs_ints ns))⟩
  · cases ev
theorem irng_length (lo c : Int) (n : Nat) : (irng lo c n).length = n := by unfold irng; simp
theorem irng_get {lo c : Int} {n i : Nat} (h : i < n) : (irng lo c n)[i]? = some (.int (lo + (i : Int) * c)) := by
  unfold irng
  rw [List.getElem?_map, List.getElem?_range h]; rfl
theorem src_rng {K : PySem.W.Frag} {H F : Hp} {μ : List Addr} {lo : Int} {n : Nat} : SrcR K (Itr lo n) (.its (irng lo 1 n)) H F μ := by
  have w := walk_range (lo := lo) (n := n)
  refine ⟨_, _, (by rw [irng_length]; exact w), fun _ _ => trivial, fun i H1 v H2 F1 μ1 M1 hi s r y => ?_⟩
  obtain ⟨rfl, rfl⟩ := y
  rw [irng_length] at hi
  exact ⟨F1, _, Ext.refl, r, by rw [irng_get hi, Int.mul_one], .int _⟩
theorem src_rngC {K : PySem.W.Frag} {H F : Hp} {μ : List Addr} {lo c : Int} {n : Nat} : SrcR K (Itc lo c n) (.its (irng lo c n)) H F μ := by
  have w := walk_rangeC (lo := lo) (c := c) (n := n)
  refine ⟨_, _, (by rw [irng_length]; exact w), fun _ _ => trivial, fun i H1 v H2 F1 μ1 M1 hi s r y => ?_⟩
  obtain ⟨rfl, rfl⟩ := y
  rw [irng_length] at hi
  exact ⟨F1, _, Ext.refl, r, irng_get hi, .int _⟩
theorem evrng {es : Es} {ρ : Loc} {M M' : Mem} {src : Src} (ev : Z.evi (.rng es) ρ M = some (src, M')) : ∃ ws xs ys, Z.evs es ρ M = some (ws, M') ∧ plain ws = some xs ∧ rngOf xs = some ys ∧ src = .its ys := by
  simp only [Sig.evi, evalIt] at ev
  split at ev
  · rename_i ws M1 e1
    split at ev
    · rename_i xs e2
      split at ev
      · rename_i ys e3
        cases ev
        exact ⟨ws, xs, ys, e1, e2, e3, rfl⟩
      · cases ev
    · cases ev
  · cases ev
theorem ws_ints1 {K : PySem.W.Frag} {F : Hp} {vs : List V} {xs ys : List PyData} (d : Dqs K F vs xs) (e : rngOf xs = some ys) (hl : xs.length = 1) : ∃ j, vs = [V.int j] ∧ small62 j = true ∧ ys = irng 0 1 j.toNat := by
  obtain ⟨x, rfl⟩ : ∃ x, xs = [x] := by
    match xs, hl with
    | [x], _ => exact ⟨x, rfl⟩
  cases x with
  | int j =>
    simp only [rngOf] at e
    split at e
    · rename_i hj
      cases e
      cases d with
      | cons h t => cases t; cases h; exact ⟨j, rfl, hj, rfl⟩
    · cases e
  | _ => cases e
theorem ws_ints2 {K : PySem.W.Frag} {F : Hp} {vs : List V} {xs ys : List PyData} (d : Dqs K F vs xs) (e : rngOf xs = some ys) (hl : xs.length = 2) : ∃ i j, vs = [V.int i, V.int j] ∧ small62 i = true ∧ small62 j = true ∧ ys = irng i 1 (j - i).toNat := by
  obtain ⟨x, y, rfl⟩ : ∃ x y, xs = [x, y] := by
    match xs, hl with
    | [x, y], _ => exact ⟨x, y, rfl⟩
  cases x with
  | int i =>
    cases y with
    | int j =>
      simp only [rngOf] at e
      split at e
      · rename_i hj
        cases e
        cases d with
        | cons h t =>
          cases t with
          | cons h' t => cases t; cases h; cases h'; exact ⟨i, j, rfl, hj.1, hj.2, rfl⟩
      · cases e
    | _ => cases e
  | _ => cases y <;> cases e
theorem ws_ints3 {K : PySem.W.Frag} {F : Hp} {vs : List V} {xs ys : List PyData} (d : Dqs K F vs xs) (e : rngOf xs = some ys) (hl : xs.length = 3) : ∃ i j, vs = [V.int i, V.int j, V.int (-1)] ∧ small62 i = true ∧ small62 j = true ∧ ys = irng i (-1) (i - j).toNat := by
  obtain ⟨x, y, z, rfl⟩ : ∃ x y z, xs = [x, y, z] := by
    match xs, hl with
    | [x, y, z], _ => exact ⟨x, y, z, rfl⟩
  cases x with
  | int i =>
    cases y with
    | int j =>
      cases z with
      | int c =>
        simp only [rngOf] at e
        split at e
        · rename_i hj
          obtain ⟨h1, h2, rfl⟩ := hj
          cases e
          cases d with
          | cons h t =>
            cases t with
            | cons h' t =>
              cases t with
              | cons h'' t => cases t; cases h; cases h'; cases h''; exact ⟨i, j, rfl, h1, h2, rfl⟩
        · cases e
      | _ => cases e
    | _ => cases z <;> cases e
  | _ => cases y <;> cases z <;> cases e
theorem plain_length : ∀ {ws : List W} {xs : List PyData}, plain ws = some xs → xs.length = ws.length
  | [], _, e => by cases e; rfl
  | w :: ws, xs, e => by
    cases w with
    | d x =>
      obtain ⟨ys, e1, rfl⟩ := Option.map_eq_some_iff.mp (show (plain ws).map (x :: ·) = some xs from e)
      rw [List.length_cons, List.length_cons, plain_length e1]
    | m i => cases e
    | r ns => cases e
theorem si_rng (C : Ctx Z X sc) {ptg : Expr} {ps : List Expr} {es : Es} {p pos : Pos} (hg : isGl sc "range" = true) (hs : SA Z X ps es) (ht : ps.all tame = true) (hn : ps.length = 1 ∨ ps.length = 2 ∨ ps.length = 3) : SI Z X ptg (.Call (.Name "range" p) ps [] pos) (.rng es) := by
  obtain ⟨g1, g2⟩ := C.gl _ hg
  have hm := C.blt "range" (by decide)
  obtain ⟨t, pp, gl, g⟩ := hs
  match ps, hn with
  | [a], _ =>
    have hst := tames_star ht X.env
    refine ⟨_, pi_range1 g1 hm pp hst, fun σ H F μ ρ M src M' R r l ev q => ?_⟩
    obtain ⟨ws, xs, ys, e1, e2, e3, rfl⟩ := evrng ev
    refine g σ H F μ ρ M ws M' _ r l e1 fun vs H1 F1 μ1 x1 r1 v1 => ?_
    obtain ⟨j, rfl, hj, rfl⟩ := ws_ints1 (plain_dqs v1 e2) e3 (by rw [plain_length e2]; exact gl _ _ _ _ e1)
    obtain ⟨j1, j2⟩ := small62_eq hj
    exact ⟨j, rfl, j1, j2, q _ H1 F1 μ1 x1 r1 src_rng⟩
  | [a, b], _ =>
    have hst := tames_star ht X.env
    have ht2 : [b].all tame = true := by rw [List.all_cons, Bool.and_eq_true] at ht; exact ht.2
    refine ⟨_, pi_range2 g1 hm pp hst (tames_star ht2 X.env), fun σ H F μ ρ M src M' R r l ev q => ?_⟩
    obtain ⟨ws, xs, ys, e1, e2, e3, rfl⟩ := evrng ev
    refine g σ H F μ ρ M ws M' _ r l e1 fun vs H1 F1 μ1 x1 r1 v1 => ?_
    obtain ⟨i, j, rfl, hi, hj, rfl⟩ := ws_ints2 (plain_dqs v1 e2) e3 (by rw [plain_length e2]; exact gl _ _ _ _ e1)
    obtain ⟨i1, i2⟩ := small62_eq hi
    obtain ⟨j1, j2⟩ := small62_eq hj
    exact ⟨i, j, rfl, ⟨i1, i2, j1, j2⟩, q _ H1 F1 μ1 x1 r1 src_rng⟩
  | [a, b, c], _ =>
    rw [List.all_cons, Bool.and_eq_true] at ht
    refine ⟨_, pi_range3 g1 hm pp (tame_star ht.1 _ X.env) (tames_plain ht.2 X.env pos), fun σ H F μ ρ M src M' R r l ev q => ?_⟩
    obtain ⟨ws, xs, ys, e1, e2, e3, rfl⟩ := evrng ev
    refine g σ H F μ ρ M ws M' _ r l e1 fun vs H1 F1 μ1 x1 r1 v1 => ?_
    obtain ⟨i, j, rfl, hi, hj, rfl⟩ := ws_ints3 (plain_dqs v1 e2) e3 (by rw [plain_length e2]; exact gl _ _ _ _ e1)
    obtain ⟨i1, i2⟩ := small62_eq hi
    obtain ⟨j1, j2⟩ := small62_eq hj
    exact ⟨i, j, -1, _, rfl, RgC.neg i1 i2 j1 j2, q _ H1 F1 μ1 x1 r1 src_rngC⟩

/-! ### pairs -/
theorem dqs_sqA {K : PySem.W.Frag} {F : Hp} {v : V} {x : PyData} {xs : List PyData} (h : Dq K F v x) (e : seqs x = some xs) : ∃ k a vs, v = .ref a ∧ SqA K k F a vs ∧ Dqs K F vs xs := by
  cases x <;> try (cases e; done)
  case list ys =>
    cases e
    cases h with
    | @lst a vs _ h1 q1 => exact ⟨true, a, vs, rfl, SqL.of h1, q1⟩
  case tuple ys =>
    cases e
    cases h with
    | @tup a vs _ h1 q1 => exact ⟨false, a, vs, rfl, h1, q1⟩
theorem sqA_mono {K : PySem.W.Frag} {k : Bool} {F H : Hp} (s : Sub F H) {a : Addr} {vs : List V} (h : SqA K k F a vs) : SqA K k H a vs := by
  cases k
  · exact sqT_mono s h
  · exact sqL_mono s h
theorem pairs_length : ∀ (k : Nat) (xs : List PyData), (pairs k xs).length = xs.length
  | _, [] => rfl
  | k, _ :: xs => congrArg (· + 1) (pairs_length (k + 1) xs)
theorem pairs_get : ∀ (k : Nat) (xs : List PyData) (i : Nat) (x : PyData), xs[i]? = some x → (pairs k xs)[i]? = some (.tuple [.int ((k + i : Nat) : Int), x])
  | _, [], _, _, h => by simp at h
  | k, y :: ys, 0, x, h => by
    have : y = x := Option.some.inj h
    subst this; rfl
  | k, y :: ys, i + 1, x, h => by
    have := pairs_get (k + 1) ys i x (by simpa using h)
    show (pairs (k + 1) ys)[i]? = _
    rw [this]
    congr 4
    omega
theorem zips_length : ∀ (xs ys : List PyData), (zips xs ys).length = min xs.length ys.length
  | [], ys => by simp [zips]
  | _ :: _, [] => by simp [zips]
  | _ :: xs, _ :: ys => by simp [zips, zips_length xs ys]
theorem zips_get : ∀ (xs ys : List PyData) (i : Nat) (x y : PyData), xs[i]? = some x → ys[i]? = some y → (zips xs ys)[i]? = some (.tuple [x, y])
  | [], _, _, _, _, h, _ => by simp at h
  | _ :: _, [], _, _, _, _, h => by simp at h
  | a :: xs, b :: ys, 0, x, y, h, h' => by
    have e1 : a = x := Option.some.inj h
    have e2 : b = y := Option.some.inj h'
    subst e1 e2; rfl
  | a :: xs, b :: ys, i + 1, x, y, h, h' => zips_get xs ys i x y (by simpa using h) (by simpa using h')
theorem pair_new {K : PySem.W.Frag} {H1 F1 : Hp} {μ : List Addr} {M : Mem} (r : Rel K H1 F1 μ M) {T : Addr} {x y : V} {d e : PyData} (n : H1 T = none) (hx : Dq K F1 x d) (hy : Dq K F1 y e) :
    Ext H1 F1 μ (upd H1 T (.tup [x, y])) (upd F1 T (.tup [x, y])) μ ∧ Rel K (upd H1 T (.tup [x, y])) (upd F1 T (.tup [x, y])) μ M ∧ Dq K (upd F1 T (.tup [x, y])) (.ref T) (.tuple [d, e]) :=
  ⟨Ext.new n r.sub, r.new n, .tup (SqT.of upd_same) (.cons (hx.mono (Sub.new (r.sub.none n))) (.cons (hy.mono (Sub.new (r.sub.none n))) .nil))⟩
theorem si_enum (C : Ctx Z X sc) {elts : List Expr} {kk : Nat} {tpos : Pos} {pe : Expr} {e : E} {p pos : Pos} (hg : isGl sc "enumerate" = true) (h : SE Z X pe e) (ht : tame pe = true) : SI Z X (.Tuple elts kk tpos) (.Call (.Name "enumerate" p) [pe] [] pos) (.enum e) := by
  obtain ⟨g1, g2⟩ := C.gl _ hg
  obtain ⟨t, pp, f⟩ := h
  have hst := tame_star ht [] X.env
  refine ⟨_, pi_enumA g1 (C.blt "enumerate" (by decide)) (pa_cons pp pa_nil hst) hst, fun σ H F μ ρ M src M' R r l ev q => ?_⟩
  simp only [Sig.evi, evalIt] at ev
  split at ev
  · rename_i x M1 e1
    split at ev
    · rename_i xs e2
      cases ev
      refine f σ H F μ ρ M _ M' _ r l e1 fun v H1 F1 μ1 x1 r1 v1 => ?_
      obtain ⟨k, a, vs, rfl, h1, q1⟩ := dqs_sqA v1 e2
      refine ⟨k, a, vs, rfl, sqA_mono r1.sub h1, q _ H1 F1 μ1 x1 r1 ?_⟩
      have w := walk_pairs (N := vs.length) (G := fun H => SqA X.K k H a vs) (xs := fun i => some (.int (i : Nat))) (ys := fun i => vs[i]?)
      have hl : (pairs 0 xs).length = vs.length := by rw [pairs_length]; exact q1.length.symm
      rw [← hl] at w
      refine ⟨_, _, (by rw [← hl]; exact w), fun H' s => sqA_mono s h1, fun i H2 v H3 F2 μ2 M2 hi s r2 y => ?_⟩
      obtain ⟨T, x', y', rfl, n, rfl, hx, hy⟩ := y
      cases hx
      obtain ⟨d, hd, hq⟩ := (q1.mono s).get' hy
      obtain ⟨k1, k2, k3⟩ := pair_new r2 n (.int (i : Nat)) hq
      refine ⟨_, _, k1, k2, ?_, k3⟩
      rw [pairs_get 0 xs i d hd, Nat.zero_add]
    · cases ev
  · cases ev
theorem si_zip (C : Ctx Z X sc) {elts : List Expr} {kk : Nat} {tpos : Pos} {pa pb : Expr} {a b : E} {p pos : Pos} (hg : isGl sc "zip" = true) (ha : SE Z X pa a) (hta : tame pa = true) (hb : SE Z X pb b) (htb : tame pb = true) :
    SI Z X (.Tuple elts kk tpos) (.Call (.Name "zip" p) [pa, pb] [] pos) (.zip a b) := by
  obtain ⟨g1, g2⟩ := C.gl _ hg
  obtain ⟨t, pp, f⟩ := ha
  obtain ⟨t2, pp2, f2⟩ := hb
  have hst := tame_star hta [pb] X.env
  have hst2 := tame_star htb [] X.env
  have ht2 : [pb].all tame = true := by simp [htb]
  refine ⟨_, pi_zipB g1 (C.blt "zip" (by decide)) (pa_cons pp (pa_cons pp2 pa_nil hst2) hst) hst (tames_plain ht2 X.env pos), fun σ H F μ ρ M src M' R r l ev q => ?_⟩
  simp only [Sig.evi, evalIt] at ev
  split at ev
  · rename_i x M1 e1
    split at ev
    · rename_i y M2 e2
      split at ev
      · rename_i xs ys e3 e4
        cases ev
        refine f σ H F μ ρ M _ M1 _ r l e1 fun v H1 F1 μ1 x1 r1 v1 => ?_
        refine f2 σ H1 F1 μ1 ρ M1 _ M' _ r1 (l.mono x1) e2 fun u H2 F2 μ2 x2 r2 u1 => ?_
        obtain ⟨k1, a1, vs, rfl, h1, q1⟩ := dqs_sqA (Dq.mono x2.fr _ v1) e3
        obtain ⟨k2, a2, us, rfl, h2, q2⟩ := dqs_sqA u1 e4
        refine ⟨k1, k2, a1, a2, vs, us, rfl, ⟨sqA_mono r2.sub h1, sqA_mono r2.sub h2⟩, q _ H2 F2 μ2 (x1.trans x2 r2.nd) r2 ?_⟩
        have hl : (zips xs ys).length = min vs.length us.length := by rw [zips_length, q1.length, q2.length]
        have w : Walk (Itp (min vs.length us.length) (fun H => SqA X.K k1 H a1 vs ∧ SqA X.K k2 H a2 us) (fun i => vs[i]?) (fun i => us[i]?)) (zips xs ys).length (fun H => SqA X.K k1 H a1 vs ∧ SqA X.K k2 H a2 us) (YPair (fun i => vs[i]?) (fun i => us[i]?)) := by
          rw [hl]; exact walk_pairs
        refine ⟨_, _, w, fun H' s => ⟨sqA_mono s h1, sqA_mono s h2⟩, fun i H3 v H4 F3 μ3 M3 hi s r3 yy => ?_⟩
        obtain ⟨T, x', y', rfl, n, rfl, hx, hy⟩ := yy
        obtain ⟨d, hd, hq⟩ := (q1.mono s).get' hx
        obtain ⟨d2, hd2, hq2⟩ := (q2.mono s).get' hy
        obtain ⟨j1, j2, j3⟩ := pair_new r3 n hq hq2
        exact ⟨_, _, j1, j2, zips_get xs ys i d d2 hd hd2, j3⟩
      · cases ev
    · cases ev
  · cases ev

/-! ### targets -/
def tSlots : T → List Nat
  | .v i => [i]
  | .tv is => is
def SG (Z : Sig) (X : Cx) (ptg : Expr) (tg : T) : Prop := ∃ g, PG X ptg g ∧ ∀ v σ H F μ ρ d ρ' (Q : L2.St → Hp → Prop), Sub F H → LocR X.K F μ ρ σ → Dq X.K F v d → bindT tg d ρ = some ρ' →
  (∀ σ', LocR X.K F μ ρ' σ' → (∀ vs : List Nat, (∀ i ∈ tSlots tg, i ∈ vs) → wipe σ' vs = wipe σ vs) → Q σ' H) → g v σ H Q
theorem wipe_get (σ : L2.St) (j : Nat) : ∀ vs : List Nat, (wipe σ vs)[j]? = if j ∈ vs ∧ j < σ.length then some none else σ[j]?
  | [] => by simp [wipe]
  | v :: vs => by
    show ((wipe σ vs).set v none)[j]? = _
    by_cases h : v = j
    · subst h
      by_cases hl : v < σ.length
      · rw [List.getElem?_set_self (by rw [wipe_length]; exact hl)]
        simp [hl]
      · rw [List.getElem?_eq_none (by simp [wipe_length]; omega), List.getElem?_eq_none (by omega)]
        simp [hl]
    · rw [List.getElem?_set_ne h, wipe_get σ j vs]
      simp [Ne.symm h]
theorem wipe_set (σ : L2.St) (i : Nat) (x : Option V) (vs : List Nat) (h : i ∈ vs) : wipe (σ.set i x) vs = wipe σ vs := by
  apply List.ext_getElem?
  intro j
  rw [wipe_get, wipe_get, List.length_set]
  by_cases hj : i = j
  · subst hj
    by_cases hl : i < σ.length
    · simp [h, hl]
    · rw [List.getElem?_eq_none (by simp; omega), List.getElem?_eq_none (by omega)]
  · rw [List.getElem?_set_ne hj]
theorem wipe_wipe (σ : L2.St) (vs : List Nat) : wipe (wipe σ vs) vs = wipe σ vs := by
  apply List.ext_getElem?
  intro j
  rw [wipe_get, wipe_get, wipe_length]
  split
  · rfl
  · rfl
theorem sg_v (C : Ctx Z X sc) {i : Nat} {x : Str} {pos : Pos} (h1 : Z.N[i]? = some x) (h2 : isLoc sc x = true) : SG Z X (.Name x pos) (.v i) := by
  refine ⟨_, pg_name (i := i) (by rw [C.names]; exact C.nd) (by rw [C.names]; exact h1) (C.loc x h2) (C.fnc x h2), fun v σ H F μ ρ d ρ' Q s l hd e q => ?_⟩
  cases e
  exact q _ (l.set i hd) fun vs hv => wipe_set σ i _ vs (hv i (by simp [tSlots]))
theorem sgs (C : Ctx Z X sc) : ∀ {is : List Nat} {pes : List Expr}, okNms Z.N sc is pes = true → is.length = pes.length ∧ ∃ g, PGs X pes g ∧ ∀ vs σ H F μ ρ ds (Q : L2.St → Hp → Prop), LocR X.K F μ ρ σ → Dqs X.K F vs ds → ds.length = is.length →
    (∀ σ', LocR X.K F μ (setAll is ds ρ) σ' → (∀ ws : List Nat, (∀ i ∈ is, i ∈ ws) → wipe σ' ws = wipe σ ws) → Q σ' H) → g vs σ H Q
  | [], [], _ => ⟨rfl, _, pgs_nil, fun vs σ H F μ ρ ds Q l hd hl q => by
      cases ds with
      | cons _ _ => cases hl
      | nil => cases hd; exact ⟨rfl, q σ l fun _ _ => rfl⟩⟩
  | [], _ :: _, h => by cases h
  | _ :: _, [], h => by cases h
  | i :: is, pe :: pes, h => by
    cases pe <;> try (cases h; done)
    rename_i x pos
    unfold okNms at h
    rw [Bool.and_eq_true, Bool.and_eq_true] at h
    obtain ⟨⟨h1, h2⟩, h3⟩ := h
    have h1 := of_decide_eq_true h1
    obtain ⟨hl, g, pg, f⟩ := sgs C h3
    refine ⟨congrArg (· + 1) hl, _, pgs_cons (pg_name (i := i) (by rw [C.names]; exact C.nd) (by rw [C.names]; exact h1) (C.loc x h2) (C.fnc x h2)) pg, fun vs σ H F μ ρ ds Q l hd hn q => ?_⟩
    cases ds with
    | nil => cases hn
    | cons d ds =>
      cases hd with
      | @cons v vs' _ _ hv hd =>
        refine ⟨v, vs', rfl, ?_⟩
        refine f vs' _ H F μ _ ds Q (l.set i (w := .d d) hv) hd (by simpa using hn) fun σ' l' hw => ?_
        refine q σ' l' fun ws hm => ?_
        rw [hw ws fun j hj => hm j (by simp [hj])]
        exact wipe_set σ i _ ws (hm i (by simp))
theorem sg_tv (C : Ctx Z X sc) {is : List Nat} {pes : List Expr} {k : Nat} {pos : Pos} (h : okNms Z.N sc is pes = true) : SG Z X (.Tuple pes k pos) (.tv is) := by
  obtain ⟨hl, g, pg, f⟩ := sgs C h
  have hn : ∀ (pes : List Expr) (is : List Nat), okNms Z.N sc is pes = true → (assignEach pes X.env).length = pes.length ∧ (assignEach pes X.env).findIdx? (·.1) = none := by
    intro pes
    induction pes with
    | nil => intro is _; exact ⟨rfl, rfl⟩
    | cons pe pes ih =>
      intro is h
      cases is with
      | nil => cases h
      | cons i is =>
        cases pe <;> try (cases h; done)
        unfold okNms at h
        rw [Bool.and_eq_true] at h
        obtain ⟨a1, a2⟩ := ih is h.2
        exact ⟨congrArg (· + 1) a1, by
          show List.findIdx? (·.1) ((false, _) :: assignEach pes X.env) = none
          rw [List.findIdx?_cons, a2]
          simp⟩
  obtain ⟨n1, n2⟩ := hn pes is h
  refine ⟨_, pg_tup (n := pes.length) C.calm pg n1 n2, fun v σ H F μ ρ d ρ' Q s l hd e q => ?_⟩
  cases d <;> try (cases e; done)
  rename_i xs
  simp only [bindT] at e
  split at e
  · rename_i hx
    cases e
    cases hd with
    | @tup a vs _ h1 q1 =>
      exact ⟨a, vs, rfl, sqT_mono s h1, by rw [q1.length, hx, hl], f vs σ H F μ ρ xs Q l q1 hx fun σ' l' hw => q σ' l' hw⟩
  · cases e
end
end EV

/-! EvE5: comprehensions; every expression. -/
namespace EV
open PySem PySem.Spec PyProof.Rows L2
theorem lookup_relabel_free {env : PySem.Env} : ∀ {names : List (Str × NameKind)} {x : Str}, names.lookup x = some .free →
    (names.map fun (n, k) => if (k == NameKind.free && env.scope.kind == .function && env.kindOf n == some .cell) then (n, NameKind.cell) else (n, k)).lookup x = some .cell ∨
    (names.map fun (n, k) => if (k == NameKind.free && env.scope.kind == .function && env.kindOf n == some .cell) then (n, NameKind.cell) else (n, k)).lookup x = some .free
  | [], _, h => by simp at h
  | (n, k) :: r, x, h => by
    have ih := @lookup_relabel_free env r x
    show List.lookup x ((if (k == NameKind.free && env.scope.kind == .function && env.kindOf n == some .cell) = true then (n, NameKind.cell) else (n, k)) :: (r.map _)) = _ ∨ List.lookup x ((if (k == NameKind.free && env.scope.kind == .function && env.kindOf n == some .cell) = true then (n, NameKind.cell) else (n, k)) :: (r.map _)) = _
    cases hx : x == n with
    | true =>
      simp only [List.lookup_cons, hx] at h
      cases h
      by_cases hc : (NameKind.free == NameKind.free && env.scope.kind == .function && env.kindOf n == some .cell) = true
      · left; rw [if_pos hc]; simp only [List.lookup_cons, hx]
      · right; rw [if_neg hc]; simp only [List.lookup_cons, hx]
    | false =>
      simp only [List.lookup_cons, hx] at h
      have ih' := ih h
      by_cases hc : (k == NameKind.free && env.scope.kind == .function && env.kindOf n == some .cell) = true
      · rw [if_pos hc]; simp only [List.lookup_cons, hx]; exact ih'
      · rw [if_neg hc]; simp only [List.lookup_cons, hx]; exact ih'
section
variable {Z : Sig} {X : Cx} {sc cs : Scope}
/-- the block of a comprehension is such a context again -/
theorem Ctx.blk (C : Ctx Z X sc) (hk : cs.kind = .function) (s : Shared) (H : Hp) (D : Addr) (cl : List (Str × Addr)) (fp : List Addr) : Ctx Z (X.blk s H cs (compEnvC cs cl D X.env) fp) cs := by
  have keep : ∀ {x : Str} {k : NameKind}, k ≠ .free → cs.names.lookup x = some k → (relabel cs X.env).names.lookup x = some k := fun {x k} hk h => lookup_relS_keep (sc := X.env.scope) hk h
  have free : ∀ {x : Str}, cs.names.lookup x = some .free → (relabel cs X.env).names.lookup x = some .cell ∨ (relabel cs X.env).names.lookup x = some .free := fun {x} h => lookup_relabel_free h
  refine ⟨hk, fun x h => ?_, fun x h => ?_, fun x h => ?_, fun x h => ?_, fun x h => ?_, fun x h => ?_, C.names, C.nd, C.calm, rfl, C.room, C.fns, C.gls, C.blt, C.imp⟩
  · unfold isVis at h
    split at h <;> try (cases h; done)
    · rename_i e; exact .inl (keep (by decide) e)
    · rename_i e; exact .inr (.inl (keep (by decide) e))
    · rename_i e
      rcases free e with e | e
      · exact .inr (.inl e)
      · exact .inr (.inr e)
  · unfold isLoc at h
    split at h <;> try (cases h; done)
    · rename_i e; exact .inl (keep (by decide) e)
    · rename_i e; exact .inr (keep (by decide) e)
  · unfold isLocal at h
    split at h <;> try (cases h; done)
    rename_i e; exact keep (by decide) e
  · unfold isGl at h
    split at h <;> try (cases h; done)
    rename_i e
    exact ⟨keep (by decide) e, by simpa using h⟩
  · rcases h with e | e
    · exact .inl (keep (by decide) e)
    · exact free e
  · unfold isLoc at h
    split at h <;> try (cases h; done)
    · rename_i e; exact .inr (keep (by decide) e)
    · rename_i e
      refine .inl ?_
      show (cs.names.lookup x == some .cell) = true
      rw [e]; rfl
theorem blkC_kind {N : List Str} {sc scope : Scope} {own : List (Str × Nat)} (h : blkC N sc scope own = true) : scope.kind = .function := (blkOk_by h).kind
/-- the block's names, by what the scope says of them -/
theorem Ctx.blkOk (C : Ctx Z X sc) {own : List (Str × Nat)} (h : blkC Z.N sc cs own = true) : BlkOk X.N X.env.scope cs own := by
  obtain ⟨b1, b2, b3, b4, b5⟩ := blkOk_by h
  rw [C.names]
  exact ⟨b1, b2, b3, fun y hy e => C.frc y.1 (b4 y hy e), b5⟩
theorem ownOf_slots {N : List Str} : ∀ {is : List Nat} {o : List (Str × Nat)}, ownOf N is = some o → o.map (·.2) = is
  | [], o, h => by cases h; rfl
  | i :: is, o, h => by
    simp only [ownOf] at h
    split at h
    · rename_i x r e1 e2
      cases h
      rw [List.map_cons, ownOf_slots e2]
    · cases h
theorem compL_cons {f : PyData → List PyData → Mem → Option (List PyData × Mem)} {x : PyData} {xs acc ys : List PyData} {M M2 : Mem} (h : compL f (x :: xs) acc M = some (ys, M2)) : ∃ acc' M', f x acc M = some (acc', M') ∧ compL f xs acc' M' = some (ys, M2) := by
  simp only [compL] at h
  split at h
  · rename_i a b e; exact ⟨a, b, e, h⟩
  · cases h
/-- one turn of a comprehension -/
def turnC (Z : Sig) (own : List Nat) (tg : T) (c elt : E) (ρ : Loc) : PyData → List PyData → Mem → Option (List PyData × Mem) := fun x acc M => match bindT tg x (wipeL ρ own) with
  | some ρ2 => match testOf (Z.ev c ρ2 M) with
    | some (true, M2) => match Z.ev elt ρ2 M2 with
      | some (.d y, M3) => if acc.length < sizeLine then some (acc ++ [y], M3) else none
      | _ => none
    | some (false, M2) => some (acc, M2)
    | none => none
  | none => none
def runC (f : PyData → List PyData → Mem → Option (List PyData × Mem)) (wf : Nat) (M1 : Mem) (src : Src) : Option (List PyData × Mem) := match src with
  | .its xs => compL f xs [] M1
  | .cur i => compC f i wf 0 [] M1
theorem comp_eq {mu : Bool} {own : List Nat} {tg : T} {it : It} {c elt : E} {ρ : Loc} {M M' : Mem} {w : W} (h : Z.ev (.comp mu own tg it c elt) ρ M = some (w, M')) :
    ∃ src M1 ys M2, Z.evi it ρ M = some (src, M1) ∧ runC (turnC Z own tg c elt ρ) Z.wf M1 src = some (ys, M2) ∧ give mu (.list ys) M2 = some (w, M') := by
  simp only [Sig.ev, evalE] at h
  split at h
  · rename_i src M1 e1
    split at h
    · rename_i ys M2 e2
      refine ⟨src, M1, ys, M2, e1, ?_, h⟩
      cases src <;> exact e2
    · cases h
  · cases h
abbrev ETt := ∀ (σ : L2.St) (H : Hp) (Q : VK), Prop
/-- what one turn does to the machine: the list that is made lies at D, none of ours -/
theorem turn_go {own : List Nat} {tg : T} {c elt : E} {g : TG} {tt : TT} {te : TE}
    (fg : ∀ v σ H F μ ρ d ρ' (Q : L2.St → Hp → Prop), Sub F H → LocR X.K F μ ρ σ → Dq X.K F v d → bindT tg d ρ = some ρ' → (∀ σ', LocR X.K F μ ρ' σ' → (∀ vs : List Nat, (∀ i ∈ tSlots tg, i ∈ vs) → wipe σ' vs = wipe σ vs) → Q σ' H) → g v σ H Q)
    (ft : ∀ σ H F μ ρ M b M' (Q : Bool → Hp → Prop), Rel X.K H F μ M → LocR X.K F μ ρ σ → testOf (Z.ev c ρ M) = some (b, M') → (∀ H' F' μ', Ext H F μ H' F' μ' → Rel X.K H' F' μ' M' → Q b H') → tt σ H Q)
    (fe : ∀ σ H F μ ρ M w M' (Q : VK), Rel X.K H F μ M → LocR X.K F μ ρ σ → Z.ev elt ρ M = some (w, M') → (∀ v H' F' μ', Ext H F μ H' F' μ' → Rel X.K H' F' μ' M' → ValR X.K F' μ' w v → Q v H') → te σ H Q)
    (hsub : ∀ i ∈ tSlots tg, i ∈ own) {x : V} {d : PyData} {σ : L2.St} {H F : Hp} {μ : List Addr} {ρ : Loc} {M M' : Mem} {acc acc' : List PyData} {D : Addr} {vs : List V} (Nx : Hp → Prop)
    (r : Rel X.K H F μ M) (l : LocR X.K F μ ρ σ) (hd : Dq X.K F x d) (hD : H D = some (.lst vs)) (hDm : D ∉ μ) (hDf : F D = none) (ha : Dqs X.K F vs acc) (ev : turnC Z own tg c elt ρ d acc M = some (acc', M'))
    (q : ∀ H' F' μ' vs', Ext H F μ (upd H' D (.lst vs)) F' μ' → Rel X.K H' F' μ' M' → H' D = some (.lst vs') → D ∉ μ' → F' D = none → Dqs X.K F' vs' acc' → (∃ H0, Ext H F μ H0 F' μ' ∧ H' = upd H0 D (.lst vs')) → Nx H') :
    g x (wipe σ own) H fun σ2 H2 => wipe σ2 own = wipe σ own ∧ tt σ2 H2 fun b H3 => if b = true then te σ2 H3 fun y H4 => ∃ acc, H4 D = some (.lst acc) ∧ acc.length < sizeLine ∧ Nx (upd H4 D (.lst (acc ++ [y]))) else Nx H3 := by
  have updD : ∀ {H0 : Hp} {ws : List V}, H0 D = some (.lst ws) → upd H0 D (.lst ws) = H0 := fun {H0 ws} h => by
    funext b
    by_cases e : b = D
    · rw [e, upd_same]; exact h.symm
    · rw [upd_ne e]
  unfold turnC at ev
  split at ev
  · rename_i ρ2 e1
    refine fg x (wipe σ own) H F μ (wipeL ρ own) d ρ2 _ r.sub (l.wipe own) hd e1 fun σ2 l2 hw => ⟨by rw [hw own hsub]; exact wipe_wipe σ own, ?_⟩
    split at ev
    · rename_i M2 e2
      refine ft σ2 H F μ ρ2 M true M2 _ r l2 e2 fun H3 F3 μ3 x3 r3 => ?_
      rw [if_pos rfl]
      split at ev
      · rename_i y M3 e3
        split at ev
        · rename_i hz
          cases ev
          obtain ⟨k1, k2, k3⟩ := x3.out hD hDm hDf
          refine fe σ2 H3 F3 μ3 ρ2 M2 _ M' _ r3 (l2.mono x3) e3 fun v H4 F4 μ4 x4 r4 v4 => ?_
          obtain ⟨j1, j2, j3⟩ := x4.out k1 k2 k3
          have x5 := x3.trans x4 r4.nd
          have ha4 : Dqs X.K F4 vs acc := ha.mono x5.fr
          have hv : Dq X.K F4 v y := v4
          refine ⟨vs, j1, by rw [ha4.length]; exact hz, q _ F4 μ4 _ ?_ (r4.side j2 j3) upd_same j2 j3 (ha4.app (.cons hv .nil)) ⟨H4, x5, rfl⟩⟩
          rw [upd_upd, updD j1]; exact x5
        · cases ev
      · cases ev
    · rename_i M2 e2
      cases ev
      refine ft σ2 H F μ ρ2 M false M' _ r l2 e2 fun H3 F3 μ3 x3 r3 => ?_
      rw [if_neg (by decide)]
      obtain ⟨k1, k2, k3⟩ := x3.out hD hDm hDf
      exact q H3 F3 μ3 vs (by rw [updD k1]; exact x3) r3 k1 k2 k3 (ha.mono x3.fr) ⟨H3, x3, (updD k1).symm⟩
    · cases ev
  · cases ev
theorem Ext.away {H F H' F' : Hp} {μ μ' : List Addr} {p : Addr} {o : HO} (e : Ext H F μ (upd H' p o) F' μ') (n : H p = none) : Ext H F μ H' F' μ' :=
  ⟨e.fr, e.mu, fun a u h hm => by have q := e.kp a u h hm; rw [upd_ne (ne_of_none h n)] at q; exact q, e.nf⟩
/-- what is asked of a block's tests -/
def STs (Z : Sig) (X : Cx) (pifs : List Expr) (c : E) : Prop := ∃ t, PTs X pifs t ∧ ∀ σ H F μ ρ M b M' (Q : Bool → Hp → Prop), Rel X.K H F μ M → LocR X.K F μ ρ σ → testOf (Z.ev c ρ M) = some (b, M') →
  (∀ H' F' μ', Ext H F μ H' F' μ' → Rel X.K H' F' μ' M' → Q b H') → t σ H Q
theorem sts_nil : STs Z X [] (.lit (.bool true)) := by
  refine ⟨_, pts_nil, fun σ H F μ ρ M b M' Q r l ev q => ?_⟩
  have ev : some (true, M) = some (b, M') := ev
  cases ev
  exact q H F μ Ext.refl r
theorem sts_one {pc : Expr} {c : E} (h : ST Z X pc c) : STs Z X [pc] c := by
  obtain ⟨t, p, f⟩ := h
  exact ⟨t, pts_one p, f⟩
theorem sub_slots : ∀ {tg : T} {own : List Nat}, tSub tg own = true → ∀ i ∈ tSlots tg, i ∈ own
  | .v i, own, h, j, hj => by
    have : j = i := by simpa [tSlots] using hj
    subst this
    simpa [tSub] using h
  | .tv is, own, h, j, hj => by
    have := List.all_eq_true.mp (show is.all own.contains = true from h) j hj
    simpa using this
/-- the list at D, done -/
theorem comp_end {mu : Bool} {ys : List PyData} {M2 M' : Mem} {w : W} {H1 F1 H F : Hp} {μ1 μ : List Addr} {D : Addr} {vs : List V} {Q : VK} (hg : give mu (.list ys) M2 = some (w, M')) (x : Ext H1 F1 μ1 H F μ) (n : H1 D = none) (r : Rel X.K H F μ M2)
    (hD : H D = some (.lst vs)) (hDm : D ∉ μ) (hDf : F D = none) (d : Dqs X.K F vs ys) (q : ∀ v H' F' μ', Ext H1 F1 μ1 H' F' μ' → Rel X.K H' F' μ' M' → ValR X.K F' μ' w v → Q v H') : Q (.ref D) H := by
  cases mu with
  | false =>
    cases hg
    refine q _ H (upd F D (.lst vs)) μ ?_ (r.take hD hDm hDf) (.lst upd_same (d.mono (Sub.new hDf)))
    refine ⟨x.fr.trans (Sub.new hDf), x.mu, x.kp, fun a o h => ?_⟩
    by_cases e : a = D
    · subst e; exact .inr (.inl n)
    · rw [upd_ne e] at h; exact x.nf a o h
  | true =>
    cases hg
    have r2 := r.own hD hDm hDf d
    obtain ⟨f, ⟨ν, rfl, hn⟩, k, nf⟩ := x
    refine q _ H F _ ⟨f, ⟨ν ++ [D], by rw [List.append_assoc], fun a ha => ?_⟩, k, nf⟩ r2 ⟨D, ?_, rfl⟩
    · rcases List.mem_append.mp ha with ha | ha
      · exact hn a ha
      · simp at ha; subst ha; exact n
    · rw [List.getElem?_append_right (by rw [r.len]; omega), r.len]; simp
theorem se_comp (C : Ctx Z X sc) {mu : Bool} {own : List Nat} {o : List (Str × Nat)} {tg : T} {it : It} {c elt : E} {ptg pit pelt : Expr} {pifs : List Expr} {pos : Pos} (hi : SI Z X ptg pit it) (hf : tame pit = true)
    (ho : ownOf Z.N own = some o) (hb : blkC Z.N sc cs o = true) (hsub : tSub tg own = true)
    (hg : ∀ s H D cl fp, SG Z (X.blk s H cs (compEnvC cs cl D X.env) fp) ptg tg) (ht : ∀ s H D cl fp, STs Z (X.blk s H cs (compEnvC cs cl D X.env) fp) pifs c) (he : ∀ s H D cl fp, SE Z (X.blk s H cs (compEnvC cs cl D X.env) fp) pelt elt) :
    SE Z X (.ListComp pelt [⟨ptg, pit, pifs, 0⟩] cs pos) (.comp mu own tg it c elt) ∧ ∀ (i : Nat) (y : Str) (py spos : Pos), Z.N[i]? = some y → X.env.scope.names.lookup y = some .local → swapsWith (.ListComp pelt [⟨ptg, pit, pifs, 0⟩] cs pos) (some (.Name y py)) spos.line X.env = pure true →
      ∃ t : TE, PS X (.Assign [.Name y py] (.ListComp pelt [⟨ptg, pit, pifs, 0⟩] cs pos) spos) (tAsg t (gName i)) ∧ ∀ σ H F μ ρ M w M' (Q : VK), Rel X.K H F μ M → LocR X.K F μ ρ σ → Z.ev (.comp mu own tg it c elt) ρ M = some (w, M') →
        (∀ v H' F' μ', Ext H F μ H' F' μ' → Rel X.K H' F' μ' M' → ValR X.K F' μ' w v → Q v H') → t σ H Q := by
  obtain ⟨wi, pI, fi⟩ := hi
  have hslots := sub_slots hsub
  -- readings for all blocks at once
  let g : TG := fun v σ H Q => ∀ s H0 D cl fp, (Classical.choose (hg s H0 D cl fp)) v σ H Q
  let tt : TT := fun σ H Q => ∀ s H0 D cl fp, (Classical.choose (ht s H0 D cl fp)) σ H Q
  let te : TE := fun σ H Q => ∀ s H0 D cl fp, (Classical.choose (he s H0 D cl fp)) σ H Q
  have pg : ∀ s H0 D cl fp, PG (X.blk s H0 cs (compEnvC cs cl D X.env) fp) ptg g := fun s H0 D cl fp => ⟨fun pins s' σ H v u Q I r h => (Classical.choose_spec (hg s H0 D cl fp)).1.run pins s' σ H v u Q I r (h s H0 D cl fp)⟩
  have pt : ∀ s H0 D cl fp, PTs (X.blk s H0 cs (compEnvC cs cl D X.env) fp) pifs tt := fun s H0 D cl fp => ⟨fun pins s' σ H Q I h => (Classical.choose_spec (ht s H0 D cl fp)).1.run pins s' σ H Q I (h s H0 D cl fp)⟩
  have pee : ∀ s H0 D cl fp, PE (X.blk s H0 cs (compEnvC cs cl D X.env) fp) pelt te := fun s H0 D cl fp => ⟨fun pins s' σ H Q I h => (Classical.choose_spec (he s H0 D cl fp)).1.run pins s' σ H Q I (h s H0 D cl fp)⟩
  have fg : ∀ v σ H F μ ρ d ρ' (Q : L2.St → Hp → Prop), Sub F H → LocR X.K F μ ρ σ → Dq X.K F v d → bindT tg d ρ = some ρ' → (∀ σ', LocR X.K F μ ρ' σ' → (∀ vs : List Nat, (∀ i ∈ tSlots tg, i ∈ vs) → wipe σ' vs = wipe σ vs) → Q σ' H) → g v σ H Q :=
    fun v σ H F μ ρ d ρ' Q a b c' d' e' s H0 D cl fp => (Classical.choose_spec (hg s H0 D cl fp)).2 v σ H F μ ρ d ρ' Q a b c' d' e'
  have ft : ∀ σ H F μ ρ M b M' (Q : Bool → Hp → Prop), Rel X.K H F μ M → LocR X.K F μ ρ σ → testOf (Z.ev c ρ M) = some (b, M') → (∀ H' F' μ', Ext H F μ H' F' μ' → Rel X.K H' F' μ' M' → Q b H') → tt σ H Q :=
    fun σ H F μ ρ M b M' Q a b' c' d' s H0 D cl fp => (Classical.choose_spec (ht s H0 D cl fp)).2 σ H F μ ρ M b M' Q a b' c' d'
  have fe : ∀ σ H F μ ρ M w M' (Q : VK), Rel X.K H F μ M → LocR X.K F μ ρ σ → Z.ev elt ρ M = some (w, M') → (∀ v H' F' μ', Ext H F μ H' F' μ' → Rel X.K H' F' μ' M' → ValR X.K F' μ' w v → Q v H') → te σ H Q :=
    fun σ H F μ ρ M w M' Q a b' c' d' s H0 D cl fp => (Classical.choose_spec (he s H0 D cl fp)).2 σ H F μ ρ M w M' Q a b' c' d'
  have fold : ∀ x, foldedSetIterable pit X.env x = pure x := tame_fold hf X.env
  have bok := C.blkOk hb
  have hN : X.N.Nodup := by rw [C.names]; exact C.nd
  have main : ∀ σ H F μ ρ M w M' (Q : VK), Rel X.K H F μ M → LocR X.K F μ ρ σ → Z.ev (.comp mu own tg it c elt) ρ M = some (w, M') → (∀ v H' F' μ', Ext H F μ H' F' μ' → Rel X.K H' F' μ' M' → ValR X.K F' μ' w v → Q v H') → tLc wi g tt te (o.map (·.2)) σ H Q := by
    intro σ H F μ ρ M w M' Q r l ev q
    rw [ownOf_slots ho]
    obtain ⟨src, M1, ys, M2, e1, e2, e3⟩ := comp_eq ev
    refine fi σ H F μ ρ M src M1 _ r l e1 fun J H1 F1 μ1 x1 r1 sr => fun D hD => ?_
    have hDm : D ∉ μ1 := fun z => by
      obtain ⟨u, hu⟩ := r1.al D z
      rw [hD] at hu; cases hu
    have hDf : F1 D = none := r1.sub.none hD
    have l1 := l.mono x1
    have fin : ∀ {H2 F2 : Hp} {μ2 : List Addr} {vs : List V}, Ext H1 F1 μ1 H2 F2 μ2 → Rel X.K H2 F2 μ2 M2 → H2 D = some (.lst vs) → D ∉ μ2 → F2 D = none → Dqs X.K F2 vs ys → Q (.ref D) H2 := fun x2 r2 a1 a2 a3 a4 =>
      comp_end e3 x2 hD r2 a1 a2 a3 a4 fun v H' F' μ' x' r' v' => q v H' F' μ' (x1.trans x' r'.nd) r' v'
    cases src with
    | its xs =>
      obtain ⟨G, Y, wk, hG, hy⟩ := sr
      refine lc_it wk (fun i Hc => ∃ F2 μ2 Mc acc vs, Ext H1 F1 μ1 Hc F2 μ2 ∧ Rel X.K Hc F2 μ2 Mc ∧ Hc D = some (.lst vs) ∧ D ∉ μ2 ∧ F2 D = none ∧ Dqs X.K F2 vs acc ∧ compL (turnC Z own tg c elt ρ) (xs.drop i) acc Mc = some (ys, M2)) ?_ ?_ ?_ ?_
      · exact ⟨F1, μ1, M1, [], [], Ext.side hD, r1.side hDm hDf, upd_same, hDm, hDf, .nil, e2⟩
      · rintro i Hc _ ⟨F2, μ2, Mc, acc, vs, x2, r2, _⟩
        exact hG Hc (x2.fr.trans r2.sub)
      · rintro i x Hc H' hi ⟨F2, μ2, Mc, acc, vs, x2, r2, a1, a2, a3, a4, a5⟩ yy
        obtain ⟨F3, d, x3, r3, hd, hq⟩ := hy i Hc x H' F2 μ2 Mc hi x2.fr r2 yy
        have hdr : xs.drop i = d :: xs.drop (i + 1) := by
          obtain ⟨h1, h2⟩ := List.getElem?_eq_some_iff.mp hd
          rw [List.drop_eq_getElem_cons h1, h2]
        rw [hdr] at a5
        obtain ⟨acc', Mn, t1, t2⟩ := compL_cons a5
        obtain ⟨b1, b2, b3⟩ := x3.out a1 a2 a3
        refine turn_go (Z := Z) fg ft fe hslots _ r3 ((l1.mono x2).mono x3) hq b1 b2 b3 (a4.mono x3.fr) t1 fun H4 F4 μ4 vs' x4 r4 c1 c2 c3 c4 _ => ?_
        exact ⟨F4, μ4, Mn, acc', vs', ((x2.trans x3 r3.nd).trans x4 r4.nd).away hD, r4, c1, c2, c3, c4, t2⟩
      · rintro Hc ⟨F2, μ2, Mc, acc, vs, x2, r2, a1, a2, a3, a4, a5⟩
        rw [List.drop_length] at a5
        cases a5
        exact fin x2 r2 a1 a2 a3 a4
    | cur ix =>
      obtain ⟨a, ha, rfl⟩ := sr
      refine ⟨fun k m Hc => ∃ F2 μ2 Mc acc vs, Ext H1 F1 μ1 Hc F2 μ2 ∧ Rel X.K Hc F2 μ2 Mc ∧ Hc D = some (.lst vs) ∧ D ∉ μ2 ∧ F2 D = none ∧ Dqs X.K F2 vs acc ∧ compC (turnC Z own tg c elt ρ) ix m k acc Mc = some (ys, M2),
        ⟨Z.wf, F1, μ1, M1, [], [], Ext.side hD, r1.side hDm hDf, upd_same, hDm, hDf, .nil, e2⟩, ?_⟩
      rintro k m Hc ⟨F2, μ2, Mc, acc, vs, x2, r2, a1, a2, a3, a4, a5⟩
      cases m with
      | zero => cases a5
      | succ n =>
        simp only [compC] at a5
        split at a5
        · rename_i zs hz
          obtain ⟨a', us, g1, g2, g3, g4⟩ := r2.lst ix zs hz
          rw [x2.get ha] at g1; cases g1
          split at a5
          · rename_i d hd
            split at a5
            · rename_i acc' Mn t1
              obtain ⟨u, hu, hq⟩ := g4.get hd
              refine .inr ⟨⟨us, u, SqL.of g3, hu⟩, fun H' => ∃ F2 μ2 Mc acc vs, Ext H1 F1 μ1 H' F2 μ2 ∧ Rel X.K H' F2 μ2 Mc ∧ H' D = some (.lst vs) ∧ D ∉ μ2 ∧ F2 D = none ∧ Dqs X.K F2 vs acc ∧ compC (turnC Z own tg c elt ρ) ix n (k + 1) acc Mc = some (ys, M2),
                fun H' hN => ⟨n, Nat.lt_succ_self n, hN⟩, fun x H' yy => ?_⟩
              obtain ⟨rfl, yy⟩ := yy
              have hx : u = x := Option.some.inj (hu.symm.trans (yy us (SqL.of g3)))
              subst hx
              refine turn_go (Z := Z) fg ft fe hslots _ r2 (l1.mono x2) hq a1 a2 a3 a4 t1 fun H4 F4 μ4 vs' x4 r4 c1 c2 c3 c4 _ => ?_
              exact ⟨F4, μ4, Mn, acc', vs', (x2.trans x4 r4.nd).away hD, r4, c1, c2, c3, c4, a5⟩
            · cases a5
          · rename_i hd
            cases a5
            refine .inl ⟨⟨us, SqL.of g3, ?_⟩, fin x2 r2 a1 a2 a3 a4⟩
            rw [g4.length]; exact List.getElem?_eq_none_iff.mp hd
        · cases a5
  refine ⟨⟨_, pe_lc C.calm hN pI bok pg pt pee fold, main⟩, fun i y py spos h1 h2 h3 => ⟨_, ps_setLc (i := i) C.calm hN (by rw [C.names]; exact h1) h2 h3 pI bok pg pt pee fold, main⟩⟩
end
end EV

/-! EvF: every expression of ours that stands for one of the machine's is sound. -/
namespace EV
open PySem PySem.Spec PyProof.Rows L2
section
variable {Z : Sig} {X : Cx} {sc : Scope}
theorem bin_ser {p : P2} {o : Operator} (h : binOk p o = true) : Ser2 X p (binaryOp o) ∧ p ≠ .ix := by
  cases p <;> cases o <;> first
    | (cases h; done)
    | exact ⟨ser_add, by decide⟩
    | exact ⟨ser_sub, by decide⟩
    | exact ⟨ser_mul, by decide⟩
    | exact ⟨ser_fdiv, by decide⟩
    | exact ⟨ser_mod, by decide⟩
    | exact ⟨ser_pow, by decide⟩
theorem cmp_ser (hu : X.A.units + 64 < cLine) {p : P2} {o : CmpOp} (h : cmpOk p o = true) : Ser2 X p (compareOp o) ∧ p ≠ .ix ∧ ∀ x y d, prim2 p x y = some d → ∃ c, d = .bool c := by
  have hm : ∀ {r : Option Bool} {g : Bool → Bool} {d : PyData}, r.map (fun b => PyData.bool (g b)) = some d → ∃ c, d = .bool c := fun {r g d} h => by
    obtain ⟨b, _, rfl⟩ := Option.map_eq_some_iff.mp h
    exact ⟨_, rfl⟩
  have hi : ∀ {q : P2} (f : Int → Int → Bool), (∀ x y, prim2 q x y = match x, y with | .int i, .int j => some (.bool (f i j)) | _, _ => none) → ∀ x y d, prim2 q x y = some d → ∃ c, d = .bool c := fun {q} f hf x y d h => by
    rw [hf] at h
    split at h
    · cases h; exact ⟨_, rfl⟩
    · cases h
  cases p <;> cases o <;> first
    | (cases h; done)
    | exact ⟨ser_eq hu, by decide, fun x y d h => hm (g := id) h⟩
    | exact ⟨ser_ne hu, by decide, fun x y d h => hm (g := not) h⟩
    | exact ⟨ser_is, by decide, fun x y d h => hm (g := id) h⟩
    | exact ⟨ser_isn, by decide, fun x y d h => hm (g := not) h⟩
    | exact ⟨ser_lt, by decide, hi (fun i j => decide (i < j)) fun x y => by cases x <;> cases y <;> rfl⟩
    | exact ⟨ser_le, by decide, hi (fun i j => decide (i ≤ j)) fun x y => by cases x <;> cases y <;> rfl⟩
    | exact ⟨ser_gt, by decide, hi (fun i j => decide (j < i)) fun x y => by cases x <;> cases y <;> rfl⟩
    | exact ⟨ser_ge, by decide, hi (fun i j => decide (j ≤ i)) fun x y => by cases x <;> cases y <;> rfl⟩
theorem blt_ser (hc : X.calm = true) {b : B} (h : b ≠ .len) (h2 : ∀ t, b ≠ .isi t) (hg : bGood Z.im b = true) (h3 : b ≠ .lcm) : SerB X b := by
  cases b with
  | len => exact absurd rfl h
  | abs => exact ser_abs
  | int => exact ser_int
  | all => exact ser_all hc
  | any => exact ser_any hc
  | sum => exact ser_sum hc
  | tuple => exact ser_tuple
  | list => exact ser_list
  | max => exact ser_max hc
  | min => exact ser_min hc
  | gcd => exact ser_gcd
  | lcm => exact absurd rfl h3
  | sorted => cases hg
  | str => cases hg
  | isi t => exact absurd rfl (h2 t)
theorem Ctx.hu (C : Ctx Z X sc) : X.A.units + 64 < cLine := C.room.units
theorem okEs_tame : ∀ {es : Es} {pes : List Expr}, okEs Z.fs Z.gs Z.im Z.N sc es pes = true → pes.all tame = true ∧ (pes = [] → es = .nil)
  | .nil, [], _ => ⟨rfl, fun _ => rfl⟩
  | .nil, _ :: _, h => by simp [okEs] at h
  | .cons _ _, [], h => by simp [okEs] at h
  | .cons e es, pe :: pes, h => by
    simp only [okEs, Bool.and_eq_true] at h
    refine ⟨?_, fun z => nomatch z⟩
    rw [List.all_cons, Bool.and_eq_true]
    exact ⟨h.1.2, (okEs_tame h.2).1⟩
theorem sgT (C : Ctx Z X sc) {tg : T} {pe : Expr} (h : okT Z.N sc tg pe = true) : SG Z X pe tg := by
  cases tg with
  | v i =>
    cases pe <;> try (cases h; done)
    rename_i x pos
    have h : (decide (Z.N[i]? = some x) && isLoc sc x) = true := h
    rw [Bool.and_eq_true] at h
    exact sg_v C (of_decide_eq_true h.1) h.2
  | tv is =>
    cases pe <;> try (cases h; done)
    exact sg_tv C h

theorem stuck_ok {pe : Expr} : SE Z X pe .stuck ∧ ST Z X pe .stuck := by
  refine ⟨⟨fun _ _ _ => False, ⟨fun _ _ _ _ _ _ h => False.elim h⟩, fun σ H F μ ρ M w M' Q r l ev q => ?_⟩, ⟨fun _ _ _ => False, ⟨fun _ _ _ _ _ _ h => False.elim h⟩, fun σ H F μ ρ M b M' Q r l ev q => ?_⟩⟩
  · have ev : (none : Option (W × Mem)) = some (w, M') := by simpa only [Sig.ev, evalE] using ev
    cases ev
  · have ev : (none : Option (Bool × Mem)) = some (b, M') := by simpa only [Sig.ev, evalE, testOf] using ev
    cases ev

mutual
theorem sET : ∀ (e : E) {X : Cx} {sc : Scope} (C : Ctx Z X sc) (pe : Expr), okE Z.fs Z.gs Z.im Z.N sc e pe = true → SE Z X pe e ∧ ST Z X pe e
  | .var i, X, sc, C, pe, h => by
    cases pe <;> try (simp [okE] at h; done)
    rename_i x pos
    simp only [okE, Bool.and_eq_true, decide_eq_true_eq, Bool.not_eq_true'] at h
    have s := se_var (pos := pos) C h.1.1 h.1.2 h.2
    exact ⟨s, st_plain s fun _ => rfl⟩
  | .lit x, X, sc, C, pe, h => by
    cases pe <;> try (simp [okE] at h; done)
    rename_i c k pos
    simp only [okE] at h
    have s := se_lit (Z := Z) (X := X) (j := k) (pos := pos) h
    exact ⟨s, st_plain s fun _ => rfl⟩
  | .glb i, X, sc, C, pe, h => by
    cases pe <;> try (simp [okE] at h; done)
    rename_i x pos
    simp only [okE, Bool.and_eq_true, decide_eq_true_eq] at h
    have s := se_glb (pos := pos) C h.1 h.2
    exact ⟨s, st_plain s fun _ => rfl⟩
  | .tup es, X, sc, C, pe, h => by
    cases pe <;> try (simp [okE] at h; done)
    rename_i pes k pos
    simp only [okE] at h
    have s := se_tup (k := k) (pos := pos) (sAs es C pes h)
    exact ⟨s, st_plain s fun _ => rfl⟩
  | .lst mu es, X, sc, C, pe, h => by
    cases pe <;> try (simp [okE] at h; done)
    rename_i pes pos
    simp only [okE] at h
    have s := se_lst (mu := mu) (pos := pos) (sAs es C pes h)
    exact ⟨s, st_plain s fun _ => rfl⟩
  | .op2 mu p a b, X, sc, C, pe, h => by
    cases pe <;> try (simp [okE] at h; done)
    case BinOp pa o pb pos =>
      simp only [okE, Bool.and_eq_true] at h
      obtain ⟨s1, s2⟩ := bin_ser (X := X) h.1.1
      have s := se_bin (mu := mu) (pos := pos) (sET a C pa h.1.2).1 (sET b C pb h.2).1 s1 s2
      exact ⟨s, st_plain s fun _ => rfl⟩
    case Compare pa os pbs pos =>
      match os, pbs, h with
      | [o], [pb], h =>
        simp only [okE, Bool.and_eq_true, Bool.not_eq_true'] at h
        obtain ⟨⟨⟨⟨rfl, h1⟩, h2⟩, h3⟩, h4⟩ := h
        obtain ⟨s1, s2, s3⟩ := cmp_ser (X := X) C.hu h1
        exact ⟨se_cmp (sET a C pa h2).1 (sET b C pb h3).1 s1 s2 h4, st_cmp (sET a C pa h2).1 (sET b C pb h3).1 s1 s2 h4 s3⟩
    case Subscript pa pb pos =>
      simp only [okE, Bool.and_eq_true, Bool.not_eq_true', decide_eq_true_eq] at h
      obtain ⟨⟨⟨⟨rfl, rfl⟩, h2⟩, h3⟩, h4⟩ := h
      have s := se_ix (pos := pos) (sET a C pa h2).1 (sET b C pb h3).1 h4
      exact ⟨s, st_plain s fun _ => rfl⟩
  | .neg a, X, sc, C, pe, h => by
    cases pe <;> try (simp [okE] at h; done)
    rename_i o pa pos
    cases o <;> try (simp [okE] at h; done)
    simp only [okE] at h
    have s := se_neg (pos := pos) (sET a C pa h).1
    exact ⟨s, st_plain s fun _ => rfl⟩
  | .not a, X, sc, C, pe, h => by
    cases pe <;> try (simp [okE] at h; done)
    rename_i o pa pos
    cases o <;> try (simp [okE] at h; done)
    simp only [okE] at h
    exact ⟨se_not (sET a C pa h).1, st_not (sET a C pa h).2⟩
  | .chain p q a b c, X, sc, C, pe, h => by
    cases pe <;> try (simp [okE] at h; done)
    rename_i pa os pbs pos
    match os, pbs, h with
    | [o, o'], [pb, pc], h =>
      simp only [okE, Bool.and_eq_true] at h
      obtain ⟨⟨⟨⟨⟨⟨⟨h1, h2⟩, h3⟩, h4⟩, h5⟩, h6⟩, h7⟩, h8⟩ := h
      obtain ⟨s1, _, _⟩ := cmp_ser (X := X) C.hu h1
      obtain ⟨s2, _, _⟩ := cmp_ser (X := X) C.hu h2
      exact ⟨se_chain (sET a C pa h5).1 (sET b C pb h6).1 (sET c C pc h7).1 s1 s2 h8, st_chain (sET a C pa h5).1 (sET b C pb h6).1 (sET c C pc h7).1 s1 s2 h8⟩
  | .and es, X, sc, C, pe, h => by
    cases pe <;> try (simp [okE] at h; done)
    rename_i o pes pos
    cases o <;> try (simp [okE] at h; done)
    simp only [okE, Bool.and_eq_true] at h
    obtain ⟨s1, s2⟩ := sBs true es C pes pos h.1 (by simpa using h.2)
    exact ⟨se_andor (k := true) s1, st_andor (k := true) s2⟩
  | .or es, X, sc, C, pe, h => by
    cases pe <;> try (simp [okE] at h; done)
    rename_i o pes pos
    cases o <;> try (simp [okE] at h; done)
    simp only [okE, Bool.and_eq_true] at h
    obtain ⟨s1, s2⟩ := sBs false es C pes pos h.1 (by simpa using h.2)
    exact ⟨se_andor (k := false) s1, st_andor (k := false) s2⟩
  | .ife c a b, X, sc, C, pe, h => by
    cases pe <;> try (simp [okE] at h; done)
    rename_i pc pa pb pos
    simp only [okE, Bool.and_eq_true] at h
    exact ⟨se_ife (sET c C pc h.1.1).2 (sET a C pa h.1.2).1 (sET b C pb h.2).1, st_ife (sET c C pc h.1.1).2 (sET a C pa h.1.2).2 (sET b C pb h.2).2⟩
  | .slc mu hl hu a lo hi, X, sc, C, pe, h => by
    cases pe <;> try (simp [okE] at h; done)
    rename_i pa sl pos
    cases sl <;> try (simp [okE] at h; done)
    rename_i pl ph pst p2
    cases pst <;> try (simp [okE] at h; done)
    simp only [okE, Bool.and_eq_true] at h
    obtain ⟨⟨h1, h2⟩, h3⟩ := h
    have s1 : SO Z X pl hl lo := by
      cases pl with
      | none =>
        simp only [Bool.and_eq_true, Bool.not_eq_true'] at h2
        obtain ⟨rfl, h2⟩ := h2
        split at h2
        · exact so_none
        · cases h2
      | some pl =>
        simp only [Bool.and_eq_true] at h2
        obtain ⟨rfl, h2⟩ := h2
        exact so_some (sET lo C pl h2).1
    have s2 : SO Z X ph hu hi := by
      cases ph with
      | none =>
        simp only [Bool.and_eq_true, Bool.not_eq_true'] at h3
        obtain ⟨rfl, h3⟩ := h3
        split at h3
        · exact so_none
        · cases h3
      | some ph =>
        simp only [Bool.and_eq_true] at h3
        obtain ⟨rfl, h3⟩ := h3
        exact so_some (sET hi C ph h3).1
    have s := se_slc (mu := mu) (p2 := p2) (pos := pos) (sET a C pa h1).1 s1 s2
    exact ⟨s, st_plain s fun _ => rfl⟩
  | .rev mu a, X, sc, C, pe, h => by
    simp only [okE] at h
    split at h <;> try (cases h; done)
    have s := fun k p1 p2 p3 pos => se_rev (mu := mu) (k := k) (p1 := p1) (p2 := p2) (p3 := p3) (pos := pos) (sET a C _ h).1
    exact ⟨s _ _ _ _ _, st_plain (s _ _ _ _ _) fun _ => rfl⟩
  | .call f es, X, sc, C, pe, h => by
    simp only [okE] at h
    split at h <;> try (cases h; done)
    rename_i x p1 pes pos
    simp only [Bool.and_eq_true, decide_eq_true_eq] at h
    obtain ⟨h4, h5⟩ := okEs_tame h.2
    have s := se_call (p := p1) (pos := pos) C h.1.1 h.1.2 (sAs es C pes h.2) h4 h5
    exact ⟨s, st_plain s fun _ => rfl⟩
  | .blt mu b es, X, sc, C, pe, h => by
    simp only [okE] at h
    split at h <;> try (cases h; done)
    rename_i x p1 pes pos
    simp only [Bool.and_eq_true, decide_eq_true_eq] at h
    obtain ⟨⟨⟨⟨rfl, h1⟩, h2⟩, h3⟩, h4⟩ := h
    have hz : ∃ pe ps, pes = pe :: ps := by
      cases pes with
      | nil => simp at h3
      | cons a b => exact ⟨a, b, rfl⟩
    obtain ⟨pe0, ps0, rfl⟩ := hz
    have fin : ∀ {q : E}, SE Z X (.Call (.Name (bName b) p1) (pe0 :: ps0) [] pos) q → SE Z X (.Call (.Name (bName b) p1) (pe0 :: ps0) [] pos) q ∧ ST Z X (.Call (.Name (bName b) p1) (pe0 :: ps0) [] pos) q := fun s => ⟨s, st_plain s fun _ => rfl⟩
    by_cases hlen : b = .len
    · subst hlen
      have h4 : okEs Z.fs Z.gs Z.im Z.N sc es (pe0 :: ps0) = true := h4
      refine fin ?_
      cases es with
      | nil => simp [okEs] at h4
      | cons e es =>
        simp only [okEs, Bool.and_eq_true] at h4
        cases es with
        | nil =>
          cases ps0 with
          | nil => exact se_len C h1 (sET e C pe0 h4.1.1).1 h4.1.2
          | cons _ _ => simp [okEs] at h4
        | cons e2 es =>
          -- two arguments of len: nothing of ours
          have hs := sAs (.cons e (.cons e2 es)) C (pe0 :: ps0) (by simp only [okEs, Bool.and_eq_true]; exact h4)
          obtain ⟨t, pp, gl, g⟩ := hs
          have ht := (okEs_tame (es := .cons e (.cons e2 es)) (pes := pe0 :: ps0) (Z := Z) (sc := sc) (by simp only [okEs, Bool.and_eq_true]; exact h4)).1
          rw [List.all_cons, Bool.and_eq_true] at ht
          refine ⟨_, pe_blt C (b := .len) rfl h1 (call_len (X := X)) pp (tame_star ht.1 ps0 X.env) (tames_plain ht.2 X.env pos), fun σ H F μ ρ M w M' Q r l ev q => ?_⟩
          exfalso
          simp only [Sig.ev, evalE] at ev
          split at ev
          · rename_i ws M1 e1
            have hl := gl _ _ _ _ e1
            have h2l : ∃ w1 w2 wr, ws = w1 :: w2 :: wr := by
              simp only [evalEs] at e1
              split at e1
              · split at e1
                · rename_i e5
                  cases e1
                  split at e5
                  · split at e5
                    · cases e5; exact ⟨_, _, _, rfl⟩
                    · cases e5
                  · cases e5
                · cases e1
              · cases e1
            obtain ⟨w1, w2, wr, rfl⟩ := h2l
            split at ev
            · rename_i xs e2
              have e2' : derefs (w1 :: w2 :: wr) M1 = some xs := e2
              simp only [derefs] at e2'
              split at e2'
              · rename_i x ys e6 e7
                cases e2'
                split at e7
                · cases e7; simp [primB] at ev
                · cases e7
              · cases e2'
            · cases ev
          · cases ev
    · by_cases hisi : ∃ t, b = .isi t
      · obtain ⟨t, rfl⟩ := hisi
        refine fin ?_
        simp only at h4
        split at h4 <;> try (cases h4; done)
        rename_i pa y p2 heq
        cases heq
        simp only [Bool.and_eq_true, decide_eq_true_eq] at h4
        obtain ⟨⟨rfl, h5⟩, h6⟩ := h4
        cases es with
        | nil => simp [okEs] at h6
        | cons e es =>
          simp only [okEs, Bool.and_eq_true] at h6
          cases es with
          | nil => exact se_isi C h1 h5 (sET e C pe0 h6.1.1).1 h6.1.2
          | cons _ _ => simp [okEs] at h6
      · have h4 : okEs Z.fs Z.gs Z.im Z.N sc es (pe0 :: ps0) = true := by
          cases b <;> first | exact h4 | exact absurd ⟨_, rfl⟩ hisi
        refine fin ?_
        by_cases hlcm : b = .lcm
        · subst hlcm
          have hs := sAs es C (pe0 :: ps0) h4
          obtain ⟨t, pp, gl, g⟩ := hs
          have ht := (okEs_tame h4).1
          rw [List.all_cons, Bool.and_eq_true] at ht
          refine ⟨_, pe_blt C (b := .lcm) h2 h1 (r := fun _ _ _ => False) (fun _ _ _ _ _ _ _ _ _ h => h.elim) pp (tame_star ht.1 ps0 X.env) (tames_plain ht.2 X.env pos), fun σ H F μ ρ M w M' Q r l ev q => ?_⟩
          exfalso
          simp only [Sig.ev, evalE] at ev
          split at ev
          · split at ev
            · split at ev
              · rename_i z e3
                simp [primB] at e3
              · cases ev
            · cases ev
          · cases ev
        · exact se_blt C h2 h1 hlen (blt_ser C.calm hlen (fun t e => hisi ⟨t, e⟩) h2 hlcm) (sAs es C (pe0 :: ps0) h4) (okEs_tame h4).1
  | .meth m a es, X, sc, C, pe, h => by
    simp only [okE] at h
    split at h <;> try (cases h; done)
    rename_i pa x apos pes cpos
    simp only [Bool.and_eq_true, decide_eq_true_eq] at h
    obtain ⟨⟨⟨⟨⟨rfl, h1⟩, h2⟩, h3⟩, h4⟩, h5⟩ := h
    have fin : ∀ {q : E}, SE Z X (.Call (.Attribute pa (mName m) apos) pes [] cpos) q → SE Z X (.Call (.Attribute pa (mName m) apos) pes [] cpos) q ∧ ST Z X (.Call (.Attribute pa (mName m) apos) pes [] cpos) q := fun s => ⟨s, st_plain s fun _ => rfl⟩
    refine fin ?_
    cases m <;> try (cases h5; done)
    case append =>
      match pes, es, h5, h2 with
      | [pe], .cons e .nil, _, h2 =>
        simp only [okEs, Bool.and_eq_true] at h2
        exact se_append (sET a C pa h1).1 (sET e C pe h2.1.1).1 h4 h2.1.2 h3
      | [pe], .nil, _, h2 => simp [okEs] at h2
      | [pe], .cons e (.cons _ _), _, h2 => simp [okEs] at h2
    case extend =>
      match pes, es, h5, h2 with
      | [pe], .cons e .nil, _, h2 =>
        simp only [okEs, Bool.and_eq_true] at h2
        exact se_extend (sET a C pa h1).1 (sET e C pe h2.1.1).1 h4 h2.1.2 h3
      | [pe], .nil, _, h2 => simp [okEs] at h2
      | [pe], .cons e (.cons _ _), _, h2 => simp [okEs] at h2
    case pop =>
      match pes, es, h5, h2 with
      | [], .nil, _, h2 => exact se_pop (sET a C pa h1).1 h4 h3
      | [], .cons e _, _, h2 => simp [okEs] at h2
  | .comp mu own tg it c elt, X, sc, C, pe, h => by
    simp only [okE] at h
    split at h <;> try (cases h; done)
    rename_i pelt ptg pit pifs cs pos
    simp only [Bool.and_eq_true] at h
    obtain ⟨⟨⟨⟨⟨⟨h0, hs⟩, h1⟩, h2⟩, h3⟩, h4⟩, h5⟩ := h
    split at h2 <;> try (cases h2; done)
    rename_i o ho
    have hk := blkC_kind h2
    have B := fun s H D cl fp => C.blk hk s H D cl fp
    obtain ⟨si, ht⟩ := sI it C tg ptg pit h0 h1 h3
    have s := (se_comp (mu := mu) (c := c) (pifs := pifs) (pelt := pelt) (elt := elt) (pos := pos) C si ht ho h2 hs (fun s H D cl fp => sgT (B s H D cl fp) h3) (fun s H D cl fp => by
      split at h5
      · split at h5
        · exact sts_nil
        · cases h5
      · exact sts_one (sET c (B s H D cl fp) _ h5).2
      · cases h5) (fun s H D cl fp => (sET elt (B s H D cl fp) pelt h4).1)).1
    exact ⟨s, st_plain s fun _ => rfl⟩
  | .stuck, X, sc, C, pe, h => stuck_ok
theorem sAs : ∀ (es : Es) {X : Cx} {sc : Scope} (C : Ctx Z X sc) (pes : List Expr), okEs Z.fs Z.gs Z.im Z.N sc es pes = true → SA Z X pes es
  | .nil, X, sc, C, pes, h => by
    cases pes with
    | nil => exact sa_nil
    | cons _ _ => simp [okEs] at h
  | .cons e es, X, sc, C, pes, h => by
    cases pes with
    | nil => simp [okEs] at h
    | cons pe pr =>
      simp only [okEs, Bool.and_eq_true] at h
      exact sa_cons (sET e C pe h.1.1).1 h.1.2 (sAs es C pr h.2)
theorem sBs : ∀ (k : Bool) (es : Es) {X : Cx} {sc : Scope} (C : Ctx Z X sc) (pes : List Expr) (pos : Pos), okEs Z.fs Z.gs Z.im Z.N sc es pes = true → pes ≠ [] → SBv Z X k pes pos es ∧ SBt Z X k pes pos es
  | k, .nil, X, sc, C, pes, pos, h, hn => by
    cases pes with
    | nil => exact absurd rfl hn
    | cons _ _ => simp [okEs] at h
  | k, .cons e .nil, X, sc, C, pes, pos, h, hn => by
    cases pes with
    | nil => exact absurd rfl hn
    | cons pe pr =>
      simp only [okEs, Bool.and_eq_true] at h
      cases pr with
      | nil => exact ⟨sbv_one (sET e C pe h.1.1).1, sbt_one (sET e C pe h.1.1).2⟩
      | cons _ _ => simp at h
  | k, .cons e (.cons e2 es), X, sc, C, pes, pos, h, hn => by
    cases pes with
    | nil => exact absurd rfl hn
    | cons pe pr =>
      have h' := h
      rw [okEs] at h
      simp only [Bool.and_eq_true] at h
      cases pr with
      | nil => simp [okEs] at h
      | cons pe2 pr =>
        obtain ⟨s1, s2⟩ := sBs k (.cons e2 es) C (pe2 :: pr) pos h.2 (by simp)
        exact ⟨sbv_cons (sET e C pe h.1.1).1 s1, sbt_cons (sET e C pe h.1.1).2 s2⟩
theorem sI : ∀ (it : It) {X : Cx} {sc cs : Scope} (C : Ctx Z X sc) (tg : T) (ptg pit : Expr), itT it tg = true → okIt Z.fs Z.gs Z.im Z.N sc it pit = true → okT Z.N cs tg ptg = true → SI Z X ptg pit it ∧ tame pit = true
  | .seq e, X, sc, cs, C, tg, ptg, pit, h0, h, h1 => by
    simp only [okIt, Bool.and_eq_true] at h
    exact ⟨si_seq (sET e C pit h.1).1, h.2⟩
  | .rng es, X, sc, cs, C, tg, ptg, pit, h0, h, h1 => by
    simp only [okIt] at h
    split at h <;> try (cases h; done)
    rename_i x p1 pes pos
    simp only [Bool.and_eq_true, decide_eq_true_eq, Bool.or_eq_true, beq_iff_eq] at h
    obtain ⟨⟨⟨rfl, h2⟩, h3⟩, h4⟩ := h
    exact ⟨si_rng C h2 (sAs es C pes h3) (okEs_tame h3).1 (by rcases h4 with (h | h) | h <;> simp [h]), rfl⟩
  | .enum e, X, sc, cs, C, tg, ptg, pit, h0, h, h1 => by
    simp only [okIt] at h
    split at h <;> try (cases h; done)
    simp only [Bool.and_eq_true, decide_eq_true_eq] at h
    obtain ⟨⟨⟨rfl, h2⟩, h3⟩, h4⟩ := h
    cases tg with
    | v i => cases h0
    | tv is =>
      cases ptg <;> try (cases h1; done)
      exact ⟨si_enum C h2 (sET e C _ h3).1 h4, rfl⟩
  | .zip a b, X, sc, cs, C, tg, ptg, pit, h0, h, h1 => by
    simp only [okIt] at h
    split at h <;> try (cases h; done)
    simp only [Bool.and_eq_true, decide_eq_true_eq] at h
    obtain ⟨⟨⟨⟨⟨rfl, h2⟩, h3⟩, h4⟩, h5⟩, h6⟩ := h
    cases tg with
    | v i => cases h0
    | tv is =>
      cases ptg <;> try (cases h1; done)
      exact ⟨si_zip C h2 (sET a C _ h3).1 h4 (sET b C _ h5).1 h6, rfl⟩
end
theorem comp_asg {e : E} (C : Ctx Z X sc) {pelt : Expr} {gens : List Comprehension} {cs : Scope} {pos : Pos} (h : okE Z.fs Z.gs Z.im Z.N sc e (.ListComp pelt gens cs pos) = true) :
    ∀ (i : Nat) (y : Str) (py spos : Pos), Z.N[i]? = some y → X.env.scope.names.lookup y = some .local → swapsWith (.ListComp pelt gens cs pos) (some (.Name y py)) spos.line X.env = pure true →
      ∃ t : TE, PS X (.Assign [.Name y py] (.ListComp pelt gens cs pos) spos) (tAsg t (gName i)) ∧ ∀ σ H F μ ρ M w M' (Q : VK), Rel X.K H F μ M → LocR X.K F μ ρ σ → Z.ev e ρ M = some (w, M') →
        (∀ v H' F' μ', Ext H F μ H' F' μ' → Rel X.K H' F' μ' M' → ValR X.K F' μ' w v → Q v H') → t σ H Q := by
  cases e with
  | comp mu own tg it c elt =>
    simp only [okE] at h
    split at h <;> try (cases h; done)
    rename_i pelt' ptg pit pifs cs' pos' heq
    cases heq
    simp only [Bool.and_eq_true] at h
    obtain ⟨⟨⟨⟨⟨⟨h0, hs⟩, h1⟩, h2⟩, h3⟩, h4⟩, h5⟩ := h
    split at h2 <;> try (cases h2; done)
    rename_i o ho
    have hk := blkC_kind h2
    have B := fun s H D cl fp => C.blk hk s H D cl fp
    obtain ⟨si, ht⟩ := sI it C tg ptg pit h0 h1 h3
    exact (se_comp (mu := mu) (c := c) (pifs := pifs) (pelt := pelt) (elt := elt) (pos := pos) C si ht ho h2 hs (fun s H D cl fp => sgT (B s H D cl fp) h3) (fun s H D cl fp => by
      split at h5
      · split at h5
        · exact sts_nil
        · cases h5
      · exact sts_one (sET c (B s H D cl fp) _ h5).2
      · cases h5) (fun s H D cl fp => (sET elt (B s H D cl fp) pelt h4).1)).2
  | stuck =>
    intro i y py spos _ _ _
    refine ⟨fun _ _ _ => False, ⟨fun _ _ _ _ _ _ h => False.elim h⟩, fun σ H F μ ρ M w M' Q r l ev q => ?_⟩
    have ev : (none : Option (W × Mem)) = some (w, M') := by simpa only [Sig.ev, evalE] using ev
    cases ev
  | _ => simp [okE] at h
end
end EV

/-! EvG: statements. -/
namespace EV
open PySem PySem.Spec PyProof.Rows L2
def EndsR (K : PySem.W.Frag) (H F : Hp) (μ : List Addr) (D : Ends) : Out → Prop
  | .nx ρ M' => ∀ σ' H' F' μ', Ext H F μ H' F' μ' → Rel K H' F' μ' M' → LocR K F' μ' ρ σ' → D.nx σ' H'
  | .bk ρ M' => ∀ σ' H' F' μ', Ext H F μ H' F' μ' → Rel K H' F' μ' M' → LocR K F' μ' ρ σ' → D.bk σ' H'
  | .ct ρ M' => ∀ σ' H' F' μ', Ext H F μ H' F' μ' → Rel K H' F' μ' M' → LocR K F' μ' ρ σ' → D.ct σ' H'
  | .ret w M' => ∀ v H' F' μ', Ext H F μ H' F' μ' → Rel K H' F' μ' M' → ValR K F' μ' w v → D.rt v H'
theorem EndsR.trans {K : PySem.W.Frag} {H F H1 F1 : Hp} {μ μ1 : List Addr} {D : Ends} (x : Ext H F μ H1 F1 μ1) : ∀ {o : Out}, EndsR K H F μ D o → EndsR K H1 F1 μ1 D o
  | .nx _ _, h => fun σ' H' F' μ' x' r' l' => h σ' H' F' μ' (x.trans x' r'.nd) r' l'
  | .bk _ _, h => fun σ' H' F' μ' x' r' l' => h σ' H' F' μ' (x.trans x' r'.nd) r' l'
  | .ct _ _, h => fun σ' H' F' μ' x' r' l' => h σ' H' F' μ' (x.trans x' r'.nd) r' l'
  | .ret _ _, h => fun v H' F' μ' x' r' l' => h v H' F' μ' (x.trans x' r'.nd) r' l'
def SS (Z : Sig) (X : Cx) (pst : Stmt) (s : S) : Prop := ∃ t, PS X pst t ∧ ∀ σ H F μ ρ M o (D : Ends), Rel X.K H F μ M → LocR X.K F μ ρ σ → evalS Z.cf Z.G Z.wf s ρ M = some o → EndsR X.K H F μ D o → t D σ H
def SSs (Z : Sig) (X : Cx) (psts : List Stmt) (ss : Ss) : Prop := ∃ t, PSs X psts t ∧ ∀ σ H F μ ρ M o (D : Ends), Rel X.K H F μ M → LocR X.K F μ ρ σ → evalSs Z.cf Z.G Z.wf ss ρ M = some o → EndsR X.K H F μ D o → t D σ H
section
variable {Z : Sig} {X : Cx} {sc : Scope}
theorem sss_nil : SSs Z X [] .nil := by
  refine ⟨_, pss_nil, fun σ H F μ ρ M o D r l ev q => ?_⟩
  have ev : some (Out.nx ρ M) = some o := by simpa only [evalSs] using ev
  cases ev
  exact q σ H F μ Ext.refl r l
theorem sss_cons {p : Stmt} {ps : List Stmt} {s : S} {ss : Ss} (h1 : SS Z X p s) (h2 : SSs Z X ps ss) : SSs Z X (p :: ps) (.cons s ss) := by
  obtain ⟨t, p1, f⟩ := h1
  obtain ⟨u, p2, g⟩ := h2
  refine ⟨_, pss_cons p1 p2, fun σ H F μ ρ M o D r l ev q => ?_⟩
  simp only [evalSs] at ev
  split at ev
  · rename_i ρ' M' e1
    refine f σ H F μ ρ M _ _ r l e1 fun σ' H' F' μ' x' r' l' => ?_
    exact g σ' H' F' μ' ρ' M' o D r' l' ev (q.trans x')
  · rename_i hn
    refine f σ H F μ ρ M o _ r l ev ?_
    cases o with
    | nx ρ' M' => exact absurd ev (hn ρ' M')
    | ret w M' => exact q
    | bk ρ' M' => exact q
    | ct ρ' M' => exact q
theorem swap_no {pv : Expr} (h : tame pv = true) (tg : Option Expr) (n : Nat) (env : PySem.Env) (hn : ∀ a b c d, pv ≠ .ListComp a b c d) : swapsWith pv tg n env = pure false := by
  cases pv <;> first | rfl | (cases h; done) | exact absurd rfl (hn _ _ _ _)
theorem lc_or (pv : Expr) : (∃ a b c d, pv = .ListComp a b c d) ∨ ∀ a b c d, pv ≠ .ListComp a b c d := by
  by_cases h : ∃ a b c d, pv = .ListComp a b c d
  · exact .inl h
  · exact .inr fun a b c d e => h ⟨a, b, c, d, e⟩
theorem ss_asg (C : Ctx Z X sc) {i : Nat} {x : Str} {e : E} {pv : Expr} {px pos : Pos} (h1 : Z.N[i]? = some x) (h2 : isLoc sc x = true) (h3 : okE Z.fs Z.gs Z.im Z.N sc e pv = true) (h4 : tame pv = true) : SS Z X (.Assign [.Name x px] pv pos) (.asg i e) := by
  have hN : X.N.Nodup := by rw [C.names]; exact C.nd
  have hi : X.N[i]? = some x := by rw [C.names]; exact h1
  have go : ∀ {t : TE}, PS X (.Assign [.Name x px] pv pos) (tAsg t (gName i)) → (∀ σ H F μ ρ M w M' (Q : VK), Rel X.K H F μ M → LocR X.K F μ ρ σ → Z.ev e ρ M = some (w, M') → (∀ v H' F' μ', Ext H F μ H' F' μ' → Rel X.K H' F' μ' M' → ValR X.K F' μ' w v → Q v H') → t σ H Q) →
      SS Z X (.Assign [.Name x px] pv pos) (.asg i e) := fun {t} p f => by
    refine ⟨_, p, fun σ H F μ ρ M o D r l ev q => ?_⟩
    simp only [evalS] at ev
    split at ev
    · rename_i w M1 e1
      cases ev
      exact f σ H F μ ρ M w M1 _ r l e1 fun v H1 F1 μ1 x1 r1 v1 => q _ H1 F1 μ1 x1 r1 ((l.mono x1).set i v1)
    · cases ev
  rcases lc_or pv with ⟨pelt, gens, cs, p2, rfl⟩ | hn
  · obtain ⟨b, hb, hl⟩ : ∃ b, swapsWith (.ListComp pelt gens cs p2) (some (.Name x px)) pos.line X.env = pure b ∧ (b = true → X.env.scope.names.lookup x = some .local) := by
      refine ⟨_, rfl, fun h => ?_⟩
      simp only [Bool.and_eq_true] at h
      exact eq_of_beq h.1.1.2
    cases b with
    | false =>
      obtain ⟨t, p, f⟩ := (sET e C _ h3).1
      exact go (ps_set hN hi (C.loc x h2) p hb (C.fnc x h2)) f
    | true =>
      obtain ⟨t, p, f⟩ := comp_asg C h3 i x px pos h1 (hl rfl) hb
      exact go p f
  · obtain ⟨t, p, f⟩ := (sET e C _ h3).1
    exact go (ps_set hN hi (C.loc x h2) p (swap_no h4 _ _ _ hn) (C.fnc x h2)) f
theorem ss_expr (C : Ctx Z X sc) {e : E} {pe : Expr} {pos : Pos} (h : okE Z.fs Z.gs Z.im Z.N sc e pe = true) (hc : swapsWith pe none pos.line X.env = pure false) : SS Z X (.Expr pe pos) (.expr e) := by
  obtain ⟨t, p, f⟩ := (sET e C _ h).1
  refine ⟨_, ps_expr p hc, fun σ H F μ ρ M o D r l ev q => ?_⟩
  simp only [evalS] at ev
  split at ev
  · rename_i w M1 e1
    cases ev
    exact f σ H F μ ρ M w M1 _ r l e1 fun v H1 F1 μ1 x1 r1 v1 => q σ H1 F1 μ1 x1 r1 (l.mono x1)
  · cases ev
theorem ss_ret (C : Ctx Z X sc) {e : E} {pe : Expr} {pos : Pos} (h : okE Z.fs Z.gs Z.im Z.N sc e pe = true) : SS Z X (.Return (some pe) pos) (.ret e) := by
  obtain ⟨t, p, f⟩ := (sET e C _ h).1
  refine ⟨_, ps_ret p, fun σ H F μ ρ M o D r l ev q => ?_⟩
  simp only [evalS] at ev
  split at ev
  · rename_i w M1 e1
    cases ev
    exact f σ H F μ ρ M w M1 _ r l e1 q
  · cases ev
theorem ss_if {c : E} {a b : Ss} {pc : Expr} {pa pb : List Stmt} {pos : Pos} (h1 : ST Z X pc c) (h2 : SSs Z X pa a) (h3 : SSs Z X pb b) : SS Z X (.If pc pa pb pos) (.ife c a b) := by
  obtain ⟨t, p1, f⟩ := h1
  obtain ⟨u, p2, g⟩ := h2
  obtain ⟨v, p3, k⟩ := h3
  refine ⟨_, ps_if p1 p2 p3, fun σ H F μ ρ M o D r l ev q => ?_⟩
  simp only [evalS] at ev
  split at ev
  · rename_i M1 e1
    refine f σ H F μ ρ M true M1 _ r l e1 fun H1 F1 μ1 x1 r1 => ?_
    rw [if_pos rfl]
    exact g σ H1 F1 μ1 ρ M1 o D r1 (l.mono x1) ev (q.trans x1)
  · rename_i M1 e1
    refine f σ H F μ ρ M false M1 _ r l e1 fun H1 F1 μ1 x1 r1 => ?_
    rw [if_neg (by decide)]
    exact k σ H1 F1 μ1 ρ M1 o D r1 (l.mono x1) ev (q.trans x1)
  · cases ev
theorem ss_while (C : Ctx Z X sc) {c : E} {b : Ss} {pc : Expr} {pb : List Stmt} {pos : Pos} (h1 : ST Z X pc c) (h2 : SSs Z X pb b) : SS Z X (.While pc pb [] pos) (.whl c b) := by
  obtain ⟨t, p1, f⟩ := h1
  obtain ⟨u, p2, g⟩ := h2
  refine ⟨_, ps_while (by rw [C.xe]; exact PassesOwn.never) p1 p2, fun σ H F μ ρ M o D r l ev q => ?_⟩
  simp only [evalS] at ev
  refine ⟨fun n σ1 H1 => ∃ F1 μ1 ρ1 M1, Ext H F μ H1 F1 μ1 ∧ Rel X.K H1 F1 μ1 M1 ∧ LocR X.K F1 μ1 ρ1 σ1 ∧ whileL (fun ρ M => testOf (evalE Z.cf Z.G Z.wf c ρ M)) (fun ρ M => evalSs Z.cf Z.G Z.wf b ρ M) n ρ1 M1 = some o, ⟨Z.wf, F, μ, ρ, M, Ext.refl, r, l, ev⟩, ?_⟩
  rintro m σ1 H1 ⟨F1, μ1, ρ1, M1, x1, r1, l1, ev1⟩
  cases m with
  | zero => cases ev1
  | succ n =>
    simp only [whileL] at ev1
    split at ev1
    · rename_i M2 e2
      refine f σ1 H1 F1 μ1 ρ1 M1 true M2 _ r1 l1 e2 fun H2 F2 μ2 x2 r2 => ?_
      rw [if_pos rfl]
      refine ⟨fun σ3 H3 => ∃ F3 μ3 ρ3 M3, Ext H F μ H3 F3 μ3 ∧ Rel X.K H3 F3 μ3 M3 ∧ LocR X.K F3 μ3 ρ3 σ3 ∧ whileL (fun ρ M => testOf (evalE Z.cf Z.G Z.wf c ρ M)) (fun ρ M => evalSs Z.cf Z.G Z.wf b ρ M) n ρ3 M3 = some o, fun σ' H' hN => ⟨n, Nat.lt_succ_self n, hN⟩, ?_⟩
      have x12 := x1.trans x2 r2.nd
      split at ev1
      · rename_i ρ3 M3 e3
        exact g σ1 H2 F2 μ2 ρ1 M2 _ _ r2 (l1.mono x2) e3 fun σ' H' F' μ' x' r' l' => ⟨F', μ', ρ3, M3, x12.trans x' r'.nd, r', l', ev1⟩
      · rename_i ρ3 M3 e3
        exact g σ1 H2 F2 μ2 ρ1 M2 _ _ r2 (l1.mono x2) e3 fun σ' H' F' μ' x' r' l' => ⟨F', μ', ρ3, M3, x12.trans x' r'.nd, r', l', ev1⟩
      · rename_i ρ3 M3 e3
        cases ev1
        exact g σ1 H2 F2 μ2 ρ1 M2 _ _ r2 (l1.mono x2) e3 fun σ' H' F' μ' x' r' l' => q σ' H' F' μ' (x12.trans x' r'.nd) r' l'
      · rename_i w M3 e3
        cases ev1
        exact g σ1 H2 F2 μ2 ρ1 M2 _ _ r2 (l1.mono x2) e3 fun v H' F' μ' x' r' l' => q v H' F' μ' (x12.trans x' r'.nd) r' l'
      · cases ev1
    · rename_i M2 e2
      cases ev1
      refine f σ1 H1 F1 μ1 ρ1 M1 false M2 _ r1 l1 e2 fun H2 F2 μ2 x2 r2 => ?_
      rw [if_neg (by decide)]
      exact q σ1 H2 F2 μ2 (x1.trans x2 r2.nd) r2 (l1.mono x2)
    · cases ev1
/-- one turn of a for -/
def turnF (Z : Sig) (tg : T) (b : Ss) : PyData → Loc → Mem → Option Out := fun x ρ M => match bindT tg x ρ with
  | some ρ2 => evalSs Z.cf Z.G Z.wf b ρ2 M
  | none => none
theorem ss_for (C : Ctx Z X sc) {tg : T} {it : It} {b : Ss} {pt pi : Expr} {pb : List Stmt} {pos : Pos} (h0 : tame pi = true) (h1 : SI Z X pt pi it) (h2 : SG Z X pt tg) (h3 : SSs Z X pb b) : SS Z X (.For pt pi pb [] pos) (.fr tg it b) := by
  obtain ⟨wi, p1, f⟩ := h1
  obtain ⟨g, p2, fg⟩ := h2
  obtain ⟨u, p3, fu⟩ := h3
  refine ⟨_, ps_for (by rw [C.xe]; exact PassesOwn.never) C.calm p1 p2 p3 (tame_fold h0 X.env), fun σ H F μ ρ M o D r l ev q => ?_⟩
  simp only [evalS] at ev
  split at ev
  · rename_i src M1 e1
    refine f σ H F μ ρ M src M1 _ r l e1 fun J H1 F1 μ1 x1 r1 sr => ?_
    have l1 := l.mono x1
    cases src with
    | its xs =>
      have ev : forL (turnF Z tg b) xs ρ M1 = some o := ev
      obtain ⟨G, Y, wk, hG, hy⟩ := sr
      refine for_it wk (fun i σ2 H2 => ∃ F2 μ2 ρ2 M2, Ext H1 F1 μ1 H2 F2 μ2 ∧ Rel X.K H2 F2 μ2 M2 ∧ LocR X.K F2 μ2 ρ2 σ2 ∧ forL (turnF Z tg b) (xs.drop i) ρ2 M2 = some o) ⟨F1, μ1, ρ, M1, Ext.refl, r1, l1, ev⟩ ?_ ?_ ?_
      · rintro i σ2 H2 _ ⟨F2, μ2, ρ2, M2, x2, r2, _⟩
        exact hG H2 (x2.fr.trans r2.sub)
      · rintro i x σ2 H2 H' hi ⟨F2, μ2, ρ2, M2, x2, r2, l2, ev2⟩ yy
        obtain ⟨F3, d, x3, r3, hd, hq⟩ := hy i H2 x H' F2 μ2 M2 hi x2.fr r2 yy
        have hdr : xs.drop i = d :: xs.drop (i + 1) := by
          obtain ⟨h1, h2⟩ := List.getElem?_eq_some_iff.mp hd
          rw [List.drop_eq_getElem_cons h1, h2]
        rw [hdr] at ev2
        simp only [forL] at ev2
        have x23 := x2.trans x3 r3.nd
        split at ev2
        · rename_i ρ4 M4 e4
          unfold turnF at e4
          split at e4
          · rename_i ρ3 e3
            refine fg x σ2 H' F3 μ2 ρ2 d ρ3 _ r3.sub (l2.mono x3) hq e3 fun σ3 l3 _ => ?_
            exact fu σ3 H' F3 μ2 ρ3 M2 _ _ r3 l3 e4 fun σ4 H4 F4 μ4 x4 r4 l4 => ⟨F4, μ4, ρ4, M4, x23.trans x4 r4.nd, r4, l4, ev2⟩
          · cases e4
        · rename_i ρ4 M4 e4
          unfold turnF at e4
          split at e4
          · rename_i ρ3 e3
            refine fg x σ2 H' F3 μ2 ρ2 d ρ3 _ r3.sub (l2.mono x3) hq e3 fun σ3 l3 _ => ?_
            exact fu σ3 H' F3 μ2 ρ3 M2 _ _ r3 l3 e4 fun σ4 H4 F4 μ4 x4 r4 l4 => ⟨F4, μ4, ρ4, M4, x23.trans x4 r4.nd, r4, l4, ev2⟩
          · cases e4
        · rename_i ρ4 M4 e4
          cases ev2
          unfold turnF at e4
          split at e4
          · rename_i ρ3 e3
            refine fg x σ2 H' F3 μ2 ρ2 d ρ3 _ r3.sub (l2.mono x3) hq e3 fun σ3 l3 _ => ?_
            exact fu σ3 H' F3 μ2 ρ3 M2 _ _ r3 l3 e4 fun σ4 H4 F4 μ4 x4 r4 l4 => q σ4 H4 F4 μ4 (x1.trans (x23.trans x4 r4.nd) r4.nd) r4 l4
          · cases e4
        · rename_i w M4 e4
          cases ev2
          unfold turnF at e4
          split at e4
          · rename_i ρ3 e3
            refine fg x σ2 H' F3 μ2 ρ2 d ρ3 _ r3.sub (l2.mono x3) hq e3 fun σ3 l3 _ => ?_
            exact fu σ3 H' F3 μ2 ρ3 M2 _ _ r3 l3 e4 fun v H4 F4 μ4 x4 r4 l4 => q v H4 F4 μ4 (x1.trans (x23.trans x4 r4.nd) r4.nd) r4 l4
          · cases e4
        · cases ev2
      · rintro σ2 H2 ⟨F2, μ2, ρ2, M2, x2, r2, l2, ev2⟩
        rw [List.drop_length] at ev2
        cases ev2
        exact q σ2 H2 F2 μ2 (x1.trans x2 r2.nd) r2 l2
    | cur ix =>
      have ev : forC (turnF Z tg b) ix Z.wf 0 ρ M1 = some o := ev
      obtain ⟨a, ha, rfl⟩ := sr
      refine ⟨fun k m σ2 H2 => ∃ F2 μ2 ρ2 M2, Ext H1 F1 μ1 H2 F2 μ2 ∧ Rel X.K H2 F2 μ2 M2 ∧ LocR X.K F2 μ2 ρ2 σ2 ∧ forC (turnF Z tg b) ix m k ρ2 M2 = some o, ⟨Z.wf, F1, μ1, ρ, M1, Ext.refl, r1, l1, ev⟩, ?_⟩
      rintro k m σ2 H2 ⟨F2, μ2, ρ2, M2, x2, r2, l2, ev2⟩
      cases m with
      | zero => cases ev2
      | succ n =>
        simp only [forC] at ev2
        split at ev2
        · rename_i zs hz
          obtain ⟨a', us, g1, g2, g3, g4⟩ := r2.lst ix zs hz
          rw [x2.get ha] at g1; cases g1
          split at ev2
          · rename_i d hd
            obtain ⟨y, hu, hq⟩ := g4.get hd
            refine .inr ⟨⟨us, y, SqL.of g3, hu⟩, fun σ' H' => ∃ F2 μ2 ρ2 M2, Ext H1 F1 μ1 H' F2 μ2 ∧ Rel X.K H' F2 μ2 M2 ∧ LocR X.K F2 μ2 ρ2 σ' ∧ forC (turnF Z tg b) ix n (k + 1) ρ2 M2 = some o, fun σ' H' hN => ⟨n, Nat.lt_succ_self n, hN⟩, fun x H' yy => ?_⟩
            obtain ⟨rfl, yy⟩ := yy
            have hx : y = x := Option.some.inj (hu.symm.trans (yy us (SqL.of g3)))
            subst hx
            split at ev2
            · rename_i ρ4 M4 e4
              unfold turnF at e4
              split at e4
              · rename_i ρ3 e3
                refine fg y σ2 _ F2 μ2 ρ2 d ρ3 _ r2.sub l2 hq e3 fun σ3 l3 _ => ?_
                exact fu σ3 _ F2 μ2 ρ3 M2 _ _ r2 l3 e4 fun σ4 H4 F4 μ4 x4 r4 l4 => ⟨F4, μ4, ρ4, M4, x2.trans x4 r4.nd, r4, l4, ev2⟩
              · cases e4
            · rename_i ρ4 M4 e4
              unfold turnF at e4
              split at e4
              · rename_i ρ3 e3
                refine fg y σ2 _ F2 μ2 ρ2 d ρ3 _ r2.sub l2 hq e3 fun σ3 l3 _ => ?_
                exact fu σ3 _ F2 μ2 ρ3 M2 _ _ r2 l3 e4 fun σ4 H4 F4 μ4 x4 r4 l4 => ⟨F4, μ4, ρ4, M4, x2.trans x4 r4.nd, r4, l4, ev2⟩
              · cases e4
            · rename_i ρ4 M4 e4
              cases ev2
              unfold turnF at e4
              split at e4
              · rename_i ρ3 e3
                refine fg y σ2 _ F2 μ2 ρ2 d ρ3 _ r2.sub l2 hq e3 fun σ3 l3 _ => ?_
                exact fu σ3 _ F2 μ2 ρ3 M2 _ _ r2 l3 e4 fun σ4 H4 F4 μ4 x4 r4 l4 => q σ4 H4 F4 μ4 (x1.trans (x2.trans x4 r4.nd) r4.nd) r4 l4
              · cases e4
            · rename_i w M4 e4
              cases ev2
              unfold turnF at e4
              split at e4
              · rename_i ρ3 e3
                refine fg y σ2 _ F2 μ2 ρ2 d ρ3 _ r2.sub l2 hq e3 fun σ3 l3 _ => ?_
                exact fu σ3 _ F2 μ2 ρ3 M2 _ _ r2 l3 e4 fun v H4 F4 μ4 x4 r4 l4 => q v H4 F4 μ4 (x1.trans (x2.trans x4 r4.nd) r4.nd) r4 l4
              · cases e4
            · cases ev2
          · rename_i hd
            cases ev2
            refine .inl ⟨⟨us, SqL.of g3, ?_⟩, q σ2 H2 F2 μ2 (x1.trans x2 r2.nd) r2 l2⟩
            rw [g4.length]; exact List.getElem?_eq_none_iff.mp hd
        · cases ev2
  · cases ev
end
end EV

/-! EvG2: stores, pairs, all statements. -/
namespace EV
open PySem PySem.Spec PyProof.Rows L2
section
variable {Z : Sig} {X : Cx} {sc : Scope}
theorem place_ixN {n : Nat} {i : Int} {p : Nat} (h : place n i = some p) : ixN n i = some p := by
  unfold place at h
  unfold ixN
  split at h
  · rename_i h0
    split at h
    · rename_i h1
      cases h
      rw [if_pos h0, if_pos (by omega)]
    · cases h
  · rename_i h0
    split at h
    · rename_i h1
      cases h
      rw [if_neg h0, if_pos (by omega)]
    · cases h
theorem store_go {K : PySem.W.Frag} {H F : Hp} {μ : List Addr} {M M' : Mem} {u : W} {k x : PyData} {o i v : V} {Q : Hp → Prop} (r : Rel K H F μ M) (hu : ValR K F μ u o) (hk : Dq K F i k) (hx : Dq K F v x) (e : store u k x M = some M')
    (q : ∀ H', Ext H F μ H' F μ → Rel K H' F μ M' → Q H') : rSetL o i v H Q := by
  unfold store at e
  split at e
  · rename_i n j
    split at e
    · rename_i xs hxs
      split at e
      · rename_i p hp
        cases e
        obtain ⟨a, vs, rfl, ha, h3, h4⟩ := lst_at r hu hxs
        cases hk
        refine ⟨a, vs, j, p, rfl, rfl, h3, by rw [h4.length]; exact place_ixN hp, ?_⟩
        exact q _ (Ext.write ha) (r.write hxs ha (h4.set hx p))
      · cases e
    · cases e
  · cases e
theorem assign_sub {pi : Expr} (h : tame pi = true) (o : Expr) (pos : Pos) (env : PySem.Env) : ∀ v, assign (.Subscript o pi pos) env v = (do
      let ov ← holding [v] (eval o env)
      let iv ← holding [v, ov] (eval pi env)
      standAt pos
      holding [v, ov, iv] (setItem ov iv v)
      release [v, ov, iv] []) := by
  intro v
  cases pi <;> first | rfl | (cases h; done)
theorem ss_asgIx (C : Ctx Z X sc) {a ix e : E} {pa pi pv : Expr} {p1 pos : Pos} (h1 : SE Z X pa a) (h2 : SE Z X pi ix) (h3 : SE Z X pv e) (hi : tame pi = true) (hv : tame pv = true) : SS Z X (.Assign [.Subscript pa pi p1] pv pos) (.asgIx a ix e) := by
  obtain ⟨ta, p1', f1⟩ := h1
  obtain ⟨ti, p2', f2⟩ := h2
  obtain ⟨te, p3', f3⟩ := h3
  have hs : swapsWithSole [.Subscript pa pi p1] pv pos.line X.env = pure false := by
    cases pv <;> first | rfl | (cases hv; done)
  have hw : swappedStores [.Subscript pa pi p1] pv X.env = pure none := by
    cases pv <;> first | rfl | (cases hv; done)
  refine ⟨_, ps_asg p3' (pg_sub p1' p2' set_list (assign_sub hi pa p1 X.env)) hs hw rfl, fun σ H F μ ρ M o D r l ev q => ?_⟩
  simp only [evalS] at ev
  split at ev
  · rename_i x M1 e1
    split at ev
    · rename_i u M2 e2
      split at ev
      · rename_i k M3 e3
        split at ev
        · rename_i M4 e4
          cases ev
          refine f3 σ H F μ ρ M _ M1 _ r l e1 fun v H1 F1 μ1 x1 r1 v1 => ?_
          refine f1 σ H1 F1 μ1 ρ M1 _ M2 _ r1 (l.mono x1) e2 fun o H2 F2 μ2 x2 r2 v2 => ?_
          refine f2 σ H2 F2 μ2 ρ M2 _ M3 _ r2 ((l.mono x1).mono x2) e3 fun i H3 F3 μ3 x3 r3 v3 => ?_
          have x12 := x1.trans x2 r2.nd
          refine store_go r3 (v2.mono x3) v3 (Dq.mono x3.fr _ (Dq.mono x2.fr _ v1)) e4 fun H4 x4 r4 => ?_
          have xx := (x12.trans x3 r3.nd).trans x4 r4.nd
          exact q σ H4 F3 μ3 xx r4 (l.mono xx)
        · cases ev
      · cases ev
    · cases ev
  · cases ev

/-! ### several targets -/
def STg (Z : Sig) (X : Cx) (pes : List Expr) (tg : Tg) : Prop := (assignEach pes X.env).length = pes.length ∧ (assignEach pes X.env).findIdx? (·.1) = none ∧ (∀ ρ M xs r, evalTg Z.cf Z.G Z.wf tg xs ρ M = some r → xs.length = pes.length) ∧
  ∃ g, PGs X pes g ∧ ∀ vs σ H F μ ρ M xs ρ' M' (Q : L2.St → Hp → Prop), Rel X.K H F μ M → LocR X.K F μ ρ σ → Dqs X.K F vs xs → evalTg Z.cf Z.G Z.wf tg xs ρ M = some (ρ', M') →
    (∀ σ' H' F' μ', Ext H F μ H' F' μ' → Rel X.K H' F' μ' M' → LocR X.K F' μ' ρ' σ' → Q σ' H') → g vs σ H Q
theorem stg_nil : STg Z X [] .nil := by
  refine ⟨rfl, rfl, fun ρ M xs r e => ?_, _, pgs_nil, fun vs σ H F μ ρ M xs ρ' M' Q r l hd e q => ?_⟩
  · cases xs with
    | nil => rfl
    | cons _ _ => cases e
  · cases xs with
    | nil => cases hd; cases e; exact ⟨rfl, q σ H F μ Ext.refl r l⟩
    | cons _ _ => cases e
theorem find_cons {f : Value → Sem Unit} {l : List (Bool × (Value → Sem Unit))} (h : l.findIdx? (·.1) = none) : List.findIdx? (·.1) ((false, f) :: l) = none := by
  rw [List.findIdx?_cons, h]
  simp
theorem stg_nm (C : Ctx Z X sc) {i : Nat} {x : Str} {pos : Pos} {tg : Tg} {pes : List Expr} (h1 : Z.N[i]? = some x) (h2 : isLoc sc x = true) (h : STg Z X pes tg) : STg Z X (.Name x pos :: pes) (.nm i tg) := by
  obtain ⟨n1, n2, n3, g, pg, f⟩ := h
  refine ⟨congrArg (· + 1) n1, find_cons n2, fun ρ M xs r e => ?_, _, pgs_cons (pg_name (i := i) (by rw [C.names]; exact C.nd) (by rw [C.names]; exact h1) (C.loc x h2) (C.fnc x h2)) pg, fun vs σ H F μ ρ M xs ρ' M' Q r l hd e q => ?_⟩
  · cases xs with
    | nil => cases e
    | cons y ys => exact congrArg (· + 1) (n3 _ _ _ _ e)
  · cases hd with
    | nil => cases e
    | @cons v vs' d ds hv hd =>
      exact ⟨v, vs', rfl, f vs' _ H F μ _ M ds ρ' M' Q r (l.set i (w := .d d) hv) hd e q⟩
theorem stg_sub (C : Ctx Z X sc) {a ix : E} {pa pi : Expr} {pos : Pos} {tg : Tg} {pes : List Expr} (h1 : SE Z X pa a) (h2 : SE Z X pi ix) (hi : tame pi = true) (h : STg Z X pes tg) : STg Z X (.Subscript pa pi pos :: pes) (.sub a ix tg) := by
  obtain ⟨n1, n2, n3, g, pg, f⟩ := h
  obtain ⟨ta, p1', f1⟩ := h1
  obtain ⟨ti, p2', f2⟩ := h2
  refine ⟨congrArg (· + 1) n1, find_cons n2, fun ρ M xs r e => ?_, _, pgs_cons (pg_sub p1' p2' set_list (assign_sub hi pa pos X.env)) pg, fun vs σ H F μ ρ M xs ρ' M' Q r l hd e q => ?_⟩
  · cases xs with
    | nil => cases e
    | cons y ys =>
      simp only [evalTg] at e
      split at e
      · split at e
        · split at e
          · exact congrArg (· + 1) (n3 _ _ _ _ e)
          · cases e
        · cases e
      · cases e
  · cases hd with
    | nil => cases e
    | @cons v vs' d ds hv hd =>
      refine ⟨v, vs', rfl, ?_⟩
      simp only [evalTg] at e
      split at e
      · rename_i u M2 e2
        split at e
        · rename_i k M3 e3
          split at e
          · rename_i M4 e4
            refine f1 σ H F μ ρ M _ M2 _ r l e2 fun o H2 F2 μ2 x2 r2 v2 => ?_
            refine f2 σ H2 F2 μ2 ρ M2 _ M3 _ r2 (l.mono x2) e3 fun i H3 F3 μ3 x3 r3 v3 => ?_
            have x23 := x2.trans x3 r3.nd
            refine store_go r3 (v2.mono x3) v3 (Dq.mono x23.fr _ hv) e4 fun H4 x4 r4 => ?_
            have xx := x23.trans x4 r4.nd
            exact f vs' σ H4 F3 μ3 ρ M4 ds ρ' M' Q r4 (l.mono xx) (hd.mono x23.fr) e fun σ' H' F' μ' x' r' l' => q σ' H' F' μ' (xx.trans x' r'.nd) r' l'
          · cases e
        · cases e
      · cases e
theorem stg_all (C : Ctx Z X sc) : ∀ (tg : Tg) (pes : List Expr), okTg Z.fs Z.gs Z.im Z.N sc tg pes = true → STg Z X pes tg
  | .nil, [], _ => stg_nil
  | .nil, _ :: _, h => by simp [okTg] at h
  | .nm i r, pes, h => by
    simp only [okTg] at h
    split at h <;> try (cases h; done)
    simp only [Bool.and_eq_true, decide_eq_true_eq] at h
    exact stg_nm C h.1.1 h.1.2 (stg_all C r _ h.2)
  | .sub a ix r, pes, h => by
    simp only [okTg] at h
    split at h <;> try (cases h; done)
    simp only [Bool.and_eq_true] at h
    exact stg_sub C (sET a C _ h.1.1.1.1).1 (sET ix C _ h.1.1.1.2).1 h.1.2 (stg_all C r _ h.2)
theorem blk_fn {env : PySem.Env} (hk : env.scope.kind = .function) : env.blockKind = .function := by
  unfold Env.blockKind
  rw [hk]; rfl
theorem kind_ne {k : ScopeKind} (h : k = .function) : (k != .function) = false := by subst h; decide
theorem fm_len {α β : Type} (f : α → Option β) : ∀ l : List α, (l.filterMap f).length = l.length → l.all (fun x => (f x).isSome) = true
  | [], _ => rfl
  | x :: l, h => by
    rw [List.filterMap_cons] at h
    cases e : f x with
    | none =>
      rw [e] at h
      have := List.length_filterMap_le f l
      simp at h; omega
    | some y =>
      rw [e] at h
      rw [List.all_cons, e, fm_len f l (by simpa using h)]; rfl
theorem in_order {env : PySem.Env} (hk : env.scope.kind = .function) {pts : List Expr} {pv : Expr} (hv : tame pv = true) {k : Nat} {pos : Pos} (h : inOrder env.scope pts pv = true) : swappedStores [.Tuple pts k pos] pv env = pure none := by
  cases pv <;> first | rfl | (cases hv; done) | skip
  rename_i vs k2 p2
  unfold inOrder at h
  simp only [Bool.or_eq_true] at h
  unfold swappedStores
  show (if _ then _ else _) = _
  split
  · rfl
  rename_i c1
  rw [Bool.not_eq_true, Bool.or_eq_false_iff, Bool.or_eq_false_iff] at c1
  split
  · rfl
  rename_i c2
  dsimp only
  split
  · rfl
  rename_i c3
  split
  · rfl
  rename_i c4
  exfalso
  rcases h with (h | h) | h
  · rw [c1.1.1] at h; cases h
  · exact c4 h
  · rw [Bool.not_eq_true, Bool.or_eq_false_iff] at c3
    have c5 := c3.1
    have c6 := fm_len _ pts (by simpa using c5)
    rw [Bool.not_eq_true', List.all_eq_false] at h
    obtain ⟨t, ht, hn⟩ := h
    have := List.all_eq_true.mp c6 t ht
    cases t <;> try (cases this; done)
    rename_i x p
    simp only [Option.isSome_iff_exists] at this
    obtain ⟨z, hz⟩ := this
    split at hz
    · rename_i hc
      apply hn
      have hc : env.scope.names.lookup x = some .local := by
        simp only [Bool.and_eq_true, beq_iff_eq, Env.kindOf] at hc
        exact hc.1
      show isLocal env.scope x = true
      unfold isLocal
      rw [hc]
    · cases hz
theorem pg_both {X : Cx} {e : Expr} {t u : TG} (h1 : PG X e t) (h2 : PG X e u) : PG X e (fun v σ H Q => t v σ H Q ∨ u v σ H Q) :=
  ⟨fun pins s σ H v w Q I r h => h.elim (fun h => h1.run pins s σ H v w Q I r h) (fun h => h2.run pins s σ H v w Q I r h)⟩
theorem ss_asgT (C : Ctx Z X sc) (hsc : X.env.scope = sc) {tg : Tg} {e : E} {pts : List Expr} {pv : Expr} {k : Nat} {pt pos : Pos} (h1 : STg Z X pts tg) (h2 : SE Z X pv e) (hv : tame pv = true) (ho : inOrder sc pts pv = true) : SS Z X (.Assign [.Tuple pts k pt] pv pos) (.asgT tg e) := by
  obtain ⟨n1, n2, n3, g, pg, f⟩ := h1
  obtain ⟨te, p2', f2⟩ := h2
  subst hsc
  have hs : swapsWithSole [.Tuple pts k pt] pv pos.line X.env = pure false := by
    cases pv <;> first | rfl | (cases hv; done)
  refine ⟨_, ps_asg p2' (pg_both (pg_tup (n := pts.length) C.calm pg n1 n2) (pg_unl (n := pts.length) C.calm pg n1 n2)) hs (in_order C.kind hv ho) rfl, fun σ H F μ ρ M o D r l ev q => ?_⟩
  simp only [evalS] at ev
  split at ev
  · rename_i xs M1 e1
    split at ev
    · rename_i ρ' M2 e2
      cases ev
      refine f2 σ H F μ ρ M _ M1 _ r l e1 fun v H1 F1 μ1 x1 r1 v1 => ?_
      cases v1 with
      | @tup a vs _ h1 q1 =>
        refine .inl ⟨a, vs, rfl, sqT_mono r1.sub h1, by rw [q1.length]; exact n3 _ _ _ _ e2, ?_⟩
        exact f vs σ H1 F1 μ1 ρ M1 xs ρ' M2 _ r1 (l.mono x1) q1 e2 fun σ' H' F' μ' x' r' l' => q σ' H' F' μ' (x1.trans x' r'.nd) r' l'
    · cases ev
  · rename_i xs M1 e1
    split at ev
    · rename_i ρ' M2 e2
      cases ev
      refine f2 σ H F μ ρ M _ M1 _ r l e1 fun v H1 F1 μ1 x1 r1 v1 => ?_
      cases v1 with
      | @lst a vs _ h1 q1 =>
        refine .inr ⟨a, vs, rfl, sqL_mono r1.sub (SqL.of h1), by rw [q1.length]; exact n3 _ _ _ _ e2, ?_⟩
        exact f vs σ H1 F1 μ1 ρ M1 xs ρ' M2 _ r1 (l.mono x1) q1 e2 fun σ' H' F' μ' x' r' l' => q σ' H' F' μ' (x1.trans x' r'.nd) r' l'
    · cases ev
  · cases ev

/-! ### a, b = x, y -/
theorem isLocal_eq {sc : Scope} {x : Str} (h : isLocal sc x = true) : sc.names.lookup x = some .local := by
  unfold isLocal at h
  split at h
  · rename_i e; exact e
  · cases h
theorem tame_nostar : ∀ {vs : List Expr}, vs.all tame = true → (vs.any fun | .Starred .. => true | _ => false) = false
  | [], _ => rfl
  | v :: vs, h => by
    rw [List.all_cons, Bool.and_eq_true] at h
    rw [List.any_cons, tame_nostar h.2]
    cases v <;> first | rfl | (have := h.1; cases this)
theorem swapped2 {env : PySem.Env} {x y : Str} {px py pt pt2 : Pos} {kt k2 : Nat} {a b : Expr} (hk : env.scope.kind = .function) (hx : env.scope.names.lookup x = some .local) (hy : env.scope.names.lookup y = some .local) (hxy : x ≠ y) (hl : py.line = px.line)
    (h1 : [a, b].all tame = true) (hf : [a, b].all (foldedForSure 8) = false) (hc : [a, b].all (constantsAlone 8) = false) :
    swappedStores [.Tuple [.Name x px, .Name y py] kt pt] (.Tuple [a, b] k2 pt2) env = pure (some [x, y]) := by
  unfold swappedStores
  have e1 : (y == x) = false := by simpa using Ne.symm hxy
  have hp : (Expr.Name x px).pos.line = px.line := rfl
  simp [blk_fn hk, tame_nostar h1, hf, hc, Env.kindOf, hx, hy, hl, hp, List.eraseDups_cons, e1]
  intro h
  exfalso
  simp only [List.all_cons, List.all_nil, Bool.and_eq_true] at h1
  rcases h with h | h
  · have := h1.1; cases a <;> first | (cases h; done) | (cases this; done)
  · have := h1.2.1; cases b <;> first | (cases h; done) | (cases this; done)
theorem swapped3 {env : PySem.Env} {x y z : Str} {px py pz pt pt2 : Pos} {kt k2 : Nat} {a b c : Expr} (hk : env.scope.kind = .function) (hx : env.scope.names.lookup x = some .local) (hy : env.scope.names.lookup y = some .local) (hz : env.scope.names.lookup z = some .local) (hxy : x ≠ y) (hxz : x ≠ z) (hyz : y ≠ z) (hl : py.line = px.line) (hl2 : pz.line = px.line)
    (h1 : [a, b, c].all tame = true) (hf : [a, b, c].all (foldedForSure 8) = false) (hc : [a, b, c].all (constantsAlone 8) = false) :
    swappedStores [.Tuple [.Name x px, .Name y py, .Name z pz] kt pt] (.Tuple [a, b, c] k2 pt2) env = pure (some [x, y, z]) := by
  unfold swappedStores
  have e1 : (y == x) = false := by simpa using Ne.symm hxy
  have e2 : (z == x) = false := by simpa using Ne.symm hxz
  have e3 : (z == y) = false := by simpa using Ne.symm hyz
  have hp : (Expr.Name x px).pos.line = px.line := rfl
  simp [blk_fn hk, tame_nostar h1, hf, hc, Env.kindOf, hx, hy, hz, hl, hl2, hp, List.eraseDups_cons, e1, e2, e3]
  intro h
  exfalso
  simp only [List.all_cons, List.all_nil, Bool.and_eq_true] at h1
  rcases h with h | h | h
  · have := h1.1; cases a <;> first | (cases h; done) | (cases this; done)
  · have := h1.2.1; cases b <;> first | (cases h; done) | (cases this; done)
  · have := h1.2.2.1; cases c <;> first | (cases h; done) | (cases this; done)
theorem Ctx.inj (C : Ctx Z X sc) {i j : Nat} {x : Str} (hi : Z.N[i]? = some x) (hj : Z.N[j]? = some x) : i = j := by
  obtain ⟨h1, k1⟩ := List.getElem?_eq_some_iff.mp hi
  obtain ⟨h2, k2⟩ := List.getElem?_eq_some_iff.mp hj
  exact (List.getElem_inj C.nd).mp (k1.trans k2.symm)
theorem rs2 {K : PySem.W.Frag} {F : Hp} {μ : List Addr} {ws : List W} {vs : List V} (v : ValRs K F μ ws vs) (h : ws.length = 2) : ∃ w1 w2 v1 v2, ws = [w1, w2] ∧ vs = [v1, v2] ∧ ValR K F μ w1 v1 ∧ ValR K F μ w2 v2 := by
  cases v with
  | nil => cases h
  | cons a v =>
    cases v with
    | nil => cases h
    | cons b v =>
      cases v with
      | nil => exact ⟨_, _, _, _, rfl, rfl, a, b⟩
      | cons _ _ => simp at h
theorem rs3 {K : PySem.W.Frag} {F : Hp} {μ : List Addr} {ws : List W} {vs : List V} (v : ValRs K F μ ws vs) (h : ws.length = 3) : ∃ w1 w2 w3 v1 v2 v3, ws = [w1, w2, w3] ∧ vs = [v1, v2, v3] ∧ ValR K F μ w1 v1 ∧ ValR K F μ w2 v2 ∧ ValR K F μ w3 v3 := by
  cases v with
  | nil => cases h
  | cons a v =>
    cases v with
    | nil => cases h
    | cons b v =>
      cases v with
      | nil => cases h
      | cons c v =>
        cases v with
        | nil => exact ⟨_, _, _, _, _, _, rfl, rfl, a, b, c⟩
        | cons _ _ => simp at h
theorem parNms_cons {N : List Str} {sc : Scope} {line : Nat} {is : List Nat} {a : Expr} {r : List Expr} (h : parNms N sc line is (a :: r) = true) : ∃ i is' x p, is = i :: is' ∧ a = .Name x p ∧ N[i]? = some x ∧ isLocal sc x = true ∧ p.line = line ∧ i ∉ is' ∧ parNms N sc line is' r = true := by
  cases is with
  | nil => cases h
  | cons i is' =>
    cases a with
    | Name x p =>
      simp only [parNms, Bool.and_eq_true, decide_eq_true_eq, beq_iff_eq] at h
      obtain ⟨⟨⟨⟨b1, b2⟩, b3⟩, b4⟩, b5⟩ := h
      exact ⟨i, is', x, p, rfl, rfl, b1, b2, b3, by simpa using b4, b5⟩
    | _ => simp [parNms] at h
theorem parNms_nil {N : List Str} {sc : Scope} {line : Nat} {is : List Nat} (h : parNms N sc line is [] = true) : is = [] := by
  cases is with
  | nil => rfl
  | cons i is' => cases h
theorem ss_par (C : Ctx Z X sc) (hsc : X.env.scope = sc) {is : List Nat} {es : Es} {pts pvs : List Expr} {k k2 : Nat} {pt p2 pos p : Pos} {x0 : Str} {pr : List Expr} (h1 : okEs Z.fs Z.gs Z.im Z.N sc es pvs = true) (h2 : (pvs.length == pts.length) = true) (h3 : (pts.length == 2 || pts.length == 3) = true)
    (hp : pts = .Name x0 p :: pr) (h4 : parNms Z.N sc p.line is pts = true) (h5 : (!pvs.all (foldedForSure 8)) = true) (h6 : (!pvs.all (constantsAlone 8)) = true) : SS Z X (.Assign [.Tuple pts k pt] (.Tuple pvs k2 p2) pos) (.par is es) := by
  subst hsc
  obtain ⟨t, pa, gl, f⟩ := sAs es C pvs h1
  have ht := (okEs_tame h1).1
  have hN : X.N.Nodup := by rw [C.names]; exact C.nd
  have h2 := eq_of_beq h2
  rw [Bool.not_eq_true'] at h5 h6
  match pts, pvs, h3, h2, hp, h4 with
  | [a1, a2], [e1, e2], _, _, hp, h4 =>
    obtain ⟨i, is1, x, px, rfl, rfl, b1, b2, b3, b4, h4⟩ := parNms_cons h4
    obtain ⟨j, is2, y, py, rfl, rfl, c1, c2, c3, c4, h4⟩ := parNms_cons h4
    cases parNms_nil h4
    cases hp
    have hij : i ≠ j := by simpa using b4
    have hxy : x0 ≠ y := fun e => hij (C.inj b1 (by rw [e]; exact c1))
    have lx := isLocal_eq b2
    have ly := isLocal_eq c2
    have b1' : X.N[i]? = some x0 := by rw [C.names]; exact b1
    have c1' : X.N[j]? = some y := by rw [C.names]; exact c1
    refine ⟨_, ps_par C.calm hN b1' c1' hij lx ly pa (swapped2 C.kind lx ly hxy c3 ht h5 h6) rfl, fun σ H F μ ρ M o D r l ev q => ?_⟩
    simp only [evalS] at ev
    split at ev
    · rename_i ws M1 ee
      cases ev
      refine f σ H F μ ρ M ws M1 _ r l ee fun vs H1 F1 μ1 x1 r1 v1 => ?_
      obtain ⟨w1, w2, v1', v2', rfl, rfl, g1, g2⟩ := rs2 v1 (gl _ _ _ _ ee)
      exact ⟨v1', v2', rfl, q _ H1 F1 μ1 x1 r1 (((l.mono x1).set i g1).set j g2)⟩
    · cases ev
  | [a1, a2, a3], [e1, e2, e3], _, _, hp, h4 =>
    obtain ⟨i, is1, x, px, rfl, rfl, b1, b2, b3, b4, h4⟩ := parNms_cons h4
    obtain ⟨j, is2, y, py, rfl, rfl, c1, c2, c3, c4, h4⟩ := parNms_cons h4
    obtain ⟨m, is3, z, pz, rfl, rfl, d1, d2, d3, d4, h4⟩ := parNms_cons h4
    cases parNms_nil h4
    cases hp
    have hij : i ≠ j ∧ i ≠ m := by simpa using b4
    have hjm : j ≠ m := by simpa using c4
    have hxy : x0 ≠ y := fun e => hij.1 (C.inj b1 (by rw [e]; exact c1))
    have hxz : x0 ≠ z := fun e => hij.2 (C.inj b1 (by rw [e]; exact d1))
    have hyz : y ≠ z := fun e => hjm (C.inj c1 (by rw [e]; exact d1))
    have lx := isLocal_eq b2
    have ly := isLocal_eq c2
    have lz := isLocal_eq d2
    have b1' : X.N[i]? = some x0 := by rw [C.names]; exact b1
    have c1' : X.N[j]? = some y := by rw [C.names]; exact c1
    have d1' : X.N[m]? = some z := by rw [C.names]; exact d1
    refine ⟨_, ps_par3 C.calm hN b1' c1' d1' hij.1 hij.2 hjm lx ly lz pa (swapped3 C.kind lx ly lz hxy hxz hyz c3 d3 ht h5 h6) rfl, fun σ H F μ ρ M o D r l ev q => ?_⟩
    simp only [evalS] at ev
    split at ev
    · rename_i ws M1 ee
      cases ev
      refine f σ H F μ ρ M ws M1 _ r l ee fun vs H1 F1 μ1 x1 r1 v1 => ?_
      obtain ⟨w1, w2, w3, v1', v2', v3', rfl, rfl, g1, g2, g3⟩ := rs3 v1 (gl _ _ _ _ ee)
      exact ⟨v1', v2', v3', rfl, q _ H1 F1 μ1 x1 r1 ((((l.mono x1).set i g1).set j g2).set m g3)⟩
    · cases ev

/-! ### op= -/
def SerI (X : Cx) (p : P2) (o : Operator) : Prop := ∃ ti, PIp X o ti ∧ ∀ {H F : Hp} {x y : V} {dx dy z : PyData} {Q : VK}, Dq X.K F x dx → Dq X.K F y dy → augOk p dx dy = some z → (∀ v, Dq X.K F v z → Q v H) → ti x y H Q
theorem iop_mulW : OpR X (inplaceOp .Mult) (rI (fun i j => mulOk i j = true) fun i j => .int (i * j)) := opI fun _ _ _ _ _ _ _ hc q => imul_int q (mulOk_ok hc)
theorem seri_add : SerI X .add .Add := by
  refine ⟨_, opr_or iop_add iop_add_str, ?_⟩
  intro H F x y dx dy z Q hx hy e q
  cases dx <;> cases dy <;> try (cases e; done)
  case int.int i j => cases e; cases hx; cases hy; exact .inl ⟨i, j, rfl, rfl, q _ (.int _)⟩
  case str.str i j =>
    simp only [augOk] at e
    split at e
    · rename_i hz
      cases e; cases hx; cases hy; exact .inr ⟨i, j, rfl, rfl, hz, q _ (.str _)⟩
    · cases e
theorem seri_sub : SerI X .sub .Sub := by
  refine ⟨_, iop_sub, ?_⟩
  intro H F x y dx dy z Q hx hy e q
  cases dx <;> cases dy <;> try (cases e; done)
  case int.int i j => cases e; cases hx; cases hy; exact ⟨i, j, rfl, rfl, q _ (.int _)⟩
theorem seri_mul : SerI X .mul .Mult := by
  refine ⟨_, iop_mulW, ?_⟩
  intro H F x y dx dy z Q hx hy e q
  cases dx <;> cases dy <;> try (cases e; done)
  case int.int i j =>
    simp only [augOk] at e
    split at e
    · rename_i hz
      cases e; cases hx; cases hy; exact ⟨i, j, rfl, rfl, hz, q _ (.int _)⟩
    · cases e
theorem seri_none {p : P2} {o : Operator} (h : ∀ x y, augOk p x y = none) : SerI X p o := by
  refine ⟨fun _ _ _ _ => False, fun _ _ _ _ _ _ _ _ _ _ _ _ h => False.elim h, ?_⟩
  intro H F x y dx dy z Q hx hy e q
  rw [h] at e; cases e
theorem seri_all {p : P2} {o : Operator} (h : binOk p o = true) : SerI X p o := by
  cases p <;> cases o <;> first
    | (cases h; done)
    | exact seri_add
    | exact seri_sub
    | exact seri_mul
    | exact seri_none fun x y => by cases x <;> cases y <;> rfl
theorem ss_aug (C : Ctx Z X sc) {p : P2} {o : Operator} {i : Nat} {x : Str} {e : E} {pv : Expr} {px pos : Pos} (h1 : Z.N[i]? = some x) (h2 : isLoc sc x = true) (h3 : SE Z X pv e) (h4 : binOk p o = true) : SS Z X (.AugAssign (.Name x px) o pv pos) (.aug p i e) := by
  obtain ⟨te, p1, f⟩ := h3
  obtain ⟨ti, p2, g⟩ := seri_all (X := X) h4
  refine ⟨_, ps_aug (i := i) (by rw [C.names]; exact C.nd) (by rw [C.names]; exact h1) (C.loc x h2) p1 p2 (C.fnc x h2), fun σ H F μ ρ M o D r l ev q => ?_⟩
  simp only [evalS] at ev
  split at ev
  · rename_i a ha
    split at ev
    · rename_i b M1 e1
      split at ev
      · rename_i z hz
        cases ev
        obtain ⟨v, hv, rv⟩ := l.2 i _ ha
        refine ⟨v, hv, f σ H F μ ρ M _ M1 _ r l e1 fun u H1 F1 μ1 x1 r1 v1 => ?_⟩
        refine g (Dq.mono x1.fr _ rv) v1 hz fun y hy => ?_
        exact q _ H1 F1 μ1 x1 r1 ((l.mono x1).set i (w := .d z) hy)
      · cases ev
    · cases ev
  · cases ev

/-! ### every statement -/
mutual
theorem sSt (C : Ctx Z X sc) (hsc : X.env.scope = sc) : ∀ (s : S) (st : Stmt), okS Z.fs Z.gs Z.im Z.N sc s st = true → SS Z X st s
  | .asg i e, st, h => by
    simp only [okS] at h
    split at h <;> try (cases h; done)
    simp only [Bool.and_eq_true, decide_eq_true_eq] at h
    exact ss_asg C h.1.1.1 h.1.1.2 h.1.2 h.2
  | .asgT tg e, st, h => by
    simp only [okS] at h
    split at h <;> try (cases h; done)
    simp only [Bool.and_eq_true] at h
    exact ss_asgT C hsc (stg_all C tg _ h.1.1.1) (sET e C _ h.1.1.2).1 h.1.2 h.2
  | .par is es, st, h => by
    simp only [okS] at h
    split at h <;> try (cases h; done)
    simp only [Bool.and_eq_true] at h
    obtain ⟨⟨⟨⟨⟨a1, a2⟩, a3⟩, a4⟩, a5⟩, a6⟩ := h
    split at a4 <;> try (cases a4; done)
    exact ss_par C hsc a1 a2 a3 rfl a4 a5 a6
  | .asgIx a ix e, st, h => by
    simp only [okS] at h
    split at h <;> try (cases h; done)
    simp only [Bool.and_eq_true] at h
    obtain ⟨⟨⟨⟨⟨a1, a2⟩, a3⟩, a4⟩, a5⟩, a6⟩ := h
    exact ss_asgIx C (sET a C _ a1).1 (sET ix C _ a2).1 (sET e C _ a3).1 a5 a6
  | .aug p i e, st, h => by
    simp only [okS] at h
    split at h <;> try (cases h; done)
    simp only [Bool.and_eq_true, decide_eq_true_eq] at h
    exact ss_aug C h.1.1.1 h.1.1.2 (sET e C _ h.1.2).1 h.2
  | .expr e, st, h => by
    simp only [okS] at h
    split at h <;> try (cases h; done)
    simp only [Bool.and_eq_true] at h
    refine ss_expr C h.1 ?_
    obtain ⟨_, h2⟩ := h
    split at h2 <;> first | rfl | cases h2
  | .ret e, st, h => by
    simp only [okS] at h
    split at h <;> try (cases h; done)
    exact ss_ret C h
  | .ife c a b, st, h => by
    simp only [okS] at h
    split at h <;> try (cases h; done)
    simp only [Bool.and_eq_true] at h
    exact ss_if (sET c C _ h.1.1).2 (sSs C hsc a _ h.1.2) (sSs C hsc b _ h.2)
  | .whl c b, st, h => by
    simp only [okS] at h
    split at h <;> try (cases h; done)
    simp only [Bool.and_eq_true] at h
    exact ss_while C (sET c C _ h.1).2 (sSs C hsc b _ h.2)
  | .fr tg it b, st, h => by
    simp only [okS] at h
    split at h <;> try (cases h; done)
    simp only [Bool.and_eq_true] at h
    obtain ⟨si, ht⟩ := sI it C tg _ _ h.1.1.1 h.1.1.2 h.1.2
    exact ss_for C ht si (sgT C h.1.2) (sSs C hsc b _ h.2)
  | .brk, st, h => by
    simp only [okS] at h
    split at h <;> try (cases h; done)
    refine ⟨_, ps_break, fun σ H F μ ρ M o D r l ev q => ?_⟩
    have ev : some (Out.bk ρ M) = some o := by simpa only [evalS] using ev
    cases ev
    exact q σ H F μ Ext.refl r l
  | .cont, st, h => by
    simp only [okS] at h
    split at h <;> try (cases h; done)
    refine ⟨_, ps_continue, fun σ H F μ ρ M o D r l ev q => ?_⟩
    have ev : some (Out.ct ρ M) = some o := by simpa only [evalS] using ev
    cases ev
    exact q σ H F μ Ext.refl r l
  | .pass, st, h => by
    simp only [okS] at h
    split at h <;> try (cases h; done)
    refine ⟨_, ps_pass, fun σ H F μ ρ M o D r l ev q => ?_⟩
    have ev : some (Out.nx ρ M) = some o := by simpa only [evalS] using ev
    cases ev
    exact q σ H F μ Ext.refl r l
  | .stuck, st, h => by
    refine ⟨fun _ _ _ => False, ⟨fun _ _ _ _ _ _ h => False.elim h⟩, fun σ H F μ ρ M o D r l ev q => ?_⟩
    have ev : (none : Option Out) = some o := by simpa only [evalS] using ev
    cases ev
theorem sSs (C : Ctx Z X sc) (hsc : X.env.scope = sc) : ∀ (ss : Ss) (sts : List Stmt), okSs Z.fs Z.gs Z.im Z.N sc ss sts = true → SSs Z X sts ss
  | .nil, [], _ => sss_nil
  | .nil, _ :: _, h => by simp [okSs] at h
  | .cons s r, [], h => by simp [okSs] at h
  | .cons s r, p :: pr, h => by
    simp only [okSs, Bool.and_eq_true] at h
    exact sss_cons (sSt C hsc s p h.1) (sSs C hsc r pr h.2)
end
end
end EV

/-! EvH: defs, the head. -/
namespace EV
open PySem PySem.Spec PyProof.Rows L2
section
variable {K : PySem.W.Frag} {H F H' F' : Hp} {μ μ' : List Addr} {M M1 : Mem}
theorem Ext.cut (x : Ext H F μ H' F' μ') : Ext H F μ H' F' μ := ⟨x.fr, ⟨[], by simp, by simp⟩, x.kp, x.nf⟩
theorem Rel.cut (x : Ext H F μ H' F' μ') (r : Rel K H' F' μ' M1) {n : Nat} (hn : μ.length = n) : Rel K H' F' μ (M1.take n) := by
  obtain ⟨f, ⟨ν, rfl, hν⟩, k, nf⟩ := x
  have hl := r.len
  rw [List.length_append] at hl
  refine ⟨r.sub, by rw [List.length_take]; omega, (List.nodup_append.mp r.nd).1, fun a ha => r.al a (List.mem_append_left _ ha), fun i xs h => ?_⟩
  have hi : i < n := by
    have := (List.getElem?_eq_some_iff.mp h).1
    rw [List.length_take] at this; omega
  rw [List.getElem?_take_of_lt hi] at h
  obtain ⟨a, vs, e1, e2, e3, e4⟩ := r.lst i xs h
  rw [List.getElem?_append_left (by omega)] at e1
  exact ⟨a, vs, e1, e2, e3, e4⟩
theorem finish_go {w0 w : W} {M' : Mem} {v : V} {Q : VK} (hn : μ.length = M.length) (x : Ext H F μ H' F' μ') (r : Rel K H' F' μ' M1) (hv : ValR K F' μ' w0 v) (e : finish M.length w0 M1 = some (w, M'))
    (q : ∀ v H' F' μ', Ext H F μ H' F' μ' → Rel K H' F' μ' M' → ValR K F' μ' w v → Q v H') : Q v H' := by
  cases w0 with
  | d y =>
    cases e
    exact q v H' F' μ x.cut (r.cut x hn) hv
  | r ns =>
    cases e
    exact q v H' F' μ x.cut (r.cut x hn) hv
  | m i =>
    obtain ⟨a, ha, rfl⟩ := hv
    unfold finish at e
    simp only at e
    split at e
    · rename_i hi
      cases e
      refine q _ H' F' μ x.cut (r.cut x hn) ⟨a, ?_, rfl⟩
      obtain ⟨_, ⟨ν, rfl, _⟩, _, _⟩ := x
      rw [List.getElem?_append_left (by omega)] at ha
      exact ha
    · rename_i hi
      split at e
      · rename_i xs hx
        cases e
        obtain ⟨b, vs, e1, e2, e3, e4⟩ := r.lst i xs hx
        rw [ha] at e1; cases e1
        have hν : a ∉ μ ∧ H a = none := by
          obtain ⟨_, ⟨ν, rfl, hν⟩, _, _⟩ := x
          have nd := r.nd
          rw [List.getElem?_append_right (by omega)] at ha
          have hm := List.mem_of_getElem? ha
          exact ⟨fun z => (List.nodup_append.mp nd).2.2 a z a hm rfl, hν a hm⟩
        have x1 := x.cut
        have r1 := (r.cut x hn).take e3 hν.1 e2
        refine q _ H' _ μ ⟨x1.fr.trans (Sub.new e2), x1.mu, x1.kp, fun b o h => ?_⟩ r1 (.lst upd_same (e4.mono (Sub.new e2)))
        by_cases eb : b = a
        · subst eb; exact .inr (.inl hν.2)
        · rw [upd_ne eb] at h; exact x1.nf b o h
      · cases e
theorem locr_start {ws : List W} {vs : List V} : ∀ (_ : ValRs K F μ ws vs) (n : Nat) (N : List Str) (_ : n = N.length - vs.length), LocR K F μ (ws.map some ++ List.replicate n none) (L2.start N vs)
  | v, n, N, hn => by
    have hl := v.length
    refine ⟨by simp [L2.start, hl, hn], fun i w h => ?_⟩
    by_cases hi : i < ws.length
    · rw [List.getElem?_append_left (by simpa using hi), List.getElem?_map] at h
      have go : ∀ {ws : List W} {vs : List V} (_ : ValRs K F μ ws vs) (i : Nat) (w : W), ws[i]? = some w → ∃ v, vs[i]? = some v ∧ ValR K F μ w v := by
        intro ws vs v
        induction v with
        | nil => intro i w h; simp at h
        | @cons w0 ws v0 vs a b ih =>
          intro i w h
          cases i with
          | zero => cases h; exact ⟨v0, rfl, a⟩
          | succ i => exact ih i w (by simpa using h)
      cases hw : ws[i]? with
      | none => rw [hw] at h; cases h
      | some u =>
        rw [hw] at h; cases h
        obtain ⟨y, hy, ry⟩ := go v i _ hw
        refine ⟨y, ?_, ry⟩
        unfold L2.start
        rw [List.getElem?_append_left (by rw [List.length_map, ← hl]; exact hi), List.getElem?_map, hy]; rfl
    · rw [List.getElem?_append_right (by simpa using hi)] at h
      rw [List.getElem?_replicate] at h
      split at h <;> cases h
end

/-! ### the program's defs -/
structure DF where
  x : Str
  d : He.DefD
  ps : List Str
  N : List Str
  fn : Fn
/-- the program as we tell it: defs, constants, what is brought in, the turns of a while -/
structure PG0 where
  defs : List DF
  gs : List (Str × PyData)
  im : List B
abbrev PG0.fs (T : PG0) : List Str := T.defs.map (·.x)
abbrev PG0.gn (T : PG0) : List Str := T.gs.map (·.1)
abbrev PG0.G (T : PG0) : List PyData := T.gs.map (·.2)
abbrev PG0.ds (T : PG0) : List He.DefD := T.defs.map DF.d
abbrev PG0.fns (T : PG0) : List Fn := T.defs.map (·.fn)
def scB (N P : List Str) (sc : Scope) : Bool := decide (sc.kind = .function) && !sc.isCoroutine && !sc.isGenerator && decide N.Nodup && decide (N.take P.length = P) && P.all (fun x => decide (sc.names.lookup x = some .local) || decide (sc.names.lookup x = some .cell)) && sc.names.all (fun y => decide (y.2 ≠ .free))
theorem scB_ok {N P : List Str} {sc : Scope} (h : scB N P sc = true) : FnScope N P sc := by
  unfold scB at h
  simp only [Bool.and_eq_true, decide_eq_true_eq, Bool.not_eq_true', List.all_eq_true, Bool.or_eq_true] at h
  obtain ⟨⟨⟨⟨⟨⟨h1, h2⟩, h3⟩, h4⟩, h5⟩, h6⟩, h7⟩ := h
  exact ⟨h1, h2, h3, h4, h5, h6, h7⟩
def DF.ok (T : PG0) (D : DF) : Bool := okSs T.fs T.gn T.im D.N D.d.scope D.fn.body D.d.body && scB D.N D.ps D.d.scope && decide (D.ps.length = D.fn.ar) && decide (D.N.length = D.fn.sl) && D.d.dfl.isEmpty && D.d.kwd.isEmpty && decide (D.d.at_ = (D.x, none))
def BindOk (D : DF) : Prop := ∀ (kV doc pm : Value) (an : Option Addr) (cdv ct : Value) (us : List Value), us.length = D.ps.length → bindArgs (PySem.W.fnOf D.d.name D.d.qual D.d.params D.d.body D.d.scope .none kV doc pm an cdv ct) ⟨us, []⟩ = pure (D.ps.zip us)
inductive AllB : List DF → Prop
  | nil : AllB []
  | cons {D : DF} {l : List DF} : BindOk D → AllB l → AllB (D :: l)
theorem AllB.get : ∀ {l : List DF} {i : Nat} {D : DF}, AllB l → l[i]? = some D → BindOk D
  | _, _, _, .nil, h => by simp at h
  | _, 0, _, .cons a _, h => by cases h; exact a
  | _, i + 1, D, .cons _ b, h => AllB.get (i := i) b (by simpa using h)

/-! ### constants -/
mutual
def dB (K : PySem.W.Frag) : PyData → Value → Bool
  | .none, u => (match u with | .none => true | _ => false)
  | .bool b, u => (match u with | .bool c => b == c | _ => false)
  | .int i, u => (match u with | .int j _ => decide (i = j) | _ => false)
  | .str x, u => (match u with | .str y _ => decide (x = y) | _ => false)
  | .tuple ds, u => (match u with
    | .ref a => (match K.lookup a with
      | some ⟨.type c, _, .seq its _, _⟩ => decide (c = "tuple") && decide (its.size ≤ sizeLine) && dBs K ds its.toList
      | _ => false)
    | _ => false)
  | _, _ => false
def dBs (K : PySem.W.Frag) : List PyData → List Value → Bool
  | [], [] => true
  | d :: ds, u :: us => dB K d u && dBs K ds us
  | _, _ => false
end
mutual
theorem dB_ok {K : PySem.W.Frag} : ∀ (d : PyData) {u : Value}, dB K d u = true → ∃ v, RelV v u ∧ ∀ F, Dq K F v d
  | .none, u, h => by
    cases u <;> first | (simp [dB] at h; done) | exact ⟨.non, rfl, fun _ => .non⟩
  | .bool b, u, h => by
    cases u <;> try (simp [dB] at h; done)
    rename_i c
    have e : b = c := by simpa [dB] using h
    subst e
    exact ⟨.bl b, rfl, fun _ => .bl b⟩
  | .int i, u, h => by
    cases u <;> try (simp [dB] at h; done)
    rename_i j t
    have e : i = j := by simpa [dB] using h
    subst e
    exact ⟨.int i, ⟨t, rfl⟩, fun _ => .int i⟩
  | .str x, u, h => by
    cases u <;> try (simp [dB] at h; done)
    rename_i y t
    have e : x = y := by simpa [dB] using h
    subst e
    exact ⟨.str x, ⟨t, rfl⟩, fun _ => .str x⟩
  | .tuple ds, u, h => by
    cases u <;> try (simp [dB] at h; done)
    rename_i a
    simp only [dB] at h
    split at h <;> try (cases h; done)
    rename_i c od its n sl q
    simp only [Bool.and_eq_true, decide_eq_true_eq] at h
    obtain ⟨⟨h1, h2⟩, h3⟩ := h
    obtain ⟨vs, r, hd⟩ := dBs_ok ds h3
    exact ⟨.ref a, rfl, fun F => .tup (.inr ⟨_, its, n, q, congrArg Value.type h1, rfl, h2, r⟩) (hd F)⟩
  | .list ds, u, h => by simp [dB] at h
  | .dict ds, u, h => by simp [dB] at h
theorem dBs_ok {K : PySem.W.Frag} : ∀ (ds : List PyData) {us : List Value}, dBs K ds us = true → ∃ vs, Vals vs us ∧ ∀ F, Dqs K F vs ds
  | [], [], _ => ⟨[], .nil, fun _ => .nil⟩
  | [], _ :: _, h => by simp [dBs] at h
  | _ :: _, [], h => by simp [dBs] at h
  | d :: ds, u :: us, h => by
    simp only [dBs, Bool.and_eq_true] at h
    obtain ⟨v, r, hd⟩ := dB_ok d h.1
    obtain ⟨vs, rs, hds⟩ := dBs_ok ds h.2
    exact ⟨v :: vs, .cons r rs, fun F => .cons (hd F) (hds F)⟩
end
/-- what we ask of the head besides the defs -/
def exB (T : PG0) (K : PySem.W.Frag) : Bool := T.gs.all (fun g => match PySem.W.nsIn K mainGlobals g.1 with
    | some (some u) => dB K g.2 u
    | _ => false) && T.im.all (fun b => He.eqO (PySem.W.nsIn K mainGlobals (bName b)) (some (some (bFn b)))) && bltNames.all (fun x => He.eqO (PySem.W.nsIn K mainGlobals x) (some none)) && T.defs.all (fun D => He.eqO (PySem.W.nsIn K mainGlobals D.x) (some (some (.ref (He.ga K D.x)))))
structure Facts (T : PG0) (K : PySem.W.Frag) (mg : Str → Option Value) : Prop where
  gls : ∀ (i : Nat) (x : Str), T.gn[i]? = some x → ∃ d v u, T.G[i]? = some d ∧ mg x = some u ∧ RelV v u ∧ ∀ F, Dq K F v d
  imp : ∀ b ∈ T.im, mg (bName b) = some (bFn b)
  blt : ∀ x ∈ bltNames, mg x = none
  defs : ∀ (i : Nat) (D : DF), T.defs[i]? = some D → ∃ a fd, mg D.x = some (.ref a) ∧ FunD K D.d.name D.d.qual D.d.params D.d.body D.d.scope [] [] a fd
theorem facts_of {T : PG0} {K : PySem.W.Frag} {h : Heap} {mg : Str → Option Value} (X : K.In h) (G : h.Ns mainGlobals mg) (e : exB T K = true) (ok : T.defs.all (DF.ok T) = true) (c : He.SaysD [] T.ds K) : Facts T K mg := by
  unfold exB at e
  simp only [Bool.and_eq_true, List.all_eq_true] at e
  obtain ⟨⟨⟨e1, e2⟩, e3⟩, e4⟩ := e
  refine ⟨fun i x hx => ?_, fun b hb => PySem.W.mg_of X G (He.eqO_ok (e2 b hb)), fun x hx => PySem.W.mg_none_of X G (He.eqO_ok (e3 x hx)), fun i D hD => ?_⟩
  · rw [List.getElem?_map] at hx
    cases hg : T.gs[i]? with
    | none => rw [hg] at hx; cases hx
    | some g =>
      rw [hg] at hx
      have hx : g.1 = x := Option.some.inj hx
      subst hx
      have := e1 g (List.mem_of_getElem? hg)
      split at this <;> try (cases this; done)
      rename_i u hu
      obtain ⟨v, r, hd⟩ := dB_ok g.2 this
      exact ⟨g.2, v, u, by rw [List.getElem?_map, hg]; rfl, PySem.W.mg_of X G hu, r, hd⟩
  · have hm := List.mem_of_getElem? hD
    obtain ⟨fd, F⟩ := c.def_ i (d := D.d) (by rw [List.getElem?_map, hD]; rfl)
    have k := List.all_eq_true.mp ok D hm
    unfold DF.ok at k
    simp only [Bool.and_eq_true, decide_eq_true_eq, List.isEmpty_iff] at k
    have ea : He.fAd K D.d.at_ = He.ga K D.x := by rw [k.2]; rfl
    have d1 : D.d.dvs K = [] := by unfold He.DefD.dvs; rw [k.1.1.2]; rfl
    have d2 : D.d.kws K = [] := by unfold He.DefD.kws; rw [k.1.2]; rfl
    rw [ea, d1, d2] at F
    exact ⟨_, fd, PySem.W.mg_of X G (He.eqO_ok (e4 D hm)), F⟩

/-! ### every def keeps its promise -/
theorem isGl_eq {sc : Scope} {x : Str} (h : isGl sc x = true) : sc.names.lookup x = some .globalImplicit ∧ (x == ("__debug__" : Str)) = false := by
  unfold isGl at h
  split at h
  · rename_i e; exact ⟨e, by simpa using h⟩
  · cases h
theorem isVis_eq {sc : Scope} {x : Str} (h : isVis sc x = true) : Vis sc x := by
  unfold isVis at h
  split at h
  · rename_i e; exact .inl e
  · rename_i e; exact .inr (.inl e)
  · rename_i e; exact .inr (.inr e)
  · cases h
theorem isLoc_eq {sc : Scope} {x : Str} (h : isLoc sc x = true) : L2.Loc sc x := by
  unfold isLoc at h
  split at h
  · rename_i e; exact .inl e
  · rename_i e; exact .inr e
  · cases h
theorem callF_len {fs : List Fn} {G : List PyData} {wf k f : Nat} {fn : Fn} {ws : List W} {M : Mem} {r : W × Mem} (hf : fs[f]? = some fn) (h : callF fs G wf k f ws M = some r) : ws.length = fn.ar := by
  cases k with
  | zero => cases h
  | succ k =>
    simp only [callF, hf] at h
    split at h
    · assumption
    · cases h
section
variable {T : PG0} {P : Program} {w : World} {K : PySem.W.Frag} {mg : Str → Option Value} {base : Heap} {wf : Nat}
abbrev sigOf (T : PG0) (wf k : Nat) (N : List Str) : Sig := ⟨T.fs, T.gn, T.im, N, callF T.fns T.G wf k, T.G, wf, k⟩
theorem DF.okE {D : DF} (h : D.ok T = true) : okSs T.fs T.gn T.im D.N D.d.scope D.fn.body D.d.body = true ∧ FnScope D.N D.ps D.d.scope ∧ D.ps.length = D.fn.ar ∧ D.N.length = D.fn.sl := by
  unfold DF.ok at h
  simp only [Bool.and_eq_true, decide_eq_true_eq] at h
  exact ⟨h.1.1.1.1.1.1, scB_ok h.1.1.1.1.1.2, h.1.1.1.1.2, h.1.1.1.2⟩
/-- the promise of the def number i -/
def Kept (T : PG0) (P : Program) (w : World) (K : PySem.W.Frag) (mg : Str → Option Value) (base : Heap) (wf k : Nat) : Prop := ∀ (i : Nat) (D : DF) (a : Addr) (fd : FuncData), T.defs[i]? = some D → FunD K D.d.name D.d.qual D.d.params D.d.body D.d.scope [] [] a fd →
  FnOk P w K mg base CX0 k a fd D.ps (spF K D.ps.length (callF T.fns T.G wf k i))
theorem kept (ok : T.defs.all (DF.ok T) = true) (ab : AllB T.defs) (Fc : Facts T K mg) : ∀ k, Kept T P w K mg base wf k
  | 0 => fun i D a fd hD hF => ⟨fun vs H Q E h => h.1, fun A outer s H args us vs Q E _ _ _ _ h => by
      obtain ⟨_, F, μ, M, ws, w', M', _, _, e, _⟩ := h
      cases e⟩
  | k + 1 => fun i D a fd hD hF => by
    have ih := kept ok ab Fc k
    obtain ⟨o1, o2, o3, o4⟩ := DF.okE (List.all_eq_true.mp ok D (List.mem_of_getElem? hD))
    refine hF.ok o2 (fun vs H Q E h => h.1) fun cdv A outer s H vs Q E hr h => ?_
    let X : Cx := (cxOf CX0 P w K mg base D.N D.d.qual D.d.scope a cdv A outer s H E).nox
    have C : Ctx (sigOf T wf k D.N) X D.d.scope := by
      refine ⟨o2.kind, fun x hx => isVis_eq hx, fun x hx => isLoc_eq hx, fun x hx => isLocal_eq hx, fun x hx => isGl_eq hx, fun x hx => hx, fun x hx => .inl rfl, rfl, o2.nd, rfl, rfl, hr, fun f x hx => ?_, Fc.gls, Fc.blt, Fc.imp⟩
      have hx : (T.defs.map (·.x))[f]? = some x := hx
      rw [List.getElem?_map] at hx
      cases hd : T.defs[f]? with
      | none => rw [hd] at hx; cases hx
      | some D2 =>
        rw [hd] at hx
        have hx : D2.x = x := Option.some.inj hx
        subst hx
        obtain ⟨b, fd2, m2, F2⟩ := Fc.defs f D2 hd
        obtain ⟨_, _, p3, _⟩ := DF.okE (List.all_eq_true.mp ok D2 (List.mem_of_getElem? hd))
        refine ⟨b, fd2, D2.ps, D2.ps.length, m2, F2.kp, ih f D2 b fd2 hd F2, F2.bindsN (ab.get hd), fun ws M r h => ?_⟩
        have hfn : T.fns[f]? = some D2.fn := by show (T.defs.map (·.fn))[f]? = _; rw [List.getElem?_map, hd]; rfl
        rw [callF_len hfn h, p3]
    obtain ⟨t, pt, g⟩ := sSs (Z := sigOf T wf k D.N) (X := X) C rfl D.fn.body D.d.body o1
    refine ⟨t, pt.nox, ?_⟩
    obtain ⟨hl, F, μ, M, ws, w', M', r, rv, e, q⟩ := h
    have hfn : T.fns[i]? = some D.fn := by show (T.defs.map (·.fn))[i]? = _; rw [List.getElem?_map, hD]; rfl
    simp only [callF, hfn] at e
    split at e
    · rename_i har
      have lr := locr_start rv (D.fn.sl - D.fn.ar) D.N (by rw [o4, ← rv.length, har])
      split at e
      · rename_i w0 M1 e1
        refine g _ H F μ _ M _ _ r lr e1 fun v H' F' μ' x' r' v' => ?_
        exact finish_go r.len x' r' v' e q
      · rename_i ρ1 M1 e1
        refine g _ H F μ _ M _ _ r lr e1 fun σ' H' F' μ' x' r' l' => ?_
        exact finish_go (w0 := .d .none) (v := .non) r.len x' r' .non e q
      · cases e
    · cases e
end

/-! ### the Hook -/
abbrev AlV : Type := He.AlD × Bool
def obsV (T : PG0) (K : PySem.W.Frag) : AlV := (He.obsD [] T.ds K, exB T K)
def obsVG (n : Nat) (T : PG0) (g : Addr → Option Obj) : AlV := obsV T (He.frG g (He.asD g n))
def hookV (n : Nat) (T : PG0) : PySem.W.Hook where
  α := AlV
  obs := fun s => obsVG n T s.heap.get?
  val := fun _ => (He.valD T.ds, true)
  says := fun _ h => ∃ K : PySem.W.Frag, K.In h ∧ He.SaysD [] T.ds K ∧ exB T K = true
  of := fun _ _ e => ⟨_, He.frG_in, congrArg (fun z : AlV => z.1) e, congrArg (fun z : AlV => z.2) e⟩
  keeps := fun _ _ _ ⟨K, hK, c⟩ k => ⟨K, PySem.W.Frag.In.keeps hK k, c⟩
theorem obsVG_eq {n : Nat} {T : PG0} {g : Addr → Option Obj} {s : Shared} (h : ∀ a, g a = s.heap.get? a) : obsVG n T g = (hookV n T).obs s := by
  have e : g = s.heap.get? := funext h
  rw [e] <;> rfl
end EV

/-! EvK: a law's end. -/
namespace EV
open PySem PySem.Spec PyProof.Rows L2
theorem law_sp {T : PG0} {K : PySem.W.Frag} {wf k i n : Nat} (hl : ∀ ns : List Int, ns.length ≤ n → ∃ M', callF T.fns T.G wf k i [.r ns] [] = some (.d (.bool true), M')) (H : Hp) (a : Addr) (ns : List Int) (h1 : ns.length ≤ n) (h2 : SqL K H a (ns.map V.int)) :
    spF K 1 (callF T.fns T.G wf k i) [.ref a] H (fun v _ => v = .bl true) fun _ _ _ => False := by
  obtain ⟨M', e⟩ := hl ns h1
  refine ⟨rfl, H, [], [], [.r ns], .d (.bool true), M', ⟨Sub.refl _, rfl, List.nodup_nil, fun a h => (by cases h), fun i xs h => (by simp at h)⟩, .cons ⟨a, rfl, h2⟩ .nil, e, fun v H' F' μ' _ _ hv => ?_⟩
  cases hv
  rfl
/-- the law's end -/
theorem law_end {T : PG0} {P : Program} {w : World} {mg : Str → Option Value} {fa : Addr} {h : Heap} {wf k i n nk : Nat} {D : DF} (okA : T.defs.all (DF.ok T) = true) (ab : AllB T.defs) (hD : T.defs[i]? = some D) (hx : D.ps = [("script" : Str)]) (hn : D.x = "law")
    (hl : ∀ ns : List Int, ns.length ≤ n → ∃ M', callF T.fns T.G wf k i [.r ns] [] = some (.d (.bool true), M')) (Y : (hookV nk T).says w h) (G : h.Ns mainGlobals mg) (hmg : mg "law" = some (.ref fa)) :
    ∃ (K : PySem.W.Frag) (fd : FuncData) (sp : Sp), K.In h ∧ (∀ (s : Shared) (u : Value), BindsTo s fd ⟨[u], []⟩ [("script", u)]) ∧
        (∀ (H : Hp) (a : Addr) (ns : List Int), ns.length ≤ n → Only H → SqL K H a (ns.map V.int) → sp [.ref a] H (fun v _ => v = .bl true) fun _ _ _ => False) ∧
        ∀ base : Heap, K.In base → base.Ns mainGlobals mg → FnOk P w K mg base CX0 k fa fd [("script" : Str)] sp := by
  obtain ⟨K, KX, c, ex⟩ := Y
  have Fc := facts_of KX G ex okA c
  obtain ⟨a, fd, m, F⟩ := Fc.defs i D hD
  rw [hn, hmg] at m
  cases m
  have b := FunD.bindsA F (ab.get hD)
  rw [hx] at b
  have kp := fun (base : Heap) => (kept okA ab Fc k : Kept T P w K mg base wf k) i D fa fd hD F
  rw [hx] at kp
  exact ⟨K, fd, spF K 1 (callF T.fns T.G wf k i), KX, fun s u => b s [u] rfl, fun H a ns h1 _ h2 => law_sp hl H a ns h1 h2, fun base _ _ => kp base⟩
end EV

/-! EvL: what each step gives, by its shape. -/
namespace EV
open PySem
section
variable {M : Mem} {x y : PyData} {xs ys : List PyData} {i j : Int} {b c : Bool} {w : W} {ws : List W} {n : Nat} {a z : Str}
theorem deref_d : deref (.d x) M = some x := rfl
theorem deref_m : deref (.m n) M = match M[n]? with
  | some (.lst xs) => some (.list xs)
  | _ => none := rfl
theorem derefR_d : derefR (.d x) M = some x := rfl
theorem derefR_m : derefR (.m n) M = deref (.m n) M := rfl
theorem derefR_r {ns : List Int} : derefR (.r ns) M = some (.list (ns.map .int)) := rfl
theorem db_len : derefsB .len [w] M = (derefR w M).map fun x => [x] := rfl
theorem db_abs : derefsB .abs ws M = derefs ws M := rfl
theorem db_int : derefsB .int ws M = derefs ws M := rfl
theorem db_all : derefsB .all ws M = derefs ws M := rfl
theorem db_any : derefsB .any ws M = derefs ws M := rfl
theorem db_sum : derefsB .sum ws M = derefs ws M := rfl
theorem db_tuple : derefsB .tuple ws M = derefs ws M := rfl
theorem db_list : derefsB .list ws M = derefs ws M := rfl
theorem db_max : derefsB .max ws M = derefs ws M := rfl
theorem db_min : derefsB .min ws M = derefs ws M := rfl
theorem db_gcd : derefsB .gcd ws M = derefs ws M := rfl
theorem db_isi {t : Ty} : derefsB (.isi t) ws M = derefs ws M := rfl
theorem derefs_nil : derefs [] M = some [] := rfl
theorem derefs_cons : derefs (w :: ws) M = match deref w M, derefs ws M with
    | some x, some xs => some (x :: xs)
    | _, _ => none := rfl
theorem plain_nil : plain [] = some [] := rfl
theorem plain_d : plain (.d x :: ws) = (plain ws).map (x :: ·) := rfl
theorem give_f : give false x M = some (.d x, M) := rfl
theorem give_t : give true (.list xs) M = some (.m M.length, M ++ [.lst xs]) := rfl
theorem p_add : prim2 .add (.int i) (.int j) = some (.int (i + j)) := rfl
theorem p_addT : prim2 .add (.tuple xs) (.tuple ys) = if (xs ++ ys).length ≤ sizeLine then some (.tuple (xs ++ ys)) else none := rfl
theorem p_addL : prim2 .add (.list xs) (.list ys) = if (xs ++ ys).length ≤ sizeLine then some (.list (xs ++ ys)) else none := rfl
theorem p_sub : prim2 .sub (.int i) (.int j) = some (.int (i - j)) := rfl
theorem p_mul : prim2 .mul (.int i) (.int j) = if mulOk i j = true then some (.int (i * j)) else none := rfl
theorem p_fdiv : prim2 .fdiv (.int i) (.int j) = if j ≠ 0 ∧ Builtin.divisionGoesByPylong i j = false then some (.int (i.fdiv j)) else none := rfl
theorem p_mod : prim2 .mod (.int i) (.int j) = if j ≠ 0 then some (.int (i.fmod j)) else none := rfl
theorem p_pow : prim2 .pow (.int i) (.int j) = if 0 ≤ j ∧ j ≤ 1000000 ∧ i.natAbs < 2 ^ 64 then some (.int (i ^ j.toNat)) else none := rfl
theorem p_lt : prim2 .lt (.int i) (.int j) = some (.bool (decide (i < j))) := rfl
theorem p_le : prim2 .le (.int i) (.int j) = some (.bool (decide (i ≤ j))) := rfl
theorem p_gt : prim2 .gt (.int i) (.int j) = some (.bool (decide (j < i))) := rfl
theorem p_ge : prim2 .ge (.int i) (.int j) = some (.bool (decide (j ≤ i))) := rfl
theorem p_ixL : prim2 .ix (.list xs) (.int i) = at_ xs i := rfl
theorem p_ixT : prim2 .ix (.tuple xs) (.int i) = at_ xs i := rfl
theorem at_0 : at_ (x :: xs) 0 = some x := rfl
theorem at_1 : at_ (x :: y :: xs) 1 = some y := rfl
theorem at_2 {z : PyData} : at_ (x :: y :: z :: xs) 2 = some z := rfl
theorem at_n {α : Type} {l : List α} {k : Nat} : at_ l (k : Int) = l[k]? := by
  unfold at_
  rw [if_pos (Int.natCast_nonneg k), Int.toNat_natCast]
theorem p_eqI : prim2 .eq (.int i) (.int j) = some (.bool (decide (i = j))) := by
  have h : shEq (.int i) (.int j) = true := by simp [shEq, PyData.canLay0, PyData.depth]
  show (peq (.int i) (.int j)).map PyData.bool = _
  unfold peq
  rw [if_pos h]
  simp [PyData.eqv]
  by_cases h : i = j <;> simp [h]
theorem p_neI : prim2 .ne (.int i) (.int j) = some (.bool (!decide (i = j))) := by
  have h : shEq (.int i) (.int j) = true := by simp [shEq, PyData.canLay0, PyData.depth]
  show (peq (.int i) (.int j)).map (fun b => PyData.bool !b) = _
  unfold peq
  rw [if_pos h]
  simp [PyData.eqv]
  by_cases h : i = j <;> simp [h]
theorem s_nn : isSame .none .none = some true := rfl
theorem s_bb : isSame (.bool b) (.bool c) = some (b == c) := rfl
theorem s_in : isSame (.int i) .none = some false := rfl
theorem s_bn : isSame (.bool b) .none = some false := rfl
theorem s_tn : isSame (.tuple xs) .none = some false := rfl
theorem s_ln : isSame (.list xs) .none = some false := rfl
theorem s_sn : isSame (.str a) .none = some false := rfl
theorem s_nb : isSame .none (.bool c) = some false := rfl
theorem s_ib : isSame (.int i) (.bool c) = some false := rfl
theorem s_tb : isSame (.tuple xs) (.bool c) = some false := rfl
theorem s_lb : isSame (.list xs) (.bool c) = some false := rfl
theorem s_sb : isSame (.str a) (.bool c) = some false := rfl
theorem p_is : prim2 .is x y = (isSame x y).map .bool := by cases x <;> cases y <;> rfl
theorem p_isn : prim2 .isn x y = (isSame x y).map fun b => .bool !b := by cases x <;> cases y <;> rfl
theorem q_lenL : primB .len [.list xs] = some (.int xs.length) := rfl
theorem q_lenT : primB .len [.tuple xs] = some (.int xs.length) := rfl
theorem q_abs : primB .abs [.int i] = some (.int (if i < 0 then -i else i)) := rfl
theorem q_int : primB .int [.int i] = some (.int i) := rfl
theorem q_intb : primB .int [.bool b] = some (.int (if b then 1 else 0)) := rfl
theorem q_all : primB .all [.list xs] = (allB xs).map fun bs => .bool (bs.all id) := rfl
theorem q_any : primB .any [.list xs] = (allB xs).map fun bs => .bool (bs.any id) := rfl
theorem q_sum : primB .sum [.list xs] = (allI xs).map fun ns => .int ns.sum := rfl
theorem q_tupL : primB .tuple [.list xs] = some (.tuple xs) := rfl
theorem q_tupT : primB .tuple [.tuple xs] = some (.tuple xs) := rfl
theorem q_lstL : primB .list [.list xs] = some (.list xs) := rfl
theorem q_lstT : primB .list [.tuple xs] = some (.list xs) := rfl
theorem q_max : primB .max [.int i, .int j] = some (.int (if j > i then j else i)) := rfl
theorem q_min : primB .min [.int i, .int j] = some (.int (if j < i then j else i)) := rfl
theorem q_gcd : primB .gcd [.int i, .int j] = some (.int (Nat.gcd i.natAbs j.natAbs : Nat)) := rfl
theorem q_isi {t : Ty} : primB (.isi t) [x] = (isTy t x).map .bool := rfl
theorem t_tt : isTy .tuple (.tuple xs) = some true := rfl
theorem t_tl : isTy .tuple (.list xs) = some false := rfl
theorem t_ti : isTy .tuple (.int i) = some false := rfl
theorem t_tb : isTy .tuple (.bool b) = some false := rfl
theorem t_tn : isTy .tuple .none = some false := rfl
theorem t_ts : isTy .tuple (.str a) = some false := rfl
theorem t_it : isTy .int (.tuple xs) = some false := rfl
theorem t_il : isTy .int (.list xs) = some false := rfl
theorem t_ii : isTy .int (.int i) = some true := rfl
theorem t_ib : isTy .int (.bool b) = some true := rfl
theorem t_in : isTy .int .none = some false := rfl
theorem t_is : isTy .int (.str a) = some false := rfl
theorem t_bt : isTy .bool (.tuple xs) = some false := rfl
theorem t_bl : isTy .bool (.list xs) = some false := rfl
theorem t_bi : isTy .bool (.int i) = some false := rfl
theorem t_bb : isTy .bool (.bool b) = some true := rfl
theorem t_bn : isTy .bool .none = some false := rfl
theorem t_bs : isTy .bool (.str a) = some false := rfl
theorem t_st : isTy .str (.tuple xs) = some false := rfl
theorem t_sl : isTy .str (.list xs) = some false := rfl
theorem t_si : isTy .str (.int i) = some false := rfl
theorem t_sb : isTy .str (.bool b) = some false := rfl
theorem t_sn : isTy .str .none = some false := rfl
theorem t_ss : isTy .str (.str a) = some true := rfl
theorem r_none : truth .none = some false := rfl
theorem r_bool : truth (.bool b) = some b := rfl
theorem r_int : truth (.int i) = some (i != 0) := rfl
theorem r_list : truth (.list xs) = some (!xs.isEmpty) := rfl
theorem r_tup : truth (.tuple xs) = some (!xs.isEmpty) := rfl
theorem f_d {m : Nat} : finish m (.d x) M = some (.d x, M.take m) := rfl
theorem st_m {k : Int} : store (.m n) (.int k) x M = match M[n]? with
    | some (.lst xs) => match place xs.length k with
      | some p => some (M.set n (.lst (xs.set p x)))
      | none => none
    | _ => none := rfl
theorem pl_n {m k : Nat} : place m (k : Int) = if k < m then some k else none := by
  unfold place
  rw [if_pos (Int.natCast_nonneg k), Int.toNat_natCast]
theorem pl_0 {m : Nat} : place m 0 = if 0 < m then some 0 else none := pl_n (k := 0)
theorem pl_1 {m : Nat} : place m 1 = if 1 < m then some 1 else none := pl_n (k := 1)
theorem m_app : evalM .append (.m n) [.d x] M = match M[n]? with
    | some (.lst xs) => if xs.length < sizeLine then some (.d .none, M.set n (.lst (xs ++ [x]))) else none
    | _ => none := rfl
theorem m_pop : evalM .pop (.m n) [] M = match M[n]? with
    | some (.lst xs) => match xs.getLast? with
      | some x => some (.d x, M.set n (.lst xs.dropLast))
      | none => none
    | _ => none := rfl
theorem tof {r : Option (W × Mem)} : testOf r = match r with
  | some (w, M) => match deref w M with
    | some x => match truth x with
      | some b => some (b, M)
      | none => none
    | none => none
  | none => none := rfl
theorem tof_s : testOf (some (w, M)) = match deref w M with
    | some x => match truth x with
      | some b => some (b, M)
      | none => none
    | none => none := rfl
theorem bt_v : bindT (.v n) x ρ = some (ρ.set n (some (.d x))) := rfl
theorem sw_c {ρ : Loc} {is : List Nat} : setW (n :: is) (w :: ws) ρ = setW is ws (ρ.set n (some w)) := rfl
theorem sw_n {ρ : Loc} : setW [] [] ρ = ρ := rfl
theorem ag_a : augOk .add (.int i) (.int j) = some (.int (i + j)) := rfl
end
end EV

/-! EvM: what the helpers that every law holds do. -/
namespace EV
open PySem
def lCell : Fn := ⟨2, 2,
  (.cons (.ife (.op2 false .lt (.var 1) (.blt false .len (.cons (.var 0) .nil)))
   (.cons (.ret (.op2 false .ix (.var 0) (.var 1)))
   .nil)
   .nil)
  (.cons (.ret (.lit (.int 0)))
  .nil))⟩
def lDraw : Fn := ⟨2, 3,
  (.cons (.asg 2 (.op2 false .ix (.var 0) (.lit (.int 1))))
  (.cons (.asgIx (.var 0) (.lit (.int 1)) (.op2 false .add (.var 2) (.lit (.int 1))))
  (.cons (.ife (.op2 false .lt (.var 2) (.blt false .len (.cons (.op2 false .ix (.var 0) (.lit (.int 0))) .nil)))
   (.cons (.ret (.op2 false .mod (.blt false .int (.cons (.op2 false .ix (.op2 false .ix (.var 0) (.lit (.int 0))) (.var 2)) .nil)) (.var 1)))
   .nil)
   .nil)
  (.cons (.ret (.op2 false .mod (.blt false .int (.cons (.op2 false .mul (.var 2) (.lit (.int 7))) .nil)) (.var 1)))
  .nil))))⟩
def lLike (i : Nat) : Fn := ⟨2, 3,
  (.cons (.ife (.blt false (.isi .tuple) (.cons (.var 1) .nil))
   (.cons (.ife (.or (.cons (.not (.blt false (.isi .tuple) (.cons (.var 0) .nil))) (.cons (.op2 false .ne (.blt false .len (.cons (.var 0) .nil)) (.blt false .len (.cons (.var 1) .nil))) .nil)))
    (.cons (.ret (.lit (.bool false)))
    .nil)
    .nil)
   (.cons (.ret (.op2 false .eq (.comp false [2] (.v 2) (.rng (.cons (.blt false .len (.cons (.var 1) .nil)) .nil)) (.not (.call i (.cons (.op2 false .ix (.var 0) (.var 2)) (.cons (.op2 false .ix (.var 1) (.var 2)) .nil)))) (.lit (.int 1))) (.lst false .nil)))
   .nil))
   .nil)
  (.cons (.ife (.op2 false .is (.var 1) (.lit .none))
   (.cons (.ret (.op2 false .is (.var 0) (.lit .none)))
   .nil)
   .nil)
  (.cons (.ife (.op2 false .is (.var 1) (.lit (.bool true)))
   (.cons (.ret (.op2 false .is (.var 0) (.lit (.bool true))))
   .nil)
   .nil)
  (.cons (.ife (.op2 false .is (.var 1) (.lit (.bool false)))
   (.cons (.ret (.op2 false .is (.var 0) (.lit (.bool false))))
   .nil)
   .nil)
  (.cons (.ife (.blt false (.isi .str) (.cons (.var 1) .nil))
   (.cons (.ret (.and (.cons (.blt false (.isi .str) (.cons (.var 0) .nil)) (.cons (.op2 false .eq .stuck (.var 1)) .nil))))
   .nil)
   .nil)
  (.cons (.ret (.and (.cons (.blt false (.isi .int) (.cons (.var 0) .nil)) (.cons (.not (.blt false (.isi .bool) (.cons (.var 0) .nil))) (.cons (.op2 false .eq (.var 0) (.var 1)) .nil)))))
  .nil))))))⟩
def lGcd : Fn := ⟨2, 2,
  (.cons (.whl (.op2 false .ne (.var 1) (.lit (.int 0)))
   (.cons (.par [0, 1] (.cons (.var 1) (.cons (.op2 false .mod (.blt false .int (.cons (.var 0) .nil)) (.var 1)) .nil)))
   .nil))
  (.cons (.ret (.var 0))
  .nil))⟩
def lRatio (g : Nat) : Fn := ⟨2, 3,
  (.cons (.asg 2 (.call g (.cons (.blt false .abs (.cons (.var 0) .nil)) (.cons (.var 1) .nil))))
  (.cons (.ret (.tup (.cons (.op2 false .fdiv (.var 0) (.var 2)) (.cons (.op2 false .fdiv (.var 1) (.var 2)) .nil))))
  .nil))⟩
section
variable {fs : List Fn} {G : List PyData} {wf : Nat}
theorem cell_eq {i k : Nat} (h : fs[i]? = some lCell) (ns : List Int) (j : Nat) (M : Mem) : callF fs G wf (k + 1) i [.r ns, .d (.int (j : Nat))] M = some (.d (.int (ns.getD j 0)), M) := by
  by_cases hj : j < ns.length
  · simp [evalE, evalEs, evalB, evalIt, evalS, evalSs, evalTg, allB, allI, deref_d, deref_m, derefR_d, derefR_m, derefR_r, db_len, db_abs, db_int, db_all, db_any, db_sum, db_tuple, db_list, db_max, db_min, db_gcd, db_isi, derefs_nil, derefs_cons, plain_nil, plain_d, give_f, give_t, p_add, p_addT, p_addL, p_sub, p_mul, p_fdiv, p_mod, p_pow, p_lt, p_le, p_gt, p_ge, p_ixL, p_ixT, at_0, at_1, at_2, at_n, p_eqI, p_neI, s_nn, s_bb, s_in, s_bn, s_tn, s_ln, s_sn, s_nb, s_ib, s_tb, s_lb, s_sb, p_is, p_isn, q_lenL, q_lenT, q_abs, q_int, q_intb, q_all, q_any, q_sum, q_tupL, q_tupT, q_lstL, q_lstT, q_max, q_min, q_gcd, q_isi, t_tt, t_tl, t_ti, t_tb, t_tn, t_ts, t_it, t_il, t_ii, t_ib, t_in, t_is, t_bt, t_bl, t_bi, t_bb, t_bn, t_bs, t_st, t_sl, t_si, t_sb, t_sn, t_ss, r_none, r_bool, r_int, r_list, r_tup, f_d, st_m, pl_n, pl_0, pl_1, m_app, m_pop, tof_s, bt_v, sw_c, sw_n, ag_a, callF, h, lCell, hj]
  · simp [evalE, evalEs, evalB, evalIt, evalS, evalSs, evalTg, allB, allI, deref_d, deref_m, derefR_d, derefR_m, derefR_r, db_len, db_abs, db_int, db_all, db_any, db_sum, db_tuple, db_list, db_max, db_min, db_gcd, db_isi, derefs_nil, derefs_cons, plain_nil, plain_d, give_f, give_t, p_add, p_addT, p_addL, p_sub, p_mul, p_fdiv, p_mod, p_pow, p_lt, p_le, p_gt, p_ge, p_ixL, p_ixT, at_0, at_1, at_2, at_n, p_eqI, p_neI, s_nn, s_bb, s_in, s_bn, s_tn, s_ln, s_sn, s_nb, s_ib, s_tb, s_lb, s_sb, p_is, p_isn, q_lenL, q_lenT, q_abs, q_int, q_intb, q_all, q_any, q_sum, q_tupL, q_tupT, q_lstL, q_lstT, q_max, q_min, q_gcd, q_isi, t_tt, t_tl, t_ti, t_tb, t_tn, t_ts, t_it, t_il, t_ii, t_ib, t_in, t_is, t_bt, t_bl, t_bi, t_bb, t_bn, t_bs, t_st, t_sl, t_si, t_sb, t_sn, t_ss, r_none, r_bool, r_int, r_list, r_tup, f_d, st_m, pl_n, pl_0, pl_1, m_app, m_pop, tof_s, bt_v, sw_c, sw_n, ag_a, callF, h, lCell, hj]
/-- the box at its place -/
def BoxAt (M : Mem) (b : Nat) (ds : List Int) (at' : Nat) : Prop := M[b]? = some (.lst [.list (ds.map .int), .int (at' : Nat)])
theorem draw_eq {i k b at' : Nat} {M : Mem} {ds : List Int} (h : fs[i]? = some lDraw) (hb : BoxAt M b ds at') {m : Int} (hm : 0 < m) : ∃ r : Int, 0 ≤ r ∧ r < m ∧ callF fs G wf (k + 1) i [.m b, .d (.int m)] M = some (.d (.int r), M.set b (.lst [.list (ds.map .int), .int ((at' + 1 : Nat) : Int)])) := by
  have hlt : b < M.length := (List.getElem?_eq_some_iff.mp hb).1
  have e1 : ∀ x : MO, (M.set b x)[b]? = some x := fun x => List.getElem?_set_self hlt
  have e2 : ∀ x : MO, (M.set b x).take M.length = M.set b x := fun x => List.take_of_length_le (by simp)
  have e3 : m ≠ 0 := by omega
  have e4 : mulOk (at' : Int) 7 = true := by simp [mulOk]
  unfold BoxAt at hb
  clear hlt
  by_cases hj : at' < ds.length
  · refine ⟨(ds.getD at' 0).fmod m, Int.fmod_nonneg_of_pos _ hm, Int.fmod_lt_of_pos _ hm, ?_⟩
    have e5 : (ds.map PyData.int)[at']? = some (.int (ds.getD at' 0)) := by simp [List.getElem?_map, hj]
    simp [evalE, evalEs, evalB, evalIt, evalS, evalSs, evalTg, allB, allI, deref_d, deref_m, derefR_d, derefR_m, derefR_r, db_len, db_abs, db_int, db_all, db_any, db_sum, db_tuple, db_list, db_max, db_min, db_gcd, db_isi, derefs_nil, derefs_cons, plain_nil, plain_d, give_f, give_t, p_add, p_addT, p_addL, p_sub, p_mul, p_fdiv, p_mod, p_pow, p_lt, p_le, p_gt, p_ge, p_ixL, p_ixT, at_0, at_1, at_2, at_n, p_eqI, p_neI, s_nn, s_bb, s_in, s_bn, s_tn, s_ln, s_sn, s_nb, s_ib, s_tb, s_lb, s_sb, p_is, p_isn, q_lenL, q_lenT, q_abs, q_int, q_intb, q_all, q_any, q_sum, q_tupL, q_tupT, q_lstL, q_lstT, q_max, q_min, q_gcd, q_isi, t_tt, t_tl, t_ti, t_tb, t_tn, t_ts, t_it, t_il, t_ii, t_ib, t_in, t_is, t_bt, t_bl, t_bi, t_bb, t_bn, t_bs, t_st, t_sl, t_si, t_sb, t_sn, t_ss, r_none, r_bool, r_int, r_list, r_tup, f_d, st_m, pl_n, pl_0, pl_1, m_app, m_pop, tof_s, bt_v, sw_c, sw_n, ag_a, callF, h, lDraw, hb, hj, e1, e2, e3, e5]
  · refine ⟨((at' : Int) * 7).fmod m, Int.fmod_nonneg_of_pos _ hm, Int.fmod_lt_of_pos _ hm, ?_⟩
    simp [evalE, evalEs, evalB, evalIt, evalS, evalSs, evalTg, allB, allI, deref_d, deref_m, derefR_d, derefR_m, derefR_r, db_len, db_abs, db_int, db_all, db_any, db_sum, db_tuple, db_list, db_max, db_min, db_gcd, db_isi, derefs_nil, derefs_cons, plain_nil, plain_d, give_f, give_t, p_add, p_addT, p_addL, p_sub, p_mul, p_fdiv, p_mod, p_pow, p_lt, p_le, p_gt, p_ge, p_ixL, p_ixT, at_0, at_1, at_2, at_n, p_eqI, p_neI, s_nn, s_bb, s_in, s_bn, s_tn, s_ln, s_sn, s_nb, s_ib, s_tb, s_lb, s_sb, p_is, p_isn, q_lenL, q_lenT, q_abs, q_int, q_intb, q_all, q_any, q_sum, q_tupL, q_tupT, q_lstL, q_lstT, q_max, q_min, q_gcd, q_isi, t_tt, t_tl, t_ti, t_tb, t_tn, t_ts, t_it, t_il, t_ii, t_ib, t_in, t_is, t_bt, t_bl, t_bi, t_bb, t_bn, t_bs, t_st, t_sl, t_si, t_sb, t_sn, t_ss, r_none, r_bool, r_int, r_list, r_tup, f_d, st_m, pl_n, pl_0, pl_1, m_app, m_pop, tof_s, bt_v, sw_c, sw_n, ag_a, callF, h, lDraw, hb, hj, e1, e2, e3, e4]
/-! ### stepping -/
theorem x_cons {s : S} {r : Ss} {ρ ρ' : Loc} {M M' : Mem} {o : Option Out} {cf : Nat → List W → Mem → Option (W × Mem)} (h1 : evalS cf G wf s ρ M = some (.nx ρ' M')) (h2 : evalSs cf G wf r ρ' M' = o) : evalSs cf G wf (.cons s r) ρ M = o := by
  rw [evalSs, h1]; exact h2
theorem x_call {fn : Fn} {i k : Nat} {ws : List W} {w : W} {M M' : Mem} (hf : fs[i]? = some fn) (hl : ws.length = fn.ar) (hb : evalSs (callF fs G wf k) G wf fn.body (ws.map some ++ List.replicate (fn.sl - fn.ar) none) M = some (.ret w M')) : callF fs G wf (k + 1) i ws M = finish M.length w M' := by
  simp only [callF, hf, hl, hb, if_true]
/-- one turn of a for -/
def turnG (cf : Nat → List W → Mem → Option (W × Mem)) (G : List PyData) (wf : Nat) (tg : T) (b : Ss) : PyData → Loc → Mem → Option Out := fun x ρ M => match bindT tg x ρ with
  | some ρ2 => evalSs cf G wf b ρ2 M
  | none => none
theorem x_for {cf : Nat → List W → Mem → Option (W × Mem)} {tg : T} {it : It} {b : Ss} {ρ : Loc} {M M1 : Mem} {xs : List PyData} {o : Option Out} (hi : evalIt cf G wf it ρ M = some (.its xs, M1)) (h : forL (turnG cf G wf tg b) xs ρ M1 = o) : evalS cf G wf (.fr tg it b) ρ M = o := by
  rw [evalS, hi]; exact h
theorem x_forC {cf : Nat → List W → Mem → Option (W × Mem)} {tg : T} {it : It} {b : Ss} {ρ : Loc} {M M1 : Mem} {i : Nat} {o : Option Out} (hi : evalIt cf G wf it ρ M = some (.cur i, M1)) (h : forC (turnG cf G wf tg b) i wf 0 ρ M1 = o) : evalS cf G wf (.fr tg it b) ρ M = o := by
  rw [evalS, hi]; exact h
theorem x_turn {cf : Nat → List W → Mem → Option (W × Mem)} {i : Nat} {b : Ss} {x : PyData} {ρ : Loc} {M : Mem} : turnG cf G wf (.v i) b x ρ M = evalSs cf G wf b (ρ.set i (some (.d x))) M := rfl
theorem forL_ix {f : PyData → Loc → Mem → Option Out} (I : Nat → Loc → Mem → Prop) (Q : Loc → Mem → Prop) : ∀ (xs : List PyData) (n : Nat) (_ : ∀ j x ρ M, xs[j]? = some x → I (n + j) ρ M → ∃ ρ' M', (f x ρ M = some (.nx ρ' M') ∧ I (n + j + 1) ρ' M') ∨ (f x ρ M = some (.bk ρ' M') ∧ Q ρ' M'))
    (_ : ∀ ρ M, I (n + xs.length) ρ M → Q ρ M) (ρ : Loc) (M : Mem), I n ρ M → ∃ ρ' M', forL f xs ρ M = some (.nx ρ' M') ∧ Q ρ' M'
  | [], n, h, hq, ρ, M, hI => ⟨ρ, M, rfl, hq ρ M hI⟩
  | x :: xs, n, h, hq, ρ, M, hI => by
    obtain ⟨ρ', M', ⟨e, h1⟩ | ⟨e, h1⟩⟩ := h 0 x ρ M rfl hI
    · have := forL_ix I Q xs (n + 1) (fun j y ρ M hy hj => by
        have := h (j + 1) y ρ M (by simpa using hy) (by rw [show n + (j + 1) = n + 1 + j by omega]; exact hj)
        rw [show n + (j + 1) + 1 = n + 1 + j + 1 by omega] at this
        exact this) (fun ρ M hM => hq ρ M (by rw [List.length_cons, show n + (xs.length + 1) = n + 1 + xs.length by omega]; exact hM)) ρ' M' h1
      obtain ⟨ρ2, M2, e2, q2⟩ := this
      exact ⟨ρ2, M2, by rw [forL, e]; exact e2, q2⟩
    · exact ⟨ρ', M', by rw [forL, e], h1⟩
theorem forL_for {f : PyData → Loc → Mem → Option Out} (I : Nat → Loc → Mem → Prop) (Q : Loc → Mem → Prop) {xs : List PyData} (h : ∀ j x ρ M, xs[j]? = some x → I j ρ M → ∃ ρ' M', (f x ρ M = some (.nx ρ' M') ∧ I (j + 1) ρ' M') ∨ (f x ρ M = some (.bk ρ' M') ∧ Q ρ' M'))
    (hq : ∀ ρ M, I xs.length ρ M → Q ρ M) {ρ : Loc} {M : Mem} (h0 : I 0 ρ M) : ∃ ρ' M', forL f xs ρ M = some (.nx ρ' M') ∧ Q ρ' M' :=
  forL_ix I Q xs 0 (fun j x ρ M hx hi => by
    have := h j x ρ M hx (by simpa using hi)
    simpa using this) (by simpa using hq) ρ M h0
theorem irng_at {n j : Nat} {x : PyData} (h : (irng 0 1 n)[j]? = some x) : x = .int (j : Int) ∧ j < n := by
  have hj : j < n := by
    have := (List.getElem?_eq_some_iff.mp h).1
    rwa [irng_length] at this
  rw [irng_get hj] at h
  cases h
  exact ⟨by simp, hj⟩
section
variable {M0 : Mem} {x y : MO}
theorem top_get : (M0 ++ [x])[M0.length]? = some x := by simp
theorem top_set : (M0 ++ [x]).set M0.length y = M0 ++ [y] := by simp
theorem top_take : (M0 ++ [x]).take M0.length = M0 := by simp
end
def dg1 (c : Nat) : S := .asg 5 (.call c (.cons (.var 0) (.cons (.var 4) .nil)))
def dg2 : S := .ife (.op2 false .lt (.var 5) (.lit (.int 0))) (.cons (.asg 5 (.op2 false .sub (.lit (.int 1)) (.op2 false .mul (.lit (.int 2)) (.var 5)))) .nil) .nil
def dg3 : S := .ife (.op2 false .gt (.blt false .len (.cons (.var 3) .nil)) (.lit (.int 1500))) (.cons .brk .nil) .nil
def dgB1 : Ss := .cons (.ife (.op2 false .gt (.var 5) (.lit (.int 0)))
      (.cons (.expr (.meth .append (.var 3) (.cons (.op2 false .mod (.blt false .int (.cons (.var 5) .nil)) (.lit (.int 1000))) .nil)))
      (.cons (.asg 5 (.op2 false .fdiv (.var 5) (.lit (.int 1000))))
      .nil))
      .nil)
     .nil
def dgL1 : S := .fr (.v 6) (.rng (.cons (.lit (.int 60)) .nil)) dgB1
def dg5 : S := .asg 7 (.op2 false .mod (.blt false .int (.cons (.op2 false .add (.op2 false .add (.op2 false .mul (.var 5) (.lit (.int 48271))) (.op2 false .mul (.var 4) (.lit (.int 69621)))) (.lit (.int 11))) .nil)) (.lit (.int 2147483647)))
def dgB2 : Ss := .cons (.asg 7 (.op2 false .mod (.blt false .int (.cons (.op2 false .add (.op2 false .add (.op2 false .mul (.var 7) (.lit (.int 16807))) (.op2 false .mul (.lit (.int 7)) (.var 6))) (.lit (.int 1))) .nil)) (.lit (.int 2147483647))))
     (.cons (.expr (.meth .append (.var 3) (.cons (.op2 false .mod (.blt false .int (.cons (.op2 false .fdiv (.var 7) (.lit (.int 997))) .nil)) (.lit (.int 1000))) .nil)))
     .nil)
def dgL2 : S := .fr (.v 6) (.rng (.cons (.lit (.int 12)) .nil)) dgB2
def dg4 : S := .ife (.op2 false .ge (.var 5) (.op2 false .pow (.lit (.int 10)) (.lit (.int 18)))) (.cons dgL1 .nil) (.cons dg5 (.cons dgL2 .nil))
def dgB (c : Nat) : Ss := .cons (dg1 c) (.cons dg2 (.cons dg3 (.cons dg4 .nil)))
def lDigits (c : Nat) : Fn := ⟨3, 8,
  (.cons (.asg 3 (.lst true .nil))
  (.cons (.fr (.v 4) (.rng (.cons (.var 1) (.cons (.var 2) .nil))) (dgB c))
  (.cons (.ret (.var 3))
  .nil)))⟩
/-- the state of _law_digits -/
def DgI (ns : List Int) (M0 : Mem) (n : Nat) (ρ : Loc) (M : Mem) : Prop := ∃ (a b c d : Option W) (ds : List Int), ρ = [some (.r ns), some (.d (.int 0)), some (.d (.int 63)), some (.m M0.length), a, b, c, d] ∧ M = M0 ++ [.lst (ds.map .int)] ∧ ds.length ≤ n
theorem ok2 {x : Int} : mulOk 2 x = true := by simp [mulOk]
theorem okR {x y : Int} (h : y.natAbs < 18446744073709551616) : mulOk x y = true := by simp [mulOk, h]
theorem okP {x y : Int} (h : y.natAbs < 1073741824) : Builtin.divisionGoesByPylong x y = false := PyProof.noPylong_small h
abbrev dgR (ns : List Int) (m : Nat) (j : Nat) (a b c : Option W) : Loc := [some (.r ns), some (.d (.int 0)), some (.d (.int 63)), some (.m m), some (.d (.int (j : Nat))), a, b, c]
abbrev dgM (M0 : Mem) (ds : List Int) : Mem := M0 ++ [.lst (ds.map .int)]
section
variable {cf : Nat → List W → Mem → Option (W × Mem)} {ns : List Int} {M0 : Mem} {j : Nat} {a b c : Option W} {ds : List Int} {v w : Int}
theorem dg2_eq : ∃ u : Int, 0 ≤ u ∧ evalS cf G wf dg2 (dgR ns M0.length j (some (.d (.int v))) b c) (dgM M0 ds) = some (.nx (dgR ns M0.length j (some (.d (.int u))) b c) (dgM M0 ds)) := by
  by_cases hn : v < 0
  · exact ⟨1 - 2 * v, by omega, by simp [evalE, evalEs, evalB, evalIt, evalS, evalSs, evalTg, allB, allI, deref_d, deref_m, derefR_d, derefR_m, derefR_r, db_len, db_abs, db_int, db_all, db_any, db_sum, db_tuple, db_list, db_max, db_min, db_gcd, db_isi, derefs_nil, derefs_cons, plain_nil, plain_d, give_f, give_t, p_add, p_addT, p_addL, p_sub, p_mul, p_fdiv, p_mod, p_pow, p_lt, p_le, p_gt, p_ge, p_ixL, p_ixT, at_0, at_1, at_2, at_n, p_eqI, p_neI, s_nn, s_bb, s_in, s_bn, s_tn, s_ln, s_sn, s_nb, s_ib, s_tb, s_lb, s_sb, p_is, p_isn, q_lenL, q_lenT, q_abs, q_int, q_intb, q_all, q_any, q_sum, q_tupL, q_tupT, q_lstL, q_lstT, q_max, q_min, q_gcd, q_isi, t_tt, t_tl, t_ti, t_tb, t_tn, t_ts, t_it, t_il, t_ii, t_ib, t_in, t_is, t_bt, t_bl, t_bi, t_bb, t_bn, t_bs, t_st, t_sl, t_si, t_sb, t_sn, t_ss, r_none, r_bool, r_int, r_list, r_tup, f_d, st_m, pl_n, pl_0, pl_1, m_app, m_pop, tof_s, bt_v, sw_c, sw_n, ag_a, dg2, hn, ok2]⟩
  · exact ⟨v, by omega, by simp [evalE, evalEs, evalB, evalIt, evalS, evalSs, evalTg, allB, allI, deref_d, deref_m, derefR_d, derefR_m, derefR_r, db_len, db_abs, db_int, db_all, db_any, db_sum, db_tuple, db_list, db_max, db_min, db_gcd, db_isi, derefs_nil, derefs_cons, plain_nil, plain_d, give_f, give_t, p_add, p_addT, p_addL, p_sub, p_mul, p_fdiv, p_mod, p_pow, p_lt, p_le, p_gt, p_ge, p_ixL, p_ixT, at_0, at_1, at_2, at_n, p_eqI, p_neI, s_nn, s_bb, s_in, s_bn, s_tn, s_ln, s_sn, s_nb, s_ib, s_tb, s_lb, s_sb, p_is, p_isn, q_lenL, q_lenT, q_abs, q_int, q_intb, q_all, q_any, q_sum, q_tupL, q_tupT, q_lstL, q_lstT, q_max, q_min, q_gcd, q_isi, t_tt, t_tl, t_ti, t_tb, t_tn, t_ts, t_it, t_il, t_ii, t_ib, t_in, t_is, t_bt, t_bl, t_bi, t_bb, t_bn, t_bs, t_st, t_sl, t_si, t_sb, t_sn, t_ss, r_none, r_bool, r_int, r_list, r_tup, f_d, st_m, pl_n, pl_0, pl_1, m_app, m_pop, tof_s, bt_v, sw_c, sw_n, ag_a, dg2, hn]⟩
theorem dg3_eq : evalS cf G wf dg3 (dgR ns M0.length j a b c) (dgM M0 ds) = some (.bk (dgR ns M0.length j a b c) (dgM M0 ds)) ∨ evalS cf G wf dg3 (dgR ns M0.length j a b c) (dgM M0 ds) = some (.nx (dgR ns M0.length j a b c) (dgM M0 ds)) := by
  by_cases hb : 1500 < (ds.length : Int)
  · exact .inl (by simp [evalE, evalEs, evalB, evalIt, evalS, evalSs, evalTg, allB, allI, deref_d, deref_m, derefR_d, derefR_m, derefR_r, db_len, db_abs, db_int, db_all, db_any, db_sum, db_tuple, db_list, db_max, db_min, db_gcd, db_isi, derefs_nil, derefs_cons, plain_nil, plain_d, give_f, give_t, p_add, p_addT, p_addL, p_sub, p_mul, p_fdiv, p_mod, p_pow, p_lt, p_le, p_gt, p_ge, p_ixL, p_ixT, at_0, at_1, at_2, at_n, p_eqI, p_neI, s_nn, s_bb, s_in, s_bn, s_tn, s_ln, s_sn, s_nb, s_ib, s_tb, s_lb, s_sb, p_is, p_isn, q_lenL, q_lenT, q_abs, q_int, q_intb, q_all, q_any, q_sum, q_tupL, q_tupT, q_lstL, q_lstT, q_max, q_min, q_gcd, q_isi, t_tt, t_tl, t_ti, t_tb, t_tn, t_ts, t_it, t_il, t_ii, t_ib, t_in, t_is, t_bt, t_bl, t_bi, t_bb, t_bn, t_bs, t_st, t_sl, t_si, t_sb, t_sn, t_ss, r_none, r_bool, r_int, r_list, r_tup, f_d, st_m, pl_n, pl_0, pl_1, m_app, m_pop, tof_s, bt_v, sw_c, sw_n, ag_a, dg3, hb])
  · exact .inr (by simp [evalE, evalEs, evalB, evalIt, evalS, evalSs, evalTg, allB, allI, deref_d, deref_m, derefR_d, derefR_m, derefR_r, db_len, db_abs, db_int, db_all, db_any, db_sum, db_tuple, db_list, db_max, db_min, db_gcd, db_isi, derefs_nil, derefs_cons, plain_nil, plain_d, give_f, give_t, p_add, p_addT, p_addL, p_sub, p_mul, p_fdiv, p_mod, p_pow, p_lt, p_le, p_gt, p_ge, p_ixL, p_ixT, at_0, at_1, at_2, at_n, p_eqI, p_neI, s_nn, s_bb, s_in, s_bn, s_tn, s_ln, s_sn, s_nb, s_ib, s_tb, s_lb, s_sb, p_is, p_isn, q_lenL, q_lenT, q_abs, q_int, q_intb, q_all, q_any, q_sum, q_tupL, q_tupT, q_lstL, q_lstT, q_max, q_min, q_gcd, q_isi, t_tt, t_tl, t_ti, t_tb, t_tn, t_ts, t_it, t_il, t_ii, t_ib, t_in, t_is, t_bt, t_bl, t_bi, t_bb, t_bn, t_bs, t_st, t_sl, t_si, t_sb, t_sn, t_ss, r_none, r_bool, r_int, r_list, r_tup, f_d, st_m, pl_n, pl_0, pl_1, m_app, m_pop, tof_s, bt_v, sw_c, sw_n, ag_a, dg3, hb])
theorem dgB1_eq {t : Nat} (hv : 0 ≤ v) (hl : ds.length < 16777216) : ∃ (u : Int) (es : List Int), 0 ≤ u ∧ es.length ≤ ds.length + 1 ∧ evalSs cf G wf dgB1 (dgR ns M0.length j (some (.d (.int v))) (some (.d (.int (t : Nat)))) c) (dgM M0 ds) = some (.nx (dgR ns M0.length j (some (.d (.int u))) (some (.d (.int (t : Nat)))) c) (dgM M0 es)) := by
  have hz : sizeLine = 16777216 := by decide
  by_cases hb : 0 < v
  · refine ⟨v.fdiv 1000, ds ++ [v.fmod 1000], Int.fdiv_nonneg (by omega) (by omega), by simp, ?_⟩
    have e : Builtin.divisionGoesByPylong v 1000 = false := okP (by decide)
    simp [evalE, evalEs, evalB, evalIt, evalS, evalSs, evalTg, allB, allI, deref_d, deref_m, derefR_d, derefR_m, derefR_r, db_len, db_abs, db_int, db_all, db_any, db_sum, db_tuple, db_list, db_max, db_min, db_gcd, db_isi, derefs_nil, derefs_cons, plain_nil, plain_d, give_f, give_t, p_add, p_addT, p_addL, p_sub, p_mul, p_fdiv, p_mod, p_pow, p_lt, p_le, p_gt, p_ge, p_ixL, p_ixT, at_0, at_1, at_2, at_n, p_eqI, p_neI, s_nn, s_bb, s_in, s_bn, s_tn, s_ln, s_sn, s_nb, s_ib, s_tb, s_lb, s_sb, p_is, p_isn, q_lenL, q_lenT, q_abs, q_int, q_intb, q_all, q_any, q_sum, q_tupL, q_tupT, q_lstL, q_lstT, q_max, q_min, q_gcd, q_isi, t_tt, t_tl, t_ti, t_tb, t_tn, t_ts, t_it, t_il, t_ii, t_ib, t_in, t_is, t_bt, t_bl, t_bi, t_bb, t_bn, t_bs, t_st, t_sl, t_si, t_sb, t_sn, t_ss, r_none, r_bool, r_int, r_list, r_tup, f_d, st_m, pl_n, pl_0, pl_1, m_app, m_pop, tof_s, bt_v, sw_c, sw_n, ag_a, dgB1, hb, hz, hl, e]
  · refine ⟨v, ds, hv, by simp, ?_⟩
    simp [evalE, evalEs, evalB, evalIt, evalS, evalSs, evalTg, allB, allI, deref_d, deref_m, derefR_d, derefR_m, derefR_r, db_len, db_abs, db_int, db_all, db_any, db_sum, db_tuple, db_list, db_max, db_min, db_gcd, db_isi, derefs_nil, derefs_cons, plain_nil, plain_d, give_f, give_t, p_add, p_addT, p_addL, p_sub, p_mul, p_fdiv, p_mod, p_pow, p_lt, p_le, p_gt, p_ge, p_ixL, p_ixT, at_0, at_1, at_2, at_n, p_eqI, p_neI, s_nn, s_bb, s_in, s_bn, s_tn, s_ln, s_sn, s_nb, s_ib, s_tb, s_lb, s_sb, p_is, p_isn, q_lenL, q_lenT, q_abs, q_int, q_intb, q_all, q_any, q_sum, q_tupL, q_tupT, q_lstL, q_lstT, q_max, q_min, q_gcd, q_isi, t_tt, t_tl, t_ti, t_tb, t_tn, t_ts, t_it, t_il, t_ii, t_ib, t_in, t_is, t_bt, t_bl, t_bi, t_bb, t_bn, t_bs, t_st, t_sl, t_si, t_sb, t_sn, t_ss, r_none, r_bool, r_int, r_list, r_tup, f_d, st_m, pl_n, pl_0, pl_1, m_app, m_pop, tof_s, bt_v, sw_c, sw_n, ag_a, dgB1, hb]
theorem dgB2_eq {t : Nat} (hl : ds.length < 16777216) : ∃ (u : Int) (es : List Int), es.length ≤ ds.length + 1 ∧ evalSs cf G wf dgB2 (dgR ns M0.length j a (some (.d (.int (t : Nat)))) (some (.d (.int w)))) (dgM M0 ds) = some (.nx (dgR ns M0.length j a (some (.d (.int (t : Nat)))) (some (.d (.int u)))) (dgM M0 es)) := by
  have hz : sizeLine = 16777216 := by decide
  have e : ∀ v, Builtin.divisionGoesByPylong v 997 = false := fun v => okP (by decide)
  have e1 : ∀ x : Int, mulOk x 16807 = true := fun x => okR (by decide)
  have e2 : ∀ x : Int, mulOk 7 x = true := fun x => by simp [mulOk]
  refine ⟨(w * 16807 + 7 * (t : Int) + 1).fmod 2147483647, ds ++ [(((w * 16807 + 7 * (t : Int) + 1).fmod 2147483647).fdiv 997).fmod 1000], by simp, ?_⟩
  simp [evalE, evalEs, evalB, evalIt, evalS, evalSs, evalTg, allB, allI, deref_d, deref_m, derefR_d, derefR_m, derefR_r, db_len, db_abs, db_int, db_all, db_any, db_sum, db_tuple, db_list, db_max, db_min, db_gcd, db_isi, derefs_nil, derefs_cons, plain_nil, plain_d, give_f, give_t, p_add, p_addT, p_addL, p_sub, p_mul, p_fdiv, p_mod, p_pow, p_lt, p_le, p_gt, p_ge, p_ixL, p_ixT, at_0, at_1, at_2, at_n, p_eqI, p_neI, s_nn, s_bb, s_in, s_bn, s_tn, s_ln, s_sn, s_nb, s_ib, s_tb, s_lb, s_sb, p_is, p_isn, q_lenL, q_lenT, q_abs, q_int, q_intb, q_all, q_any, q_sum, q_tupL, q_tupT, q_lstL, q_lstT, q_max, q_min, q_gcd, q_isi, t_tt, t_tl, t_ti, t_tb, t_tn, t_ts, t_it, t_il, t_ii, t_ib, t_in, t_is, t_bt, t_bl, t_bi, t_bb, t_bn, t_bs, t_st, t_sl, t_si, t_sb, t_sn, t_ss, r_none, r_bool, r_int, r_list, r_tup, f_d, st_m, pl_n, pl_0, pl_1, m_app, m_pop, tof_s, bt_v, sw_c, sw_n, ag_a, dgB2, hz, hl, e, e1, e2]
theorem dg5_eq : ∃ u : Int, evalS cf G wf dg5 (dgR ns M0.length j (some (.d (.int v))) b c) (dgM M0 ds) = some (.nx (dgR ns M0.length j (some (.d (.int v))) b (some (.d (.int u)))) (dgM M0 ds)) := by
  have e1 : ∀ x : Int, mulOk x 48271 = true := fun x => okR (by decide)
  have e2 : ∀ x : Int, mulOk x 69621 = true := fun x => okR (by decide)
  exact ⟨(v * 48271 + (j : Int) * 69621 + 11).fmod 2147483647, by simp [evalE, evalEs, evalB, evalIt, evalS, evalSs, evalTg, allB, allI, deref_d, deref_m, derefR_d, derefR_m, derefR_r, db_len, db_abs, db_int, db_all, db_any, db_sum, db_tuple, db_list, db_max, db_min, db_gcd, db_isi, derefs_nil, derefs_cons, plain_nil, plain_d, give_f, give_t, p_add, p_addT, p_addL, p_sub, p_mul, p_fdiv, p_mod, p_pow, p_lt, p_le, p_gt, p_ge, p_ixL, p_ixT, at_0, at_1, at_2, at_n, p_eqI, p_neI, s_nn, s_bb, s_in, s_bn, s_tn, s_ln, s_sn, s_nb, s_ib, s_tb, s_lb, s_sb, p_is, p_isn, q_lenL, q_lenT, q_abs, q_int, q_intb, q_all, q_any, q_sum, q_tupL, q_tupT, q_lstL, q_lstT, q_max, q_min, q_gcd, q_isi, t_tt, t_tl, t_ti, t_tb, t_tn, t_ts, t_it, t_il, t_ii, t_ib, t_in, t_is, t_bt, t_bl, t_bi, t_bb, t_bn, t_bs, t_st, t_sl, t_si, t_sb, t_sn, t_ss, r_none, r_bool, r_int, r_list, r_tup, f_d, st_m, pl_n, pl_0, pl_1, m_app, m_pop, tof_s, bt_v, sw_c, sw_n, ag_a, dg5, e1, e2]⟩
theorem dgL1_eq (hv : 0 ≤ v) (hl : ds.length ≤ 3780) : ∃ (u : Int) (x : Option W) (es : List Int), es.length ≤ ds.length + 60 ∧ evalS cf G wf dgL1 (dgR ns M0.length j (some (.d (.int v))) b c) (dgM M0 ds) = some (.nx (dgR ns M0.length j (some (.d (.int u))) x c) (dgM M0 es)) := by
  obtain ⟨ρ', M', e, u, x, es, rfl, rfl, h1, h2⟩ := forL_for (f := turnG cf G wf (.v 6) dgB1) (xs := irng 0 1 60) (fun t ρ M => ∃ (u : Int) (x : Option W) (es : List Int), ρ = dgR ns M0.length j (some (.d (.int u))) x c ∧ M = dgM M0 es ∧ 0 ≤ u ∧ es.length ≤ ds.length + t)
    (fun ρ M => ∃ (u : Int) (x : Option W) (es : List Int), ρ = dgR ns M0.length j (some (.d (.int u))) x c ∧ M = dgM M0 es ∧ 0 ≤ u ∧ es.length ≤ ds.length + 60) (fun t x ρ M hx hI => by
      obtain ⟨rfl, ht⟩ := irng_at hx
      obtain ⟨u, x, es, rfl, rfl, h1, h2⟩ := hI
      obtain ⟨u', es', g1, g2, g3⟩ := dgB1_eq (cf := cf) (G := G) (wf := wf) (ns := ns) (M0 := M0) (j := j) (c := c) (ds := es) (t := t) h1 (by omega)
      exact ⟨_, _, .inl ⟨g3, u', _, es', rfl, rfl, g1, by omega⟩⟩) (fun ρ M hI => by simpa [irng_length] using hI) ⟨v, b, ds, rfl, rfl, hv, by omega⟩
  exact ⟨u, x, es, h2, x_for (by simp [evalE, evalEs, evalB, evalIt, evalS, evalSs, evalTg, allB, allI, deref_d, deref_m, derefR_d, derefR_m, derefR_r, db_len, db_abs, db_int, db_all, db_any, db_sum, db_tuple, db_list, db_max, db_min, db_gcd, db_isi, derefs_nil, derefs_cons, plain_nil, plain_d, give_f, give_t, p_add, p_addT, p_addL, p_sub, p_mul, p_fdiv, p_mod, p_pow, p_lt, p_le, p_gt, p_ge, p_ixL, p_ixT, at_0, at_1, at_2, at_n, p_eqI, p_neI, s_nn, s_bb, s_in, s_bn, s_tn, s_ln, s_sn, s_nb, s_ib, s_tb, s_lb, s_sb, p_is, p_isn, q_lenL, q_lenT, q_abs, q_int, q_intb, q_all, q_any, q_sum, q_tupL, q_tupT, q_lstL, q_lstT, q_max, q_min, q_gcd, q_isi, t_tt, t_tl, t_ti, t_tb, t_tn, t_ts, t_it, t_il, t_ii, t_ib, t_in, t_is, t_bt, t_bl, t_bi, t_bb, t_bn, t_bs, t_st, t_sl, t_si, t_sb, t_sn, t_ss, r_none, r_bool, r_int, r_list, r_tup, f_d, st_m, pl_n, pl_0, pl_1, m_app, m_pop, tof_s, bt_v, sw_c, sw_n, ag_a, rngOf, small62]) e⟩
theorem dgL2_eq (hl : ds.length ≤ 3780) : ∃ (u : Int) (x : Option W) (es : List Int), es.length ≤ ds.length + 60 ∧ evalS cf G wf dgL2 (dgR ns M0.length j a b (some (.d (.int w)))) (dgM M0 ds) = some (.nx (dgR ns M0.length j a x (some (.d (.int u)))) (dgM M0 es)) := by
  obtain ⟨ρ', M', e, u, x, es, rfl, rfl, h2⟩ := forL_for (f := turnG cf G wf (.v 6) dgB2) (xs := irng 0 1 12) (fun t ρ M => ∃ (u : Int) (x : Option W) (es : List Int), ρ = dgR ns M0.length j a x (some (.d (.int u))) ∧ M = dgM M0 es ∧ es.length ≤ ds.length + t)
    (fun ρ M => ∃ (u : Int) (x : Option W) (es : List Int), ρ = dgR ns M0.length j a x (some (.d (.int u))) ∧ M = dgM M0 es ∧ es.length ≤ ds.length + 60) (fun t x ρ M hx hI => by
      obtain ⟨rfl, ht⟩ := irng_at hx
      obtain ⟨u, x, es, rfl, rfl, h2⟩ := hI
      obtain ⟨u', es', g2, g3⟩ := dgB2_eq (cf := cf) (G := G) (wf := wf) (ns := ns) (M0 := M0) (j := j) (a := a) (ds := es) (w := u) (t := t) (by omega)
      exact ⟨_, _, .inl ⟨g3, u', _, es', rfl, rfl, by omega⟩⟩) (fun ρ M hI => by
        obtain ⟨u, x, es, h0, h1, h2⟩ := hI
        rw [irng_length] at h2
        exact ⟨u, x, es, h0, h1, by omega⟩) ⟨w, b, ds, rfl, rfl, by omega⟩
  exact ⟨u, x, es, h2, x_for (by simp [evalE, evalEs, evalB, evalIt, evalS, evalSs, evalTg, allB, allI, deref_d, deref_m, derefR_d, derefR_m, derefR_r, db_len, db_abs, db_int, db_all, db_any, db_sum, db_tuple, db_list, db_max, db_min, db_gcd, db_isi, derefs_nil, derefs_cons, plain_nil, plain_d, give_f, give_t, p_add, p_addT, p_addL, p_sub, p_mul, p_fdiv, p_mod, p_pow, p_lt, p_le, p_gt, p_ge, p_ixL, p_ixT, at_0, at_1, at_2, at_n, p_eqI, p_neI, s_nn, s_bb, s_in, s_bn, s_tn, s_ln, s_sn, s_nb, s_ib, s_tb, s_lb, s_sb, p_is, p_isn, q_lenL, q_lenT, q_abs, q_int, q_intb, q_all, q_any, q_sum, q_tupL, q_tupT, q_lstL, q_lstT, q_max, q_min, q_gcd, q_isi, t_tt, t_tl, t_ti, t_tb, t_tn, t_ts, t_it, t_il, t_ii, t_ib, t_in, t_is, t_bt, t_bl, t_bi, t_bb, t_bn, t_bs, t_st, t_sl, t_si, t_sb, t_sn, t_ss, r_none, r_bool, r_int, r_list, r_tup, f_d, st_m, pl_n, pl_0, pl_1, m_app, m_pop, tof_s, bt_v, sw_c, sw_n, ag_a, rngOf, small62]) e⟩
theorem dg4_eq (hv : 0 ≤ v) (hl : ds.length ≤ 3780) : ∃ (x y z : Option W) (es : List Int), es.length ≤ ds.length + 60 ∧ evalS cf G wf dg4 (dgR ns M0.length j (some (.d (.int v))) b c) (dgM M0 ds) = some (.nx (dgR ns M0.length j x y z) (dgM M0 es)) := by
  by_cases hb : (1000000000000000000 : Int) ≤ v
  · obtain ⟨u, x, es, h1, h2⟩ := dgL1_eq (cf := cf) (G := G) (wf := wf) (ns := ns) (M0 := M0) (j := j) (b := b) (c := c) hv hl
    refine ⟨some (.d (.int u)), x, c, es, h1, ?_⟩
    have ht : testOf (evalE cf G wf (.op2 false .ge (.var 5) (.op2 false .pow (.lit (.int 10)) (.lit (.int 18)))) (dgR ns M0.length j (some (.d (.int v))) b c) (dgM M0 ds)) = some (true, dgM M0 ds) := by simp [evalE, evalEs, evalB, evalIt, evalS, evalSs, evalTg, allB, allI, deref_d, deref_m, derefR_d, derefR_m, derefR_r, db_len, db_abs, db_int, db_all, db_any, db_sum, db_tuple, db_list, db_max, db_min, db_gcd, db_isi, derefs_nil, derefs_cons, plain_nil, plain_d, give_f, give_t, p_add, p_addT, p_addL, p_sub, p_mul, p_fdiv, p_mod, p_pow, p_lt, p_le, p_gt, p_ge, p_ixL, p_ixT, at_0, at_1, at_2, at_n, p_eqI, p_neI, s_nn, s_bb, s_in, s_bn, s_tn, s_ln, s_sn, s_nb, s_ib, s_tb, s_lb, s_sb, p_is, p_isn, q_lenL, q_lenT, q_abs, q_int, q_intb, q_all, q_any, q_sum, q_tupL, q_tupT, q_lstL, q_lstT, q_max, q_min, q_gcd, q_isi, t_tt, t_tl, t_ti, t_tb, t_tn, t_ts, t_it, t_il, t_ii, t_ib, t_in, t_is, t_bt, t_bl, t_bi, t_bb, t_bn, t_bs, t_st, t_sl, t_si, t_sb, t_sn, t_ss, r_none, r_bool, r_int, r_list, r_tup, f_d, st_m, pl_n, pl_0, pl_1, m_app, m_pop, tof_s, bt_v, sw_c, sw_n, ag_a, hb]
    rw [dg4, evalS, ht]
    exact x_cons h2 rfl
  · obtain ⟨u1, h1⟩ := dg5_eq (cf := cf) (G := G) (wf := wf) (ns := ns) (M0 := M0) (j := j) (b := b) (c := c) (ds := ds) (v := v)
    obtain ⟨u, x, es, h2, h3⟩ := dgL2_eq (cf := cf) (G := G) (wf := wf) (ns := ns) (M0 := M0) (j := j) (a := some (.d (.int v))) (b := b) (w := u1) hl
    refine ⟨some (.d (.int v)), x, some (.d (.int u)), es, h2, ?_⟩
    have ht : testOf (evalE cf G wf (.op2 false .ge (.var 5) (.op2 false .pow (.lit (.int 10)) (.lit (.int 18)))) (dgR ns M0.length j (some (.d (.int v))) b c) (dgM M0 ds)) = some (false, dgM M0 ds) := by simp [evalE, evalEs, evalB, evalIt, evalS, evalSs, evalTg, allB, allI, deref_d, deref_m, derefR_d, derefR_m, derefR_r, db_len, db_abs, db_int, db_all, db_any, db_sum, db_tuple, db_list, db_max, db_min, db_gcd, db_isi, derefs_nil, derefs_cons, plain_nil, plain_d, give_f, give_t, p_add, p_addT, p_addL, p_sub, p_mul, p_fdiv, p_mod, p_pow, p_lt, p_le, p_gt, p_ge, p_ixL, p_ixT, at_0, at_1, at_2, at_n, p_eqI, p_neI, s_nn, s_bb, s_in, s_bn, s_tn, s_ln, s_sn, s_nb, s_ib, s_tb, s_lb, s_sb, p_is, p_isn, q_lenL, q_lenT, q_abs, q_int, q_intb, q_all, q_any, q_sum, q_tupL, q_tupT, q_lstL, q_lstT, q_max, q_min, q_gcd, q_isi, t_tt, t_tl, t_ti, t_tb, t_tn, t_ts, t_it, t_il, t_ii, t_ib, t_in, t_is, t_bt, t_bl, t_bi, t_bb, t_bn, t_bs, t_st, t_sl, t_si, t_sb, t_sn, t_ss, r_none, r_bool, r_int, r_list, r_tup, f_d, st_m, pl_n, pl_0, pl_1, m_app, m_pop, tof_s, bt_v, sw_c, sw_n, ag_a, hb]
    rw [dg4, evalS, ht]
    exact x_cons h1 (x_cons h3 rfl)
end
theorem digits_eq {i c k : Nat} (h : fs[i]? = some (lDigits c)) (hc : fs[c]? = some lCell) (ns : List Int) (M0 : Mem) : ∃ ds : List Int, callF fs G wf (k + 2) i [.r ns, .d (.int 0), .d (.int 63)] M0 = some (.d (.list (ds.map .int)), M0) := by
  obtain ⟨ρ', M', e, a, b, c', d, ds, rfl, rfl, hl⟩ := forL_for (f := turnG (callF fs G wf (k + 1)) G wf (.v 4) (dgB c)) (xs := irng 0 1 63) (fun j => DgI ns M0 (60 * j)) (DgI ns M0 3780) (fun j x ρ M hx hI => by
      obtain ⟨rfl, hj⟩ := irng_at hx
      obtain ⟨a, b, c', d, ds, rfl, rfl, hl⟩ := hI
      rw [x_turn]
      have s1 : evalS (callF fs G wf (k + 1)) G wf (dg1 c) (dgR ns M0.length j b c' d) (dgM M0 ds) = some (.nx (dgR ns M0.length j (some (.d (.int (ns.getD j 0)))) c' d) (dgM M0 ds)) := by
        simp [evalE, evalEs, evalB, evalIt, evalS, evalSs, evalTg, allB, allI, deref_d, deref_m, derefR_d, derefR_m, derefR_r, db_len, db_abs, db_int, db_all, db_any, db_sum, db_tuple, db_list, db_max, db_min, db_gcd, db_isi, derefs_nil, derefs_cons, plain_nil, plain_d, give_f, give_t, p_add, p_addT, p_addL, p_sub, p_mul, p_fdiv, p_mod, p_pow, p_lt, p_le, p_gt, p_ge, p_ixL, p_ixT, at_0, at_1, at_2, at_n, p_eqI, p_neI, s_nn, s_bb, s_in, s_bn, s_tn, s_ln, s_sn, s_nb, s_ib, s_tb, s_lb, s_sb, p_is, p_isn, q_lenL, q_lenT, q_abs, q_int, q_intb, q_all, q_any, q_sum, q_tupL, q_tupT, q_lstL, q_lstT, q_max, q_min, q_gcd, q_isi, t_tt, t_tl, t_ti, t_tb, t_tn, t_ts, t_it, t_il, t_ii, t_ib, t_in, t_is, t_bt, t_bl, t_bi, t_bb, t_bn, t_bs, t_st, t_sl, t_si, t_sb, t_sn, t_ss, r_none, r_bool, r_int, r_list, r_tup, f_d, st_m, pl_n, pl_0, pl_1, m_app, m_pop, tof_s, bt_v, sw_c, sw_n, ag_a, dg1, cell_eq hc]
      obtain ⟨v, hv, s2⟩ := dg2_eq (cf := callF fs G wf (k + 1)) (G := G) (wf := wf) (ns := ns) (M0 := M0) (j := j) (b := c') (c := d) (ds := ds) (v := ns.getD j 0)
      rcases dg3_eq (cf := callF fs G wf (k + 1)) (G := G) (wf := wf) (ns := ns) (M0 := M0) (j := j) (a := some (.d (.int v))) (b := c') (c := d) (ds := ds) with s3 | s3
      · refine ⟨dgR ns M0.length j (some (.d (.int v))) c' d, dgM M0 ds, .inr ⟨x_cons s1 (x_cons s2 ?_), some (.d (.int (j : Nat))), some (.d (.int v)), c', d, ds, rfl, rfl, by omega⟩⟩
        rw [evalSs, s3]
      · obtain ⟨x, y, z, es, h1, s4⟩ := dg4_eq (cf := callF fs G wf (k + 1)) (G := G) (wf := wf) (ns := ns) (M0 := M0) (j := j) (b := c') (c := d) (ds := ds) hv (by omega)
        exact ⟨dgR ns M0.length j x y z, dgM M0 es, .inl ⟨x_cons s1 (x_cons s2 (x_cons s3 (x_cons s4 rfl))), some (.d (.int (j : Nat))), x, y, z, es, rfl, rfl, by omega⟩⟩)
    (fun ρ M hI => by simpa [irng_length] using hI) (ρ := [some (.r ns), some (.d (.int 0)), some (.d (.int 63)), some (.m M0.length), none, none, none, none]) (M := M0 ++ [.lst []]) ⟨none, none, none, none, [], rfl, by simp, by simp⟩
  refine ⟨ds, ?_⟩
  have b1 : evalSs (callF fs G wf (k + 1)) G wf (lDigits c).body [some (.r ns), some (.d (.int 0)), some (.d (.int 63)), none, none, none, none, none] M0 = some (.ret (.m M0.length) (M0 ++ [.lst (ds.map .int)])) :=
    x_cons (ρ' := [some (.r ns), some (.d (.int 0)), some (.d (.int 63)), some (.m M0.length), none, none, none, none]) (M' := M0 ++ [.lst []]) (by simp [evalE, evalEs, evalB, evalIt, evalS, evalSs, evalTg, allB, allI, deref_d, deref_m, derefR_d, derefR_m, derefR_r, db_len, db_abs, db_int, db_all, db_any, db_sum, db_tuple, db_list, db_max, db_min, db_gcd, db_isi, derefs_nil, derefs_cons, plain_nil, plain_d, give_f, give_t, p_add, p_addT, p_addL, p_sub, p_mul, p_fdiv, p_mod, p_pow, p_lt, p_le, p_gt, p_ge, p_ixL, p_ixT, at_0, at_1, at_2, at_n, p_eqI, p_neI, s_nn, s_bb, s_in, s_bn, s_tn, s_ln, s_sn, s_nb, s_ib, s_tb, s_lb, s_sb, p_is, p_isn, q_lenL, q_lenT, q_abs, q_int, q_intb, q_all, q_any, q_sum, q_tupL, q_tupT, q_lstL, q_lstT, q_max, q_min, q_gcd, q_isi, t_tt, t_tl, t_ti, t_tb, t_tn, t_ts, t_it, t_il, t_ii, t_ib, t_in, t_is, t_bt, t_bl, t_bi, t_bb, t_bn, t_bs, t_st, t_sl, t_si, t_sb, t_sn, t_ss, r_none, r_bool, r_int, r_list, r_tup, f_d, st_m, pl_n, pl_0, pl_1, m_app, m_pop, tof_s, bt_v, sw_c, sw_n, ag_a]) (x_cons (x_for (by simp [evalE, evalEs, evalB, evalIt, evalS, evalSs, evalTg, allB, allI, deref_d, deref_m, derefR_d, derefR_m, derefR_r, db_len, db_abs, db_int, db_all, db_any, db_sum, db_tuple, db_list, db_max, db_min, db_gcd, db_isi, derefs_nil, derefs_cons, plain_nil, plain_d, give_f, give_t, p_add, p_addT, p_addL, p_sub, p_mul, p_fdiv, p_mod, p_pow, p_lt, p_le, p_gt, p_ge, p_ixL, p_ixT, at_0, at_1, at_2, at_n, p_eqI, p_neI, s_nn, s_bb, s_in, s_bn, s_tn, s_ln, s_sn, s_nb, s_ib, s_tb, s_lb, s_sb, p_is, p_isn, q_lenL, q_lenT, q_abs, q_int, q_intb, q_all, q_any, q_sum, q_tupL, q_tupT, q_lstL, q_lstT, q_max, q_min, q_gcd, q_isi, t_tt, t_tl, t_ti, t_tb, t_tn, t_ts, t_it, t_il, t_ii, t_ib, t_in, t_is, t_bt, t_bl, t_bi, t_bb, t_bn, t_bs, t_st, t_sl, t_si, t_sb, t_sn, t_ss, r_none, r_bool, r_int, r_list, r_tup, f_d, st_m, pl_n, pl_0, pl_1, m_app, m_pop, tof_s, bt_v, sw_c, sw_n, ag_a, rngOf, small62]) e) (by simp [evalE, evalEs, evalB, evalIt, evalS, evalSs, evalTg, allB, allI, deref_d, deref_m, derefR_d, derefR_m, derefR_r, db_len, db_abs, db_int, db_all, db_any, db_sum, db_tuple, db_list, db_max, db_min, db_gcd, db_isi, derefs_nil, derefs_cons, plain_nil, plain_d, give_f, give_t, p_add, p_addT, p_addL, p_sub, p_mul, p_fdiv, p_mod, p_pow, p_lt, p_le, p_gt, p_ge, p_ixL, p_ixT, at_0, at_1, at_2, at_n, p_eqI, p_neI, s_nn, s_bb, s_in, s_bn, s_tn, s_ln, s_sn, s_nb, s_ib, s_tb, s_lb, s_sb, p_is, p_isn, q_lenL, q_lenT, q_abs, q_int, q_intb, q_all, q_any, q_sum, q_tupL, q_tupT, q_lstL, q_lstT, q_max, q_min, q_gcd, q_isi, t_tt, t_tl, t_ti, t_tb, t_tn, t_ts, t_it, t_il, t_ii, t_ib, t_in, t_is, t_bt, t_bl, t_bi, t_bb, t_bn, t_bs, t_st, t_sl, t_si, t_sb, t_sn, t_ss, r_none, r_bool, r_int, r_list, r_tup, f_d, st_m, pl_n, pl_0, pl_1, m_app, m_pop, tof_s, bt_v, sw_c, sw_n, ag_a]))
  rw [x_call h rfl (by exact b1)]
  simp [finish]
end
end EV

/-! EvN: likeness, gcd, ratios. -/
namespace EV
open PySem
/-! ### sizes -/
def sm (n : Nat) (x : Int) : Prop := x.natAbs < 2 ^ n
section
variable {n m : Nat} {x y : Int}
theorem sm.mono (h : sm n x) (e : n ≤ m) : sm m x := Nat.lt_of_lt_of_le h (Nat.pow_le_pow_right (by decide) e)
theorem sm.mul (h : sm n x) (k : sm m y) : sm (n + m) (x * y) := by
  unfold sm at *
  rw [Int.natAbs_mul, Nat.pow_add]
  exact Nat.mul_lt_mul'' h k
theorem sm.add (h : sm n x) (k : sm n y) : sm (n + 1) (x + y) := by
  unfold sm at *
  rw [Nat.pow_succ]
  have := Int.natAbs_add_le x y
  omega
theorem sm.neg (h : sm n x) : sm n (-x) := by unfold sm at *; rw [Int.natAbs_neg]; exact h
theorem sm.sub (h : sm n x) (k : sm n y) : sm (n + 1) (x - y) := by rw [Int.sub_eq_add_neg]; exact h.add k.neg
theorem sm.le (h : sm n x) (e : y.natAbs ≤ x.natAbs) : sm n y := Nat.lt_of_le_of_lt e h
theorem sm.log (h : sm n x) : x.natAbs.log2 ≤ n := by
  unfold sm at h
  by_cases h0 : x.natAbs = 0
  · have e : Nat.log2 0 = 0 := by decide
    rw [h0, e]; omega
  · exact Nat.le_of_lt ((Nat.log2_lt h0).mpr h)
theorem sm.ok (h : sm n x) (k : sm m y) (e : n + m < 100000000) : mulOk x y = true := by
  have h1 := h.log
  have h2 := k.log
  unfold mulOk
  simp only [Bool.or_eq_true, decide_eq_true_eq]
  exact .inl (.inl (by omega))
theorem sm.div (k : sm n y) (e : n < 9000) : Builtin.divisionGoesByPylong x y = false := PyProof.noPylong_of_log2 (by have := k.log; omega)
theorem sm_lit (k : Nat) (h : x.natAbs < 2 ^ k) : sm k x := h
end
/-! ### likeness -/
/-- data of None, bools, ints, tuples, n tuples deep -/
inductive Lk : Nat → PyData → Prop
  | none {n : Nat} : Lk n .none
  | bool {n : Nat} (b : Bool) : Lk n (.bool b)
  | int {n : Nat} (i : Int) : Lk n (.int i)
  | tup {n : Nat} {xs : List PyData} : xs.length < 1000000 → (∀ (j : Nat) (x : PyData), xs[j]? = some x → Lk n x) → Lk (n + 1) (.tuple xs)
theorem compL_all {f : PyData → List PyData → Mem → Option (List PyData × Mem)} {M : Mem} : ∀ {xs acc : List PyData}, (∀ x ∈ xs, ∀ acc, f x acc M = some (acc, M)) → compL f xs acc M = some (acc, M)
  | [], acc, _ => rfl
  | x :: xs, acc, h => by
    rw [compL, h x (by simp)]
    exact compL_all fun y hy => h y (by simp [hy])
section
variable {fs : List Fn} {G : List PyData} {wf : Nat}
/-- one turn of a comprehension -/
def tc (cf : Nat → List W → Mem → Option (W × Mem)) (G : List PyData) (wf : Nat) (own : List Nat) (tg : T) (c elt : E) (ρ : Loc) : PyData → List PyData → Mem → Option (List PyData × Mem) := fun x acc M => match bindT tg x (wipeL ρ own) with
  | some ρ2 => match testOf (evalE cf G wf c ρ2 M) with
    | some (true, M2) => match evalE cf G wf elt ρ2 M2 with
      | some (.d y, M3) => if acc.length < sizeLine then some (acc ++ [y], M3) else none
      | _ => none
    | some (false, M2) => some (acc, M2)
    | none => none
  | none => none
theorem x_comp {cf : Nat → List W → Mem → Option (W × Mem)} {mu : Bool} {own : List Nat} {tg : T} {it : It} {c elt : E} {ρ : Loc} {M M1 M2 : Mem} {xs ys : List PyData} {r : Option (W × Mem)} (hi : evalIt cf G wf it ρ M = some (.its xs, M1)) (h : compL (tc cf G wf own tg c elt ρ) xs [] M1 = some (ys, M2)) (hg : give mu (.list ys) M2 = r) :
    evalE cf G wf (.comp mu own tg it c elt) ρ M = r := by
  rw [evalE, hi]
  show (match compL (tc cf G wf own tg c elt ρ) xs [] M1 with
    | some (ys, M2) => give mu (.list ys) M2
    | none => none) = r
  rw [h]
  exact hg
theorem small_len {n : Nat} (h : n < 1000000) : small62 (n : Int) = true := by
  have e : (2 : Int) ^ 62 = 4611686018427387904 := by decide
  unfold small62
  rw [e, Bool.and_eq_true]
  exact ⟨decide_eq_true (by omega), decide_eq_true (by omega)⟩
theorem eq_nil : prim2 .eq (.list []) (.list []) = some (.bool true) := by
  show (if shEq (.list []) (.list []) = true then some (PyData.eqv (.list []) (.list [])) else none).map PyData.bool = _
  have e1 : shEq (.list []) (.list []) = true := by decide +kernel
  have e2 : PyData.eqv (.list []) (.list []) = true := by decide +kernel
  rw [if_pos e1, e2]; rfl
section
variable {cf : Nat → List W → Mem → Option (W × Mem)} {c : E} {a b r : Ss} {s : S} {ρ : Loc} {M M1 : Mem} {w : W} {o : Option Out}
theorem x_ifF (h : testOf (evalE cf G wf c ρ M) = some (false, M1)) : evalS cf G wf (.ife c a .nil) ρ M = some (.nx ρ M1) := by rw [evalS, h]; rfl
theorem x_ifT (h : testOf (evalE cf G wf c ρ M) = some (true, M1)) (h2 : evalSs cf G wf a ρ M1 = o) : evalS cf G wf (.ife c a b) ρ M = o := by rw [evalS, h]; exact h2
theorem x_ifE (h : testOf (evalE cf G wf c ρ M) = some (false, M1)) (h2 : evalSs cf G wf b ρ M1 = o) : evalS cf G wf (.ife c a b) ρ M = o := by rw [evalS, h]; exact h2
theorem x_stop (h : evalS cf G wf s ρ M = some (.ret w M1)) : evalSs cf G wf (.cons s r) ρ M = some (.ret w M1) := by rw [evalSs, h]
theorem x_ret {e : E} (h : evalE cf G wf e ρ M = some (w, M1)) : evalS cf G wf (.ret e) ρ M = some (.ret w M1) := by rw [evalS, h]
theorem x_fin {fn : Fn} {i k : Nat} {ws : List W} {x : PyData} (hf : fs[i]? = some fn) (hl : ws.length = fn.ar) (hb : evalSs (callF fs G wf k) G wf fn.body (ws.map some ++ List.replicate (fn.sl - fn.ar) none) M = some (.ret (.d x) M1)) : callF fs G wf (k + 1) i ws M = some (.d x, M1.take M.length) := x_call hf hl hb
end
section
variable {i k : Nat} {M : Mem} {xs : List PyData}
theorem like_go {d : PyData} (h : fs[i]? = some (lLike i)) (hb : evalSs (callF fs G wf k) G wf (lLike i).body [some (.d d), some (.d d), none] M = some (.ret (.d (.bool true)) M)) : callF fs G wf (k + 1) i [.d d, .d d] M = some (.d (.bool true), M) := by
  rw [x_fin h rfl (by exact hb), List.take_length]
theorem like_none (h : fs[i]? = some (lLike i)) : callF fs G wf (k + 1) i [.d .none, .d .none] M = some (.d (.bool true), M) :=
  like_go h (x_cons (x_ifF (M1 := M) (by simp [evalE, evalEs, evalB, evalIt, evalS, evalSs, evalTg, allB, allI, deref_d, deref_m, derefR_d, derefR_m, derefR_r, db_len, db_abs, db_int, db_all, db_any, db_sum, db_tuple, db_list, db_max, db_min, db_gcd, db_isi, derefs_nil, derefs_cons, plain_nil, plain_d, give_f, give_t, p_add, p_addT, p_addL, p_sub, p_mul, p_fdiv, p_mod, p_pow, p_lt, p_le, p_gt, p_ge, p_ixL, p_ixT, at_0, at_1, at_2, at_n, p_eqI, p_neI, s_nn, s_bb, s_in, s_bn, s_tn, s_ln, s_sn, s_nb, s_ib, s_tb, s_lb, s_sb, p_is, p_isn, q_lenL, q_lenT, q_abs, q_int, q_intb, q_all, q_any, q_sum, q_tupL, q_tupT, q_lstL, q_lstT, q_max, q_min, q_gcd, q_isi, t_tt, t_tl, t_ti, t_tb, t_tn, t_ts, t_it, t_il, t_ii, t_ib, t_in, t_is, t_bt, t_bl, t_bi, t_bb, t_bn, t_bs, t_st, t_sl, t_si, t_sb, t_sn, t_ss, r_none, r_bool, r_int, r_list, r_tup, f_d, st_m, pl_n, pl_0, pl_1, m_app, m_pop, tof_s, bt_v, sw_c, sw_n, ag_a])) (x_stop (x_ifT (M1 := M) (by simp [evalE, evalEs, evalB, evalIt, evalS, evalSs, evalTg, allB, allI, deref_d, deref_m, derefR_d, derefR_m, derefR_r, db_len, db_abs, db_int, db_all, db_any, db_sum, db_tuple, db_list, db_max, db_min, db_gcd, db_isi, derefs_nil, derefs_cons, plain_nil, plain_d, give_f, give_t, p_add, p_addT, p_addL, p_sub, p_mul, p_fdiv, p_mod, p_pow, p_lt, p_le, p_gt, p_ge, p_ixL, p_ixT, at_0, at_1, at_2, at_n, p_eqI, p_neI, s_nn, s_bb, s_in, s_bn, s_tn, s_ln, s_sn, s_nb, s_ib, s_tb, s_lb, s_sb, p_is, p_isn, q_lenL, q_lenT, q_abs, q_int, q_intb, q_all, q_any, q_sum, q_tupL, q_tupT, q_lstL, q_lstT, q_max, q_min, q_gcd, q_isi, t_tt, t_tl, t_ti, t_tb, t_tn, t_ts, t_it, t_il, t_ii, t_ib, t_in, t_is, t_bt, t_bl, t_bi, t_bb, t_bn, t_bs, t_st, t_sl, t_si, t_sb, t_sn, t_ss, r_none, r_bool, r_int, r_list, r_tup, f_d, st_m, pl_n, pl_0, pl_1, m_app, m_pop, tof_s, bt_v, sw_c, sw_n, ag_a]) (x_stop (x_ret (by simp [evalE, evalEs, evalB, evalIt, evalS, evalSs, evalTg, allB, allI, deref_d, deref_m, derefR_d, derefR_m, derefR_r, db_len, db_abs, db_int, db_all, db_any, db_sum, db_tuple, db_list, db_max, db_min, db_gcd, db_isi, derefs_nil, derefs_cons, plain_nil, plain_d, give_f, give_t, p_add, p_addT, p_addL, p_sub, p_mul, p_fdiv, p_mod, p_pow, p_lt, p_le, p_gt, p_ge, p_ixL, p_ixT, at_0, at_1, at_2, at_n, p_eqI, p_neI, s_nn, s_bb, s_in, s_bn, s_tn, s_ln, s_sn, s_nb, s_ib, s_tb, s_lb, s_sb, p_is, p_isn, q_lenL, q_lenT, q_abs, q_int, q_intb, q_all, q_any, q_sum, q_tupL, q_tupT, q_lstL, q_lstT, q_max, q_min, q_gcd, q_isi, t_tt, t_tl, t_ti, t_tb, t_tn, t_ts, t_it, t_il, t_ii, t_ib, t_in, t_is, t_bt, t_bl, t_bi, t_bb, t_bn, t_bs, t_st, t_sl, t_si, t_sb, t_sn, t_ss, r_none, r_bool, r_int, r_list, r_tup, f_d, st_m, pl_n, pl_0, pl_1, m_app, m_pop, tof_s, bt_v, sw_c, sw_n, ag_a]))))))
theorem like_true (h : fs[i]? = some (lLike i)) : callF fs G wf (k + 1) i [.d (.bool true), .d (.bool true)] M = some (.d (.bool true), M) :=
  like_go h (x_cons (x_ifF (M1 := M) (by simp [evalE, evalEs, evalB, evalIt, evalS, evalSs, evalTg, allB, allI, deref_d, deref_m, derefR_d, derefR_m, derefR_r, db_len, db_abs, db_int, db_all, db_any, db_sum, db_tuple, db_list, db_max, db_min, db_gcd, db_isi, derefs_nil, derefs_cons, plain_nil, plain_d, give_f, give_t, p_add, p_addT, p_addL, p_sub, p_mul, p_fdiv, p_mod, p_pow, p_lt, p_le, p_gt, p_ge, p_ixL, p_ixT, at_0, at_1, at_2, at_n, p_eqI, p_neI, s_nn, s_bb, s_in, s_bn, s_tn, s_ln, s_sn, s_nb, s_ib, s_tb, s_lb, s_sb, p_is, p_isn, q_lenL, q_lenT, q_abs, q_int, q_intb, q_all, q_any, q_sum, q_tupL, q_tupT, q_lstL, q_lstT, q_max, q_min, q_gcd, q_isi, t_tt, t_tl, t_ti, t_tb, t_tn, t_ts, t_it, t_il, t_ii, t_ib, t_in, t_is, t_bt, t_bl, t_bi, t_bb, t_bn, t_bs, t_st, t_sl, t_si, t_sb, t_sn, t_ss, r_none, r_bool, r_int, r_list, r_tup, f_d, st_m, pl_n, pl_0, pl_1, m_app, m_pop, tof_s, bt_v, sw_c, sw_n, ag_a])) (x_cons (x_ifF (M1 := M) (by simp [evalE, evalEs, evalB, evalIt, evalS, evalSs, evalTg, allB, allI, deref_d, deref_m, derefR_d, derefR_m, derefR_r, db_len, db_abs, db_int, db_all, db_any, db_sum, db_tuple, db_list, db_max, db_min, db_gcd, db_isi, derefs_nil, derefs_cons, plain_nil, plain_d, give_f, give_t, p_add, p_addT, p_addL, p_sub, p_mul, p_fdiv, p_mod, p_pow, p_lt, p_le, p_gt, p_ge, p_ixL, p_ixT, at_0, at_1, at_2, at_n, p_eqI, p_neI, s_nn, s_bb, s_in, s_bn, s_tn, s_ln, s_sn, s_nb, s_ib, s_tb, s_lb, s_sb, p_is, p_isn, q_lenL, q_lenT, q_abs, q_int, q_intb, q_all, q_any, q_sum, q_tupL, q_tupT, q_lstL, q_lstT, q_max, q_min, q_gcd, q_isi, t_tt, t_tl, t_ti, t_tb, t_tn, t_ts, t_it, t_il, t_ii, t_ib, t_in, t_is, t_bt, t_bl, t_bi, t_bb, t_bn, t_bs, t_st, t_sl, t_si, t_sb, t_sn, t_ss, r_none, r_bool, r_int, r_list, r_tup, f_d, st_m, pl_n, pl_0, pl_1, m_app, m_pop, tof_s, bt_v, sw_c, sw_n, ag_a])) (x_stop (x_ifT (M1 := M) (by simp [evalE, evalEs, evalB, evalIt, evalS, evalSs, evalTg, allB, allI, deref_d, deref_m, derefR_d, derefR_m, derefR_r, db_len, db_abs, db_int, db_all, db_any, db_sum, db_tuple, db_list, db_max, db_min, db_gcd, db_isi, derefs_nil, derefs_cons, plain_nil, plain_d, give_f, give_t, p_add, p_addT, p_addL, p_sub, p_mul, p_fdiv, p_mod, p_pow, p_lt, p_le, p_gt, p_ge, p_ixL, p_ixT, at_0, at_1, at_2, at_n, p_eqI, p_neI, s_nn, s_bb, s_in, s_bn, s_tn, s_ln, s_sn, s_nb, s_ib, s_tb, s_lb, s_sb, p_is, p_isn, q_lenL, q_lenT, q_abs, q_int, q_intb, q_all, q_any, q_sum, q_tupL, q_tupT, q_lstL, q_lstT, q_max, q_min, q_gcd, q_isi, t_tt, t_tl, t_ti, t_tb, t_tn, t_ts, t_it, t_il, t_ii, t_ib, t_in, t_is, t_bt, t_bl, t_bi, t_bb, t_bn, t_bs, t_st, t_sl, t_si, t_sb, t_sn, t_ss, r_none, r_bool, r_int, r_list, r_tup, f_d, st_m, pl_n, pl_0, pl_1, m_app, m_pop, tof_s, bt_v, sw_c, sw_n, ag_a]) (x_stop (x_ret (by simp [evalE, evalEs, evalB, evalIt, evalS, evalSs, evalTg, allB, allI, deref_d, deref_m, derefR_d, derefR_m, derefR_r, db_len, db_abs, db_int, db_all, db_any, db_sum, db_tuple, db_list, db_max, db_min, db_gcd, db_isi, derefs_nil, derefs_cons, plain_nil, plain_d, give_f, give_t, p_add, p_addT, p_addL, p_sub, p_mul, p_fdiv, p_mod, p_pow, p_lt, p_le, p_gt, p_ge, p_ixL, p_ixT, at_0, at_1, at_2, at_n, p_eqI, p_neI, s_nn, s_bb, s_in, s_bn, s_tn, s_ln, s_sn, s_nb, s_ib, s_tb, s_lb, s_sb, p_is, p_isn, q_lenL, q_lenT, q_abs, q_int, q_intb, q_all, q_any, q_sum, q_tupL, q_tupT, q_lstL, q_lstT, q_max, q_min, q_gcd, q_isi, t_tt, t_tl, t_ti, t_tb, t_tn, t_ts, t_it, t_il, t_ii, t_ib, t_in, t_is, t_bt, t_bl, t_bi, t_bb, t_bn, t_bs, t_st, t_sl, t_si, t_sb, t_sn, t_ss, r_none, r_bool, r_int, r_list, r_tup, f_d, st_m, pl_n, pl_0, pl_1, m_app, m_pop, tof_s, bt_v, sw_c, sw_n, ag_a])))))))
theorem like_false (h : fs[i]? = some (lLike i)) : callF fs G wf (k + 1) i [.d (.bool false), .d (.bool false)] M = some (.d (.bool true), M) :=
  like_go h (x_cons (x_ifF (M1 := M) (by simp [evalE, evalEs, evalB, evalIt, evalS, evalSs, evalTg, allB, allI, deref_d, deref_m, derefR_d, derefR_m, derefR_r, db_len, db_abs, db_int, db_all, db_any, db_sum, db_tuple, db_list, db_max, db_min, db_gcd, db_isi, derefs_nil, derefs_cons, plain_nil, plain_d, give_f, give_t, p_add, p_addT, p_addL, p_sub, p_mul, p_fdiv, p_mod, p_pow, p_lt, p_le, p_gt, p_ge, p_ixL, p_ixT, at_0, at_1, at_2, at_n, p_eqI, p_neI, s_nn, s_bb, s_in, s_bn, s_tn, s_ln, s_sn, s_nb, s_ib, s_tb, s_lb, s_sb, p_is, p_isn, q_lenL, q_lenT, q_abs, q_int, q_intb, q_all, q_any, q_sum, q_tupL, q_tupT, q_lstL, q_lstT, q_max, q_min, q_gcd, q_isi, t_tt, t_tl, t_ti, t_tb, t_tn, t_ts, t_it, t_il, t_ii, t_ib, t_in, t_is, t_bt, t_bl, t_bi, t_bb, t_bn, t_bs, t_st, t_sl, t_si, t_sb, t_sn, t_ss, r_none, r_bool, r_int, r_list, r_tup, f_d, st_m, pl_n, pl_0, pl_1, m_app, m_pop, tof_s, bt_v, sw_c, sw_n, ag_a])) (x_cons (x_ifF (M1 := M) (by simp [evalE, evalEs, evalB, evalIt, evalS, evalSs, evalTg, allB, allI, deref_d, deref_m, derefR_d, derefR_m, derefR_r, db_len, db_abs, db_int, db_all, db_any, db_sum, db_tuple, db_list, db_max, db_min, db_gcd, db_isi, derefs_nil, derefs_cons, plain_nil, plain_d, give_f, give_t, p_add, p_addT, p_addL, p_sub, p_mul, p_fdiv, p_mod, p_pow, p_lt, p_le, p_gt, p_ge, p_ixL, p_ixT, at_0, at_1, at_2, at_n, p_eqI, p_neI, s_nn, s_bb, s_in, s_bn, s_tn, s_ln, s_sn, s_nb, s_ib, s_tb, s_lb, s_sb, p_is, p_isn, q_lenL, q_lenT, q_abs, q_int, q_intb, q_all, q_any, q_sum, q_tupL, q_tupT, q_lstL, q_lstT, q_max, q_min, q_gcd, q_isi, t_tt, t_tl, t_ti, t_tb, t_tn, t_ts, t_it, t_il, t_ii, t_ib, t_in, t_is, t_bt, t_bl, t_bi, t_bb, t_bn, t_bs, t_st, t_sl, t_si, t_sb, t_sn, t_ss, r_none, r_bool, r_int, r_list, r_tup, f_d, st_m, pl_n, pl_0, pl_1, m_app, m_pop, tof_s, bt_v, sw_c, sw_n, ag_a])) (x_cons (x_ifF (M1 := M) (by simp [evalE, evalEs, evalB, evalIt, evalS, evalSs, evalTg, allB, allI, deref_d, deref_m, derefR_d, derefR_m, derefR_r, db_len, db_abs, db_int, db_all, db_any, db_sum, db_tuple, db_list, db_max, db_min, db_gcd, db_isi, derefs_nil, derefs_cons, plain_nil, plain_d, give_f, give_t, p_add, p_addT, p_addL, p_sub, p_mul, p_fdiv, p_mod, p_pow, p_lt, p_le, p_gt, p_ge, p_ixL, p_ixT, at_0, at_1, at_2, at_n, p_eqI, p_neI, s_nn, s_bb, s_in, s_bn, s_tn, s_ln, s_sn, s_nb, s_ib, s_tb, s_lb, s_sb, p_is, p_isn, q_lenL, q_lenT, q_abs, q_int, q_intb, q_all, q_any, q_sum, q_tupL, q_tupT, q_lstL, q_lstT, q_max, q_min, q_gcd, q_isi, t_tt, t_tl, t_ti, t_tb, t_tn, t_ts, t_it, t_il, t_ii, t_ib, t_in, t_is, t_bt, t_bl, t_bi, t_bb, t_bn, t_bs, t_st, t_sl, t_si, t_sb, t_sn, t_ss, r_none, r_bool, r_int, r_list, r_tup, f_d, st_m, pl_n, pl_0, pl_1, m_app, m_pop, tof_s, bt_v, sw_c, sw_n, ag_a])) (x_stop (x_ifT (M1 := M) (by simp [evalE, evalEs, evalB, evalIt, evalS, evalSs, evalTg, allB, allI, deref_d, deref_m, derefR_d, derefR_m, derefR_r, db_len, db_abs, db_int, db_all, db_any, db_sum, db_tuple, db_list, db_max, db_min, db_gcd, db_isi, derefs_nil, derefs_cons, plain_nil, plain_d, give_f, give_t, p_add, p_addT, p_addL, p_sub, p_mul, p_fdiv, p_mod, p_pow, p_lt, p_le, p_gt, p_ge, p_ixL, p_ixT, at_0, at_1, at_2, at_n, p_eqI, p_neI, s_nn, s_bb, s_in, s_bn, s_tn, s_ln, s_sn, s_nb, s_ib, s_tb, s_lb, s_sb, p_is, p_isn, q_lenL, q_lenT, q_abs, q_int, q_intb, q_all, q_any, q_sum, q_tupL, q_tupT, q_lstL, q_lstT, q_max, q_min, q_gcd, q_isi, t_tt, t_tl, t_ti, t_tb, t_tn, t_ts, t_it, t_il, t_ii, t_ib, t_in, t_is, t_bt, t_bl, t_bi, t_bb, t_bn, t_bs, t_st, t_sl, t_si, t_sb, t_sn, t_ss, r_none, r_bool, r_int, r_list, r_tup, f_d, st_m, pl_n, pl_0, pl_1, m_app, m_pop, tof_s, bt_v, sw_c, sw_n, ag_a]) (x_stop (x_ret (by simp [evalE, evalEs, evalB, evalIt, evalS, evalSs, evalTg, allB, allI, deref_d, deref_m, derefR_d, derefR_m, derefR_r, db_len, db_abs, db_int, db_all, db_any, db_sum, db_tuple, db_list, db_max, db_min, db_gcd, db_isi, derefs_nil, derefs_cons, plain_nil, plain_d, give_f, give_t, p_add, p_addT, p_addL, p_sub, p_mul, p_fdiv, p_mod, p_pow, p_lt, p_le, p_gt, p_ge, p_ixL, p_ixT, at_0, at_1, at_2, at_n, p_eqI, p_neI, s_nn, s_bb, s_in, s_bn, s_tn, s_ln, s_sn, s_nb, s_ib, s_tb, s_lb, s_sb, p_is, p_isn, q_lenL, q_lenT, q_abs, q_int, q_intb, q_all, q_any, q_sum, q_tupL, q_tupT, q_lstL, q_lstT, q_max, q_min, q_gcd, q_isi, t_tt, t_tl, t_ti, t_tb, t_tn, t_ts, t_it, t_il, t_ii, t_ib, t_in, t_is, t_bt, t_bl, t_bi, t_bb, t_bn, t_bs, t_st, t_sl, t_si, t_sb, t_sn, t_ss, r_none, r_bool, r_int, r_list, r_tup, f_d, st_m, pl_n, pl_0, pl_1, m_app, m_pop, tof_s, bt_v, sw_c, sw_n, ag_a]))))))))
theorem like_int (h : fs[i]? = some (lLike i)) (j : Int) : callF fs G wf (k + 1) i [.d (.int j), .d (.int j)] M = some (.d (.bool true), M) :=
  like_go h (x_cons (x_ifF (M1 := M) (by simp [evalE, evalEs, evalB, evalIt, evalS, evalSs, evalTg, allB, allI, deref_d, deref_m, derefR_d, derefR_m, derefR_r, db_len, db_abs, db_int, db_all, db_any, db_sum, db_tuple, db_list, db_max, db_min, db_gcd, db_isi, derefs_nil, derefs_cons, plain_nil, plain_d, give_f, give_t, p_add, p_addT, p_addL, p_sub, p_mul, p_fdiv, p_mod, p_pow, p_lt, p_le, p_gt, p_ge, p_ixL, p_ixT, at_0, at_1, at_2, at_n, p_eqI, p_neI, s_nn, s_bb, s_in, s_bn, s_tn, s_ln, s_sn, s_nb, s_ib, s_tb, s_lb, s_sb, p_is, p_isn, q_lenL, q_lenT, q_abs, q_int, q_intb, q_all, q_any, q_sum, q_tupL, q_tupT, q_lstL, q_lstT, q_max, q_min, q_gcd, q_isi, t_tt, t_tl, t_ti, t_tb, t_tn, t_ts, t_it, t_il, t_ii, t_ib, t_in, t_is, t_bt, t_bl, t_bi, t_bb, t_bn, t_bs, t_st, t_sl, t_si, t_sb, t_sn, t_ss, r_none, r_bool, r_int, r_list, r_tup, f_d, st_m, pl_n, pl_0, pl_1, m_app, m_pop, tof_s, bt_v, sw_c, sw_n, ag_a])) (x_cons (x_ifF (M1 := M) (by simp [evalE, evalEs, evalB, evalIt, evalS, evalSs, evalTg, allB, allI, deref_d, deref_m, derefR_d, derefR_m, derefR_r, db_len, db_abs, db_int, db_all, db_any, db_sum, db_tuple, db_list, db_max, db_min, db_gcd, db_isi, derefs_nil, derefs_cons, plain_nil, plain_d, give_f, give_t, p_add, p_addT, p_addL, p_sub, p_mul, p_fdiv, p_mod, p_pow, p_lt, p_le, p_gt, p_ge, p_ixL, p_ixT, at_0, at_1, at_2, at_n, p_eqI, p_neI, s_nn, s_bb, s_in, s_bn, s_tn, s_ln, s_sn, s_nb, s_ib, s_tb, s_lb, s_sb, p_is, p_isn, q_lenL, q_lenT, q_abs, q_int, q_intb, q_all, q_any, q_sum, q_tupL, q_tupT, q_lstL, q_lstT, q_max, q_min, q_gcd, q_isi, t_tt, t_tl, t_ti, t_tb, t_tn, t_ts, t_it, t_il, t_ii, t_ib, t_in, t_is, t_bt, t_bl, t_bi, t_bb, t_bn, t_bs, t_st, t_sl, t_si, t_sb, t_sn, t_ss, r_none, r_bool, r_int, r_list, r_tup, f_d, st_m, pl_n, pl_0, pl_1, m_app, m_pop, tof_s, bt_v, sw_c, sw_n, ag_a])) (x_cons (x_ifF (M1 := M) (by simp [evalE, evalEs, evalB, evalIt, evalS, evalSs, evalTg, allB, allI, deref_d, deref_m, derefR_d, derefR_m, derefR_r, db_len, db_abs, db_int, db_all, db_any, db_sum, db_tuple, db_list, db_max, db_min, db_gcd, db_isi, derefs_nil, derefs_cons, plain_nil, plain_d, give_f, give_t, p_add, p_addT, p_addL, p_sub, p_mul, p_fdiv, p_mod, p_pow, p_lt, p_le, p_gt, p_ge, p_ixL, p_ixT, at_0, at_1, at_2, at_n, p_eqI, p_neI, s_nn, s_bb, s_in, s_bn, s_tn, s_ln, s_sn, s_nb, s_ib, s_tb, s_lb, s_sb, p_is, p_isn, q_lenL, q_lenT, q_abs, q_int, q_intb, q_all, q_any, q_sum, q_tupL, q_tupT, q_lstL, q_lstT, q_max, q_min, q_gcd, q_isi, t_tt, t_tl, t_ti, t_tb, t_tn, t_ts, t_it, t_il, t_ii, t_ib, t_in, t_is, t_bt, t_bl, t_bi, t_bb, t_bn, t_bs, t_st, t_sl, t_si, t_sb, t_sn, t_ss, r_none, r_bool, r_int, r_list, r_tup, f_d, st_m, pl_n, pl_0, pl_1, m_app, m_pop, tof_s, bt_v, sw_c, sw_n, ag_a])) (x_cons (x_ifF (M1 := M) (by simp [evalE, evalEs, evalB, evalIt, evalS, evalSs, evalTg, allB, allI, deref_d, deref_m, derefR_d, derefR_m, derefR_r, db_len, db_abs, db_int, db_all, db_any, db_sum, db_tuple, db_list, db_max, db_min, db_gcd, db_isi, derefs_nil, derefs_cons, plain_nil, plain_d, give_f, give_t, p_add, p_addT, p_addL, p_sub, p_mul, p_fdiv, p_mod, p_pow, p_lt, p_le, p_gt, p_ge, p_ixL, p_ixT, at_0, at_1, at_2, at_n, p_eqI, p_neI, s_nn, s_bb, s_in, s_bn, s_tn, s_ln, s_sn, s_nb, s_ib, s_tb, s_lb, s_sb, p_is, p_isn, q_lenL, q_lenT, q_abs, q_int, q_intb, q_all, q_any, q_sum, q_tupL, q_tupT, q_lstL, q_lstT, q_max, q_min, q_gcd, q_isi, t_tt, t_tl, t_ti, t_tb, t_tn, t_ts, t_it, t_il, t_ii, t_ib, t_in, t_is, t_bt, t_bl, t_bi, t_bb, t_bn, t_bs, t_st, t_sl, t_si, t_sb, t_sn, t_ss, r_none, r_bool, r_int, r_list, r_tup, f_d, st_m, pl_n, pl_0, pl_1, m_app, m_pop, tof_s, bt_v, sw_c, sw_n, ag_a])) (x_cons (x_ifF (M1 := M) (by simp [evalE, evalEs, evalB, evalIt, evalS, evalSs, evalTg, allB, allI, deref_d, deref_m, derefR_d, derefR_m, derefR_r, db_len, db_abs, db_int, db_all, db_any, db_sum, db_tuple, db_list, db_max, db_min, db_gcd, db_isi, derefs_nil, derefs_cons, plain_nil, plain_d, give_f, give_t, p_add, p_addT, p_addL, p_sub, p_mul, p_fdiv, p_mod, p_pow, p_lt, p_le, p_gt, p_ge, p_ixL, p_ixT, at_0, at_1, at_2, at_n, p_eqI, p_neI, s_nn, s_bb, s_in, s_bn, s_tn, s_ln, s_sn, s_nb, s_ib, s_tb, s_lb, s_sb, p_is, p_isn, q_lenL, q_lenT, q_abs, q_int, q_intb, q_all, q_any, q_sum, q_tupL, q_tupT, q_lstL, q_lstT, q_max, q_min, q_gcd, q_isi, t_tt, t_tl, t_ti, t_tb, t_tn, t_ts, t_it, t_il, t_ii, t_ib, t_in, t_is, t_bt, t_bl, t_bi, t_bb, t_bn, t_bs, t_st, t_sl, t_si, t_sb, t_sn, t_ss, r_none, r_bool, r_int, r_list, r_tup, f_d, st_m, pl_n, pl_0, pl_1, m_app, m_pop, tof_s, bt_v, sw_c, sw_n, ag_a])) (x_stop (x_ret (by simp [evalE, evalEs, evalB, evalIt, evalS, evalSs, evalTg, allB, allI, deref_d, deref_m, derefR_d, derefR_m, derefR_r, db_len, db_abs, db_int, db_all, db_any, db_sum, db_tuple, db_list, db_max, db_min, db_gcd, db_isi, derefs_nil, derefs_cons, plain_nil, plain_d, give_f, give_t, p_add, p_addT, p_addL, p_sub, p_mul, p_fdiv, p_mod, p_pow, p_lt, p_le, p_gt, p_ge, p_ixL, p_ixT, at_0, at_1, at_2, at_n, p_eqI, p_neI, s_nn, s_bb, s_in, s_bn, s_tn, s_ln, s_sn, s_nb, s_ib, s_tb, s_lb, s_sb, p_is, p_isn, q_lenL, q_lenT, q_abs, q_int, q_intb, q_all, q_any, q_sum, q_tupL, q_tupT, q_lstL, q_lstT, q_max, q_min, q_gcd, q_isi, t_tt, t_tl, t_ti, t_tb, t_tn, t_ts, t_it, t_il, t_ii, t_ib, t_in, t_is, t_bt, t_bl, t_bi, t_bb, t_bn, t_bs, t_st, t_sl, t_si, t_sb, t_sn, t_ss, r_none, r_bool, r_int, r_list, r_tup, f_d, st_m, pl_n, pl_0, pl_1, m_app, m_pop, tof_s, bt_v, sw_c, sw_n, ag_a]))))))))
abbrev lkNot (i : Nat) : E := .not (.call i (.cons (.op2 false .ix (.var 0) (.var 2)) (.cons (.op2 false .ix (.var 1) (.var 2)) .nil)))
abbrev lkComp (i : Nat) : E := .comp false [2] (.v 2) (.rng (.cons (.blt false .len (.cons (.var 1) .nil)) .nil)) (lkNot i) (.lit (.int 1))
theorem like_turn (k : Nat) {j : Nat} {x : PyData} {acc : List PyData} (hg : xs[j]? = some x) (hr : callF fs G wf k i [.d x, .d x] M = some (.d (.bool true), M)) :
    tc (callF fs G wf k) G wf [2] (.v 2) (lkNot i) (.lit (.int 1)) [some (.d (.tuple xs)), some (.d (.tuple xs)), none] (.int (j : Nat)) acc M = some (acc, M) := by
  have ht : testOf (evalE (callF fs G wf k) G wf (lkNot i) [some (.d (.tuple xs)), some (.d (.tuple xs)), some (.d (.int (j : Nat)))] M) = some (false, M) := by simp [evalE, evalEs, evalB, evalIt, evalS, evalSs, evalTg, allB, allI, deref_d, deref_m, derefR_d, derefR_m, derefR_r, db_len, db_abs, db_int, db_all, db_any, db_sum, db_tuple, db_list, db_max, db_min, db_gcd, db_isi, derefs_nil, derefs_cons, plain_nil, plain_d, give_f, give_t, p_add, p_addT, p_addL, p_sub, p_mul, p_fdiv, p_mod, p_pow, p_lt, p_le, p_gt, p_ge, p_ixL, p_ixT, at_0, at_1, at_2, at_n, p_eqI, p_neI, s_nn, s_bb, s_in, s_bn, s_tn, s_ln, s_sn, s_nb, s_ib, s_tb, s_lb, s_sb, p_is, p_isn, q_lenL, q_lenT, q_abs, q_int, q_intb, q_all, q_any, q_sum, q_tupL, q_tupT, q_lstL, q_lstT, q_max, q_min, q_gcd, q_isi, t_tt, t_tl, t_ti, t_tb, t_tn, t_ts, t_it, t_il, t_ii, t_ib, t_in, t_is, t_bt, t_bl, t_bi, t_bb, t_bn, t_bs, t_st, t_sl, t_si, t_sb, t_sn, t_ss, r_none, r_bool, r_int, r_list, r_tup, f_d, st_m, pl_n, pl_0, pl_1, m_app, m_pop, tof_s, bt_v, sw_c, sw_n, ag_a, lkNot, hg, hr]
  show (match testOf (evalE (callF fs G wf k) G wf (lkNot i) [some (.d (.tuple xs)), some (.d (.tuple xs)), some (.d (.int (j : Nat)))] M) with
    | some (true, M2) => _
    | some (false, M2) => some (acc, M2)
    | none => none) = _
  rw [ht]
theorem rng_1 {j : Int} (h : small62 j = true) : rngOf [.int j] = some (irng 0 1 j.toNat) := if_pos h
theorem rng_2 {i j : Int} (h : small62 i = true) (h2 : small62 j = true) : rngOf [.int i, .int j] = some (irng i 1 (j - i).toNat) := if_pos ⟨h, h2⟩
theorem rng_n {n : Nat} (hl : n < 1000000) : rngOf [.int (n : Int)] = some (irng 0 1 n) := by
  have := rng_1 (small_len hl)
  rw [Int.toNat_natCast] at this
  exact this
theorem x_rng {cf : Nat → List W → Mem → Option (W × Mem)} {es : Es} {ρ : Loc} {M M1 : Mem} {ws : List W} {l ys : List PyData} (h1 : evalEs cf G wf es ρ M = some (ws, M1)) (h2 : plain ws = some l) (h3 : rngOf l = some ys) : evalIt cf G wf (.rng es) ρ M = some (.its ys, M1) := by
  simp only [evalIt, h1, h2, h3]
theorem like_rng (k : Nat) (hl : xs.length < 1000000) : evalIt (callF fs G wf k) G wf (.rng (.cons (.blt false .len (.cons (.var 1) .nil)) .nil)) [some (.d (.tuple xs)), some (.d (.tuple xs)), none] M = some (.its (irng 0 1 xs.length), M) := by
  have h2 : evalEs (callF fs G wf k) G wf (.cons (.blt false .len (.cons (.var 1) .nil)) .nil) [some (.d (.tuple xs)), some (.d (.tuple xs)), none] M = some ([.d (.int (xs.length : Int))], M) := by simp [evalE, evalEs, evalB, evalIt, evalS, evalSs, evalTg, allB, allI, deref_d, deref_m, derefR_d, derefR_m, derefR_r, db_len, db_abs, db_int, db_all, db_any, db_sum, db_tuple, db_list, db_max, db_min, db_gcd, db_isi, derefs_nil, derefs_cons, plain_nil, plain_d, give_f, give_t, p_add, p_addT, p_addL, p_sub, p_mul, p_fdiv, p_mod, p_pow, p_lt, p_le, p_gt, p_ge, p_ixL, p_ixT, at_0, at_1, at_2, at_n, p_eqI, p_neI, s_nn, s_bb, s_in, s_bn, s_tn, s_ln, s_sn, s_nb, s_ib, s_tb, s_lb, s_sb, p_is, p_isn, q_lenL, q_lenT, q_abs, q_int, q_intb, q_all, q_any, q_sum, q_tupL, q_tupT, q_lstL, q_lstT, q_max, q_min, q_gcd, q_isi, t_tt, t_tl, t_ti, t_tb, t_tn, t_ts, t_it, t_il, t_ii, t_ib, t_in, t_is, t_bt, t_bl, t_bi, t_bb, t_bn, t_bs, t_st, t_sl, t_si, t_sb, t_sn, t_ss, r_none, r_bool, r_int, r_list, r_tup, f_d, st_m, pl_n, pl_0, pl_1, m_app, m_pop, tof_s, bt_v, sw_c, sw_n, ag_a]
  have h3 : plain [.d (.int (xs.length : Int))] = some [.int (xs.length : Int)] := by rw [plain_d, plain_nil, Option.map_some]
  exact x_rng h2 h3 (rng_n hl)
theorem like_tup (h : fs[i]? = some (lLike i)) (hl : xs.length < 1000000) (hx : ∀ (j : Nat) (x : PyData), xs[j]? = some x → callF fs G wf k i [.d x, .d x] M = some (.d (.bool true), M)) : callF fs G wf (k + 1) i [.d (.tuple xs), .d (.tuple xs)] M = some (.d (.bool true), M) := by
  have hc : compL (tc (callF fs G wf k) G wf [2] (.v 2) (lkNot i) (.lit (.int 1)) [some (.d (.tuple xs)), some (.d (.tuple xs)), none]) (irng 0 1 xs.length) [] M = some ([], M) := by
    refine compL_all fun x hm acc => ?_
    obtain ⟨j, hj⟩ := List.getElem?_of_mem hm
    obtain ⟨rfl, hlt⟩ := irng_at hj
    have hg : xs[j]? = some xs[j] := List.getElem?_eq_getElem hlt
    exact like_turn k hg (hx j _ hg)
  have hcomp : evalE (callF fs G wf k) G wf (lkComp i) [some (.d (.tuple xs)), some (.d (.tuple xs)), none] M = some (.d (.list []), M) := x_comp (like_rng k hl) hc rfl
  have he : evalE (callF fs G wf k) G wf (.op2 false .eq (lkComp i) (.lst false .nil)) [some (.d (.tuple xs)), some (.d (.tuple xs)), none] M = some (.d (.bool true), M) := by
    have hn := eq_nil
    have hL : evalE (callF fs G wf k) G wf (.lst false .nil) [some (.d (.tuple xs)), some (.d (.tuple xs)), none] M = some (.d (.list []), M) := by simp [evalE, evalEs, evalB, evalIt, evalS, evalSs, evalTg, allB, allI, deref_d, deref_m, derefR_d, derefR_m, derefR_r, db_len, db_abs, db_int, db_all, db_any, db_sum, db_tuple, db_list, db_max, db_min, db_gcd, db_isi, derefs_nil, derefs_cons, plain_nil, plain_d, give_f, give_t, p_add, p_addT, p_addL, p_sub, p_mul, p_fdiv, p_mod, p_pow, p_lt, p_le, p_gt, p_ge, p_ixL, p_ixT, at_0, at_1, at_2, at_n, p_eqI, p_neI, s_nn, s_bb, s_in, s_bn, s_tn, s_ln, s_sn, s_nb, s_ib, s_tb, s_lb, s_sb, p_is, p_isn, q_lenL, q_lenT, q_abs, q_int, q_intb, q_all, q_any, q_sum, q_tupL, q_tupT, q_lstL, q_lstT, q_max, q_min, q_gcd, q_isi, t_tt, t_tl, t_ti, t_tb, t_tn, t_ts, t_it, t_il, t_ii, t_ib, t_in, t_is, t_bt, t_bl, t_bi, t_bb, t_bn, t_bs, t_st, t_sl, t_si, t_sb, t_sn, t_ss, r_none, r_bool, r_int, r_list, r_tup, f_d, st_m, pl_n, pl_0, pl_1, m_app, m_pop, tof_s, bt_v, sw_c, sw_n, ag_a]
    rw [evalE, hcomp]
    dsimp only
    rw [hL]
    simp only [deref_d, if_neg (show ¬ (P2.eq = P2.ix) by decide), hn, give_f]
  exact like_go h (x_stop (x_ifT (M1 := M) (by simp [evalE, evalEs, evalB, evalIt, evalS, evalSs, evalTg, allB, allI, deref_d, deref_m, derefR_d, derefR_m, derefR_r, db_len, db_abs, db_int, db_all, db_any, db_sum, db_tuple, db_list, db_max, db_min, db_gcd, db_isi, derefs_nil, derefs_cons, plain_nil, plain_d, give_f, give_t, p_add, p_addT, p_addL, p_sub, p_mul, p_fdiv, p_mod, p_pow, p_lt, p_le, p_gt, p_ge, p_ixL, p_ixT, at_0, at_1, at_2, at_n, p_eqI, p_neI, s_nn, s_bb, s_in, s_bn, s_tn, s_ln, s_sn, s_nb, s_ib, s_tb, s_lb, s_sb, p_is, p_isn, q_lenL, q_lenT, q_abs, q_int, q_intb, q_all, q_any, q_sum, q_tupL, q_tupT, q_lstL, q_lstT, q_max, q_min, q_gcd, q_isi, t_tt, t_tl, t_ti, t_tb, t_tn, t_ts, t_it, t_il, t_ii, t_ib, t_in, t_is, t_bt, t_bl, t_bi, t_bb, t_bn, t_bs, t_st, t_sl, t_si, t_sb, t_sn, t_ss, r_none, r_bool, r_int, r_list, r_tup, f_d, st_m, pl_n, pl_0, pl_1, m_app, m_pop, tof_s, bt_v, sw_c, sw_n, ag_a]) (x_cons (x_ifF (M1 := M) (by simp [evalE, evalEs, evalB, evalIt, evalS, evalSs, evalTg, allB, allI, deref_d, deref_m, derefR_d, derefR_m, derefR_r, db_len, db_abs, db_int, db_all, db_any, db_sum, db_tuple, db_list, db_max, db_min, db_gcd, db_isi, derefs_nil, derefs_cons, plain_nil, plain_d, give_f, give_t, p_add, p_addT, p_addL, p_sub, p_mul, p_fdiv, p_mod, p_pow, p_lt, p_le, p_gt, p_ge, p_ixL, p_ixT, at_0, at_1, at_2, at_n, p_eqI, p_neI, s_nn, s_bb, s_in, s_bn, s_tn, s_ln, s_sn, s_nb, s_ib, s_tb, s_lb, s_sb, p_is, p_isn, q_lenL, q_lenT, q_abs, q_int, q_intb, q_all, q_any, q_sum, q_tupL, q_tupT, q_lstL, q_lstT, q_max, q_min, q_gcd, q_isi, t_tt, t_tl, t_ti, t_tb, t_tn, t_ts, t_it, t_il, t_ii, t_ib, t_in, t_is, t_bt, t_bl, t_bi, t_bb, t_bn, t_bs, t_st, t_sl, t_si, t_sb, t_sn, t_ss, r_none, r_bool, r_int, r_list, r_tup, f_d, st_m, pl_n, pl_0, pl_1, m_app, m_pop, tof_s, bt_v, sw_c, sw_n, ag_a])) (x_stop (x_ret he)))))
end
theorem like_refl {i : Nat} (h : fs[i]? = some (lLike i)) (M : Mem) : ∀ (n k : Nat) (d : PyData), Lk n d → n ≤ k → callF fs G wf (k + 1) i [.d d, .d d] M = some (.d (.bool true), M)
  | n, k, _, .none, _ => like_none h
  | n, k, _, .bool true, _ => like_true h
  | n, k, _, .bool false, _ => like_false h
  | n, k, _, .int j, _ => like_int h j
  | n + 1, k, _, .tup hl hx, hk => like_tup h hl fun j x hj => by
    obtain ⟨k', rfl⟩ : ∃ k', k = k' + 1 := ⟨k - 1, by omega⟩
    exact like_refl h M n k' x (hx j x hj) (by omega)
end
end EV

/-! EvO: gcd, ratios. -/
namespace EV
open PySem
/-! ### plain -/
theorem gsplit {a b : Int} (hb : b ≠ 0) : ∃ (g : Nat) (a' b' : Int), 0 < g ∧ a = g * a' ∧ b = g * b' ∧ Nat.gcd a.natAbs b.natAbs = g ∧ Nat.gcd a'.natAbs b'.natAbs = 1 := by
  have hg : 0 < Nat.gcd a.natAbs b.natAbs := Nat.gcd_pos_of_pos_right _ (Int.natAbs_pos.mpr hb)
  obtain ⟨a', ha⟩ : ((Nat.gcd a.natAbs b.natAbs : Nat) : Int) ∣ a := Int.ofNat_dvd_left.mpr (Nat.gcd_dvd_left _ _)
  obtain ⟨b', hb'⟩ : ((Nat.gcd a.natAbs b.natAbs : Nat) : Int) ∣ b := Int.ofNat_dvd_left.mpr (Nat.gcd_dvd_right _ _)
  refine ⟨_, a', b', hg, ha, hb', rfl, ?_⟩
  generalize hG : Nat.gcd a.natAbs b.natAbs = g at *
  have e1 : a.natAbs = g * a'.natAbs := by rw [ha, Int.natAbs_mul]; simp
  have e2 : b.natAbs = g * b'.natAbs := by rw [hb', Int.natAbs_mul]; simp
  rw [e1, e2, Nat.gcd_mul_left] at hG
  exact Nat.eq_of_mul_eq_mul_left hg (by rw [hG, Nat.mul_one])
def rn (a b : Int) : Int := if 0 < b then a / (Nat.gcd a.natAbs b.natAbs : Nat) else (-a) / (Nat.gcd a.natAbs b.natAbs : Nat)
def rd (a b : Int) : Int := if 0 < b then b / (Nat.gcd a.natAbs b.natAbs : Nat) else (-b) / (Nat.gcd a.natAbs b.natAbs : Nat)
abbrev pr (a b : Int) : PyData := .tuple [.int a, .int b]
abbrev rat (a b : Int) : PyData := pr (rn a b) (rd a b)
theorem rat_facts {a b : Int} (hb : b ≠ 0) : 1 ≤ rd a b ∧ Nat.gcd (rn a b).natAbs (rd a b).natAbs = 1 ∧ (rn a b).natAbs ≤ a.natAbs ∧ (rd a b).natAbs ≤ b.natAbs ∧ rn a b * b = a * rd a b := by
  obtain ⟨g, a', b', hg, ha, hb', e, h1⟩ := gsplit (a := a) hb
  have hgI : (0 : Int) < g := by omega
  have hn : ∀ x : Int, ((g : Int) * x) / g = x := fun x => Int.mul_ediv_cancel_left x (by omega)
  have hm : ∀ x : Int, (-((g : Int) * x)) / g = -x := fun x => by rw [show -((g : Int) * x) = g * (-x) by rw [Int.mul_neg]]; exact hn _
  have na : a.natAbs = g * a'.natAbs := by rw [ha, Int.natAbs_mul]; simp
  have nb : b.natAbs = g * b'.natAbs := by rw [hb', Int.natAbs_mul]; simp
  have l1 : a'.natAbs ≤ a.natAbs := by rw [na]; exact Nat.le_mul_of_pos_left _ hg
  have l2 : b'.natAbs ≤ b.natAbs := by rw [nb]; exact Nat.le_mul_of_pos_left _ hg
  unfold rn rd
  rw [e]
  by_cases hp : 0 < b
  · rw [if_pos hp, if_pos hp, ha, hb', hn, hn]
    have hb0 : 0 < b' := by rw [hb'] at hp; exact Int.pos_of_mul_pos_right hp hgI
    refine ⟨by omega, h1, by rw [← ha]; exact l1, by rw [← hb']; exact l2, by grind⟩
  · rw [if_neg hp, if_neg hp, ha, hb', hm, hm, Int.natAbs_neg, Int.natAbs_neg]
    have hlt : b < 0 := by omega
    have hb0 : b' < 0 := by
      rw [hb'] at hlt
      rcases Int.lt_trichotomy b' 0 with h | h | h
      · exact h
      · rw [h] at hlt; simp at hlt
      · have := Int.mul_pos hgI h; omega
    refine ⟨by omega, h1, by rw [← ha]; exact l1, by rw [← hb']; exact l2, by grind⟩
theorem rat_div {a b : Int} (hb : b ≠ 0) : rn a b = a.fdiv (if b < 0 then -(Nat.gcd a.natAbs b.natAbs : Nat) else (Nat.gcd a.natAbs b.natAbs : Nat)) ∧ rd a b = b.fdiv (if b < 0 then -(Nat.gcd a.natAbs b.natAbs : Nat) else (Nat.gcd a.natAbs b.natAbs : Nat)) := by
  obtain ⟨g, a', b', hg, ha, hb', e, h1⟩ := gsplit (a := a) hb
  have hn : ∀ x : Int, ((g : Int) * x) / g = x := fun x => Int.mul_ediv_cancel_left x (by omega)
  have hm : ∀ x : Int, (-((g : Int) * x)) / g = -x := fun x => by rw [show -((g : Int) * x) = g * (-x) by rw [Int.mul_neg]]; exact hn _
  have hf : ∀ x : Int, ((g : Int) * x).fdiv g = x := fun x => Int.mul_fdiv_cancel_left x (by omega)
  have hk : ∀ x : Int, ((g : Int) * x).fdiv (-(g : Int)) = -x := fun x => by rw [show (g : Int) * x = -(g : Int) * (-x) by rw [Int.neg_mul_neg]]; exact Int.mul_fdiv_cancel_left _ (by omega)
  unfold rn rd
  rw [e]
  by_cases hp : 0 < b
  · rw [if_pos hp, if_pos hp, if_neg (by omega)]
    constructor
    · rw [ha, hn, hf]
    · rw [hb', hn, hf]
  · rw [if_neg hp, if_neg hp, if_pos (by omega)]
    constructor
    · rw [ha, hm, hk]
    · rw [hb', hm, hk]
/-! ### the defs -/
/-- the program's ratio -/
def pRatio : Fn := ⟨2, 3,
  (.cons (.asg 2 (.blt false .gcd (.cons (.var 0) (.cons (.var 1) .nil))))
  (.cons (.ife (.op2 false .lt (.var 1) (.lit (.int 0)))
   (.cons (.asg 2 (.neg (.var 2)))
   .nil)
   .nil)
  (.cons (.ret (.tup (.cons (.op2 false .fdiv (.var 0) (.var 2)) (.cons (.op2 false .fdiv (.var 1) (.var 2)) .nil))))
  .nil)))⟩
section
variable {fs : List Fn} {G : List PyData} {wf : Nat} {cf : Nat → List W → Mem → Option (W × Mem)} {M : Mem}
theorem gcd_loop : ∀ (n a b : Nat), b < n → whileL (fun ρ M => testOf (evalE cf G wf (.op2 false .ne (.var 1) (.lit (.int 0))) ρ M)) (fun ρ M => evalSs cf G wf (.cons (.par [0, 1] (.cons (.var 1) (.cons (.op2 false .mod (.blt false .int (.cons (.var 0) .nil)) (.var 1)) .nil))) .nil) ρ M) n [some (.d (.int (a : Nat))), some (.d (.int (b : Nat)))] M =
    some (.nx [some (.d (.int (Nat.gcd a b : Nat))), some (.d (.int 0))] M)
  | 0, a, b, h => by omega
  | n + 1, a, b, h => by
    have ht : testOf (evalE cf G wf (.op2 false .ne (.var 1) (.lit (.int 0))) [some (.d (.int (a : Nat))), some (.d (.int (b : Nat)))] M) = some (decide (b ≠ 0), M) := by simp [evalE, evalEs, evalB, evalIt, evalS, evalSs, evalTg, allB, allI, deref_d, deref_m, derefR_d, derefR_m, derefR_r, db_len, db_abs, db_int, db_all, db_any, db_sum, db_tuple, db_list, db_max, db_min, db_gcd, db_isi, derefs_nil, derefs_cons, plain_nil, plain_d, give_f, give_t, p_add, p_addT, p_addL, p_sub, p_mul, p_fdiv, p_mod, p_pow, p_lt, p_le, p_gt, p_ge, p_ixL, p_ixT, at_0, at_1, at_2, at_n, p_eqI, p_neI, s_nn, s_bb, s_in, s_bn, s_tn, s_ln, s_sn, s_nb, s_ib, s_tb, s_lb, s_sb, p_is, p_isn, q_lenL, q_lenT, q_abs, q_int, q_intb, q_all, q_any, q_sum, q_tupL, q_tupT, q_lstL, q_lstT, q_max, q_min, q_gcd, q_isi, t_tt, t_tl, t_ti, t_tb, t_tn, t_ts, t_it, t_il, t_ii, t_ib, t_in, t_is, t_bt, t_bl, t_bi, t_bb, t_bn, t_bs, t_st, t_sl, t_si, t_sb, t_sn, t_ss, r_none, r_bool, r_int, r_list, r_tup, f_d, st_m, pl_n, pl_0, pl_1, m_app, m_pop, tof_s, bt_v, sw_c, sw_n, ag_a]
    unfold whileL
    rw [ht]
    by_cases hb : b = 0
    · subst hb
      simp
    · have hm : evalSs cf G wf (.cons (.par [0, 1] (.cons (.var 1) (.cons (.op2 false .mod (.blt false .int (.cons (.var 0) .nil)) (.var 1)) .nil))) .nil) [some (.d (.int (a : Nat))), some (.d (.int (b : Nat)))] M = some (.nx [some (.d (.int (b : Nat))), some (.d (.int ((a % b : Nat) : Int)))] M) := by
        have e : (a : Int).fmod b = ((a % b : Nat) : Int) := by rw [Int.fmod_eq_emod_of_nonneg _ (by omega)]; rfl
        simp [evalE, evalEs, evalB, evalIt, evalS, evalSs, evalTg, allB, allI, deref_d, deref_m, derefR_d, derefR_m, derefR_r, db_len, db_abs, db_int, db_all, db_any, db_sum, db_tuple, db_list, db_max, db_min, db_gcd, db_isi, derefs_nil, derefs_cons, plain_nil, plain_d, give_f, give_t, p_add, p_addT, p_addL, p_sub, p_mul, p_fdiv, p_mod, p_pow, p_lt, p_le, p_gt, p_ge, p_ixL, p_ixT, at_0, at_1, at_2, at_n, p_eqI, p_neI, s_nn, s_bb, s_in, s_bn, s_tn, s_ln, s_sn, s_nb, s_ib, s_tb, s_lb, s_sb, p_is, p_isn, q_lenL, q_lenT, q_abs, q_int, q_intb, q_all, q_any, q_sum, q_tupL, q_tupT, q_lstL, q_lstT, q_max, q_min, q_gcd, q_isi, t_tt, t_tl, t_ti, t_tb, t_tn, t_ts, t_it, t_il, t_ii, t_ib, t_in, t_is, t_bt, t_bl, t_bi, t_bb, t_bn, t_bs, t_st, t_sl, t_si, t_sb, t_sn, t_ss, r_none, r_bool, r_int, r_list, r_tup, f_d, st_m, pl_n, pl_0, pl_1, m_app, m_pop, tof_s, bt_v, sw_c, sw_n, ag_a, hb, e]
      rw [decide_eq_true (show b ≠ 0 from hb)]
      dsimp only
      rw [hm]
      dsimp only
      rw [gcd_loop n b (a % b) (by have := Nat.mod_lt a (Nat.pos_of_ne_zero hb); omega), Nat.gcd_comm b, ← Nat.gcd_rec, Nat.gcd_comm]
theorem gcd_eq {g k : Nat} (h : fs[g]? = some lGcd) (a b : Nat) (hb : b < wf) : callF fs G wf (k + 1) g [.d (.int (a : Nat)), .d (.int (b : Nat))] M = some (.d (.int (Nat.gcd a b : Nat)), M) := by
  have h1 : evalS (callF fs G wf k) G wf (.whl (.op2 false .ne (.var 1) (.lit (.int 0))) (.cons (.par [0, 1] (.cons (.var 1) (.cons (.op2 false .mod (.blt false .int (.cons (.var 0) .nil)) (.var 1)) .nil))) .nil)) [some (.d (.int (a : Nat))), some (.d (.int (b : Nat)))] M = some (.nx [some (.d (.int (Nat.gcd a b : Nat))), some (.d (.int 0))] M) := by
    rw [evalS]; exact gcd_loop wf a b hb
  rw [x_fin (x := .int (Nat.gcd a b : Nat)) (M1 := M) h rfl (x_cons h1 (x_stop (x_ret (by simp [evalE, evalEs, evalB, evalIt, evalS, evalSs, evalTg, allB, allI, deref_d, deref_m, derefR_d, derefR_m, derefR_r, db_len, db_abs, db_int, db_all, db_any, db_sum, db_tuple, db_list, db_max, db_min, db_gcd, db_isi, derefs_nil, derefs_cons, plain_nil, plain_d, give_f, give_t, p_add, p_addT, p_addL, p_sub, p_mul, p_fdiv, p_mod, p_pow, p_lt, p_le, p_gt, p_ge, p_ixL, p_ixT, at_0, at_1, at_2, at_n, p_eqI, p_neI, s_nn, s_bb, s_in, s_bn, s_tn, s_ln, s_sn, s_nb, s_ib, s_tb, s_lb, s_sb, p_is, p_isn, q_lenL, q_lenT, q_abs, q_int, q_intb, q_all, q_any, q_sum, q_tupL, q_tupT, q_lstL, q_lstT, q_max, q_min, q_gcd, q_isi, t_tt, t_tl, t_ti, t_tb, t_tn, t_ts, t_it, t_il, t_ii, t_ib, t_in, t_is, t_bt, t_bl, t_bi, t_bb, t_bn, t_bs, t_st, t_sl, t_si, t_sb, t_sn, t_ss, r_none, r_bool, r_int, r_list, r_tup, f_d, st_m, pl_n, pl_0, pl_1, m_app, m_pop, tof_s, bt_v, sw_c, sw_n, ag_a])))), List.take_length]
theorem ratio_eq {i g k n : Nat} (h : fs[i]? = some (lRatio g)) (hg : fs[g]? = some lGcd) {a b : Int} (hb : 0 < b) (hw : b.natAbs < wf) (hs : sm n b) (hn : n < 9000) : callF fs G wf (k + 2) i [.d (.int a), .d (.int b)] M = some (.d (rat a b), M) := by
  obtain ⟨d1, d2⟩ := rat_div (a := a) (b := b) (by omega)
  rw [if_neg (by omega)] at d1 d2
  have hg0 : 0 < Nat.gcd a.natAbs b.natAbs := Nat.gcd_pos_of_pos_right _ (by omega)
  have hle : Nat.gcd a.natAbs b.natAbs ≤ b.natAbs := Nat.gcd_le_right _ (by omega)
  have sg : sm n (Nat.gcd a.natAbs b.natAbs : Nat) := hs.le (by simpa using hle)
  have ea : (if a < 0 then -a else a) = (a.natAbs : Int) := by split <;> omega
  have eb : b = (b.natAbs : Int) := by omega
  have ec : callF fs G wf (k + 1) g [.d (.int (a.natAbs : Nat)), .d (.int b)] M = some (.d (.int (Nat.gcd a.natAbs b.natAbs : Nat)), M) := by
    have := gcd_eq (G := G) (wf := wf) (M := M) (k := k) hg a.natAbs b.natAbs hw
    rwa [← eb] at this
  have dv1 : Builtin.divisionGoesByPylong a (Nat.gcd a.natAbs b.natAbs : Nat) = false := sg.div hn
  have dv2 : Builtin.divisionGoesByPylong b (Nat.gcd a.natAbs b.natAbs : Nat) = false := sg.div hn
  have hz : 2 ≤ sizeLine := by decide
  have s1 : evalS (callF fs G wf (k + 1)) G wf (.asg 2 (.call g (.cons (.blt false .abs (.cons (.var 0) .nil)) (.cons (.var 1) .nil)))) [some (.d (.int a)), some (.d (.int b)), none] M = some (.nx [some (.d (.int a)), some (.d (.int b)), some (.d (.int (Nat.gcd a.natAbs b.natAbs : Nat)))] M) := by
    simp only [evalE, evalEs, evalB, evalIt, evalS, evalSs, evalTg, allB, allI, deref_d, deref_m, derefR_d, derefR_m, derefR_r, db_len, db_abs, db_int, db_all, db_any, db_sum, db_tuple, db_list, db_max, db_min, db_gcd, db_isi, derefs_nil, derefs_cons, plain_nil, plain_d, give_f, give_t, p_add, p_addT, p_addL, p_sub, p_mul, p_fdiv, p_mod, p_pow, p_lt, p_le, p_gt, p_ge, p_ixL, p_ixT, at_0, at_1, at_2, at_n, p_eqI, p_neI, s_nn, s_bb, s_in, s_bn, s_tn, s_ln, s_sn, s_nb, s_ib, s_tb, s_lb, s_sb, p_is, p_isn, q_lenL, q_lenT, q_abs, q_int, q_intb, q_all, q_any, q_sum, q_tupL, q_tupT, q_lstL, q_lstT, q_max, q_min, q_gcd, q_isi, t_tt, t_tl, t_ti, t_tb, t_tn, t_ts, t_it, t_il, t_ii, t_ib, t_in, t_is, t_bt, t_bl, t_bi, t_bb, t_bn, t_bs, t_st, t_sl, t_si, t_sb, t_sn, t_ss, r_none, r_bool, r_int, r_list, r_tup, f_d, st_m, pl_n, pl_0, pl_1, m_app, m_pop, tof_s, bt_v, sw_c, sw_n, ag_a, List.getElem?_cons_zero, List.getElem?_cons_succ, ea, ec]
    rfl
  have s2 : evalE (callF fs G wf (k + 1)) G wf (.tup (.cons (.op2 false .fdiv (.var 0) (.var 2)) (.cons (.op2 false .fdiv (.var 1) (.var 2)) .nil))) [some (.d (.int a)), some (.d (.int b)), some (.d (.int (Nat.gcd a.natAbs b.natAbs : Nat)))] M = some (.d (rat a b), M) := by
    have ne : Nat.gcd a.natAbs b.natAbs ≠ 0 := by omega
    unfold rat pr
    rw [d1, d2]
    generalize Nat.gcd a.natAbs b.natAbs = q at *
    simp [evalE, evalEs, evalB, evalIt, evalS, evalSs, evalTg, allB, allI, deref_d, deref_m, derefR_d, derefR_m, derefR_r, db_len, db_abs, db_int, db_all, db_any, db_sum, db_tuple, db_list, db_max, db_min, db_gcd, db_isi, derefs_nil, derefs_cons, plain_nil, plain_d, give_f, give_t, p_add, p_addT, p_addL, p_sub, p_mul, p_fdiv, p_mod, p_pow, p_lt, p_le, p_gt, p_ge, p_ixL, p_ixT, at_0, at_1, at_2, at_n, p_eqI, p_neI, s_nn, s_bb, s_in, s_bn, s_tn, s_ln, s_sn, s_nb, s_ib, s_tb, s_lb, s_sb, p_is, p_isn, q_lenL, q_lenT, q_abs, q_int, q_intb, q_all, q_any, q_sum, q_tupL, q_tupT, q_lstL, q_lstT, q_max, q_min, q_gcd, q_isi, t_tt, t_tl, t_ti, t_tb, t_tn, t_ts, t_it, t_il, t_ii, t_ib, t_in, t_is, t_bt, t_bl, t_bi, t_bb, t_bn, t_bs, t_st, t_sl, t_si, t_sb, t_sn, t_ss, r_none, r_bool, r_int, r_list, r_tup, f_d, st_m, pl_n, pl_0, pl_1, m_app, m_pop, tof_s, bt_v, sw_c, sw_n, ag_a, dv1, dv2, ne, hz]
  rw [x_fin h rfl (x_cons s1 (x_stop (x_ret s2))), List.take_length]
theorem pratio_eq {i k n : Nat} (h : fs[i]? = some pRatio) {a b : Int} (hb : b ≠ 0) (hs : sm n b) (hn : n < 9000) : callF fs G wf (k + 1) i [.d (.int a), .d (.int b)] M = some (.d (rat a b), M) := by
  obtain ⟨d1, d2⟩ := rat_div (a := a) (b := b) hb
  have hg0 : 0 < Nat.gcd a.natAbs b.natAbs := Nat.gcd_pos_of_pos_right _ (by omega)
  have hle : Nat.gcd a.natAbs b.natAbs ≤ b.natAbs := Nat.gcd_le_right _ (by omega)
  have sg : sm n (Nat.gcd a.natAbs b.natAbs : Nat) := hs.le (by simpa using hle)
  have hz : 2 ≤ sizeLine := by decide
  have s1 : evalS (callF fs G wf k) G wf (.asg 2 (.blt false .gcd (.cons (.var 0) (.cons (.var 1) .nil)))) [some (.d (.int a)), some (.d (.int b)), none] M = some (.nx [some (.d (.int a)), some (.d (.int b)), some (.d (.int (Nat.gcd a.natAbs b.natAbs : Nat)))] M) := by
    simp [evalE, evalEs, evalB, evalIt, evalS, evalSs, evalTg, allB, allI, deref_d, deref_m, derefR_d, derefR_m, derefR_r, db_len, db_abs, db_int, db_all, db_any, db_sum, db_tuple, db_list, db_max, db_min, db_gcd, db_isi, derefs_nil, derefs_cons, plain_nil, plain_d, give_f, give_t, p_add, p_addT, p_addL, p_sub, p_mul, p_fdiv, p_mod, p_pow, p_lt, p_le, p_gt, p_ge, p_ixL, p_ixT, at_0, at_1, at_2, at_n, p_eqI, p_neI, s_nn, s_bb, s_in, s_bn, s_tn, s_ln, s_sn, s_nb, s_ib, s_tb, s_lb, s_sb, p_is, p_isn, q_lenL, q_lenT, q_abs, q_int, q_intb, q_all, q_any, q_sum, q_tupL, q_tupT, q_lstL, q_lstT, q_max, q_min, q_gcd, q_isi, t_tt, t_tl, t_ti, t_tb, t_tn, t_ts, t_it, t_il, t_ii, t_ib, t_in, t_is, t_bt, t_bl, t_bi, t_bb, t_bn, t_bs, t_st, t_sl, t_si, t_sb, t_sn, t_ss, r_none, r_bool, r_int, r_list, r_tup, f_d, st_m, pl_n, pl_0, pl_1, m_app, m_pop, tof_s, bt_v, sw_c, sw_n, ag_a]
  unfold rat pr
  rw [d1, d2]
  generalize Nat.gcd a.natAbs b.natAbs = q at *
  have fin : ∀ z : Int, z ≠ 0 → sm n z → evalE (callF fs G wf k) G wf (.tup (.cons (.op2 false .fdiv (.var 0) (.var 2)) (.cons (.op2 false .fdiv (.var 1) (.var 2)) .nil))) [some (.d (.int a)), some (.d (.int b)), some (.d (.int z))] M = some (.d (.tuple [.int (a.fdiv z), .int (b.fdiv z)]), M) := fun z hz0 sz => by
    have dv1 : Builtin.divisionGoesByPylong a z = false := sz.div hn
    have dv2 : Builtin.divisionGoesByPylong b z = false := sz.div hn
    simp [evalE, evalEs, evalB, evalIt, evalS, evalSs, evalTg, allB, allI, deref_d, deref_m, derefR_d, derefR_m, derefR_r, db_len, db_abs, db_int, db_all, db_any, db_sum, db_tuple, db_list, db_max, db_min, db_gcd, db_isi, derefs_nil, derefs_cons, plain_nil, plain_d, give_f, give_t, p_add, p_addT, p_addL, p_sub, p_mul, p_fdiv, p_mod, p_pow, p_lt, p_le, p_gt, p_ge, p_ixL, p_ixT, at_0, at_1, at_2, at_n, p_eqI, p_neI, s_nn, s_bb, s_in, s_bn, s_tn, s_ln, s_sn, s_nb, s_ib, s_tb, s_lb, s_sb, p_is, p_isn, q_lenL, q_lenT, q_abs, q_int, q_intb, q_all, q_any, q_sum, q_tupL, q_tupT, q_lstL, q_lstT, q_max, q_min, q_gcd, q_isi, t_tt, t_tl, t_ti, t_tb, t_tn, t_ts, t_it, t_il, t_ii, t_ib, t_in, t_is, t_bt, t_bl, t_bi, t_bb, t_bn, t_bs, t_st, t_sl, t_si, t_sb, t_sn, t_ss, r_none, r_bool, r_int, r_list, r_tup, f_d, st_m, pl_n, pl_0, pl_1, m_app, m_pop, tof_s, bt_v, sw_c, sw_n, ag_a, dv1, dv2, hz0, hz]
  by_cases hp : b < 0
  · rw [if_pos hp, x_fin h rfl (x_cons s1 (x_cons (ρ' := [some (.d (.int a)), some (.d (.int b)), some (.d (.int (-(q : Int))))]) (M' := M) (x_ifT (M1 := M) (by simp [evalE, evalEs, evalB, evalIt, evalS, evalSs, evalTg, allB, allI, deref_d, deref_m, derefR_d, derefR_m, derefR_r, db_len, db_abs, db_int, db_all, db_any, db_sum, db_tuple, db_list, db_max, db_min, db_gcd, db_isi, derefs_nil, derefs_cons, plain_nil, plain_d, give_f, give_t, p_add, p_addT, p_addL, p_sub, p_mul, p_fdiv, p_mod, p_pow, p_lt, p_le, p_gt, p_ge, p_ixL, p_ixT, at_0, at_1, at_2, at_n, p_eqI, p_neI, s_nn, s_bb, s_in, s_bn, s_tn, s_ln, s_sn, s_nb, s_ib, s_tb, s_lb, s_sb, p_is, p_isn, q_lenL, q_lenT, q_abs, q_int, q_intb, q_all, q_any, q_sum, q_tupL, q_tupT, q_lstL, q_lstT, q_max, q_min, q_gcd, q_isi, t_tt, t_tl, t_ti, t_tb, t_tn, t_ts, t_it, t_il, t_ii, t_ib, t_in, t_is, t_bt, t_bl, t_bi, t_bb, t_bn, t_bs, t_st, t_sl, t_si, t_sb, t_sn, t_ss, r_none, r_bool, r_int, r_list, r_tup, f_d, st_m, pl_n, pl_0, pl_1, m_app, m_pop, tof_s, bt_v, sw_c, sw_n, ag_a, hp]) (by simp [evalE, evalEs, evalB, evalIt, evalS, evalSs, evalTg, allB, allI, deref_d, deref_m, derefR_d, derefR_m, derefR_r, db_len, db_abs, db_int, db_all, db_any, db_sum, db_tuple, db_list, db_max, db_min, db_gcd, db_isi, derefs_nil, derefs_cons, plain_nil, plain_d, give_f, give_t, p_add, p_addT, p_addL, p_sub, p_mul, p_fdiv, p_mod, p_pow, p_lt, p_le, p_gt, p_ge, p_ixL, p_ixT, at_0, at_1, at_2, at_n, p_eqI, p_neI, s_nn, s_bb, s_in, s_bn, s_tn, s_ln, s_sn, s_nb, s_ib, s_tb, s_lb, s_sb, p_is, p_isn, q_lenL, q_lenT, q_abs, q_int, q_intb, q_all, q_any, q_sum, q_tupL, q_tupT, q_lstL, q_lstT, q_max, q_min, q_gcd, q_isi, t_tt, t_tl, t_ti, t_tb, t_tn, t_ts, t_it, t_il, t_ii, t_ib, t_in, t_is, t_bt, t_bl, t_bi, t_bb, t_bn, t_bs, t_st, t_sl, t_si, t_sb, t_sn, t_ss, r_none, r_bool, r_int, r_list, r_tup, f_d, st_m, pl_n, pl_0, pl_1, m_app, m_pop, tof_s, bt_v, sw_c, sw_n, ag_a])) (x_stop (x_ret (fin _ (by omega) sg.neg))))), List.take_length]
  · rw [if_neg hp, x_fin h rfl (x_cons s1 (x_cons (x_ifF (M1 := M) (by simp [evalE, evalEs, evalB, evalIt, evalS, evalSs, evalTg, allB, allI, deref_d, deref_m, derefR_d, derefR_m, derefR_r, db_len, db_abs, db_int, db_all, db_any, db_sum, db_tuple, db_list, db_max, db_min, db_gcd, db_isi, derefs_nil, derefs_cons, plain_nil, plain_d, give_f, give_t, p_add, p_addT, p_addL, p_sub, p_mul, p_fdiv, p_mod, p_pow, p_lt, p_le, p_gt, p_ge, p_ixL, p_ixT, at_0, at_1, at_2, at_n, p_eqI, p_neI, s_nn, s_bb, s_in, s_bn, s_tn, s_ln, s_sn, s_nb, s_ib, s_tb, s_lb, s_sb, p_is, p_isn, q_lenL, q_lenT, q_abs, q_int, q_intb, q_all, q_any, q_sum, q_tupL, q_tupT, q_lstL, q_lstT, q_max, q_min, q_gcd, q_isi, t_tt, t_tl, t_ti, t_tb, t_tn, t_ts, t_it, t_il, t_ii, t_ib, t_in, t_is, t_bt, t_bl, t_bi, t_bb, t_bn, t_bs, t_st, t_sl, t_si, t_sb, t_sn, t_ss, r_none, r_bool, r_int, r_list, r_tup, f_d, st_m, pl_n, pl_0, pl_1, m_app, m_pop, tof_s, bt_v, sw_c, sw_n, ag_a, hp])) (x_stop (x_ret (fin _ (by omega) sg))))), List.take_length]
end
end EV

/-! EvP: draws in a body; whether a thing is a ratio. -/
namespace EV
open PySem
abbrev bx (ds : List Int) (t : Nat) : MO := .lst [.list (ds.map .int), .int (t : Int)]
section
variable {fs : List Fn} {G : List PyData} {wf : Nat} {M : Mem} {b : Nat} {ds : List Int} {t : Nat}
theorem drawE {d i k : Nat} {ρ : Loc} (hd : fs[d]? = some lDraw) (hρ : ρ[i]? = some (some (.m b))) (hb : b < M.length) (t : Nat) {m : Int} (hm : 0 < m) : ∃ r : Int, 0 ≤ r ∧ r < m ∧
    evalE (callF fs G wf (k + 1)) G wf (.call d (.cons (.var i) (.cons (.lit (.int m)) .nil))) ρ (M.set b (bx ds t)) = some (.d (.int r), M.set b (bx ds (t + 1))) := by
  have h0 : BoxAt (M.set b (bx ds t)) b ds t := List.getElem?_set_self hb
  obtain ⟨r, h1, h2, h3⟩ := draw_eq (G := G) (wf := wf) (k := k) hd h0 hm
  refine ⟨r, h1, h2, ?_⟩
  rw [List.set_set] at h3
  have he : evalEs (callF fs G wf (k + 1)) G wf (.cons (.var i) (.cons (.lit (.int m)) .nil)) ρ (M.set b (bx ds t)) = some ([.m b, .d (.int m)], M.set b (bx ds t)) := by
    simp [evalE, evalEs, evalB, evalIt, evalS, evalSs, evalTg, allB, allI, deref_d, deref_m, derefR_d, derefR_m, derefR_r, db_len, db_abs, db_int, db_all, db_any, db_sum, db_tuple, db_list, db_max, db_min, db_gcd, db_isi, derefs_nil, derefs_cons, plain_nil, plain_d, give_f, give_t, p_add, p_addT, p_addL, p_sub, p_mul, p_fdiv, p_mod, p_pow, p_lt, p_le, p_gt, p_ge, p_ixL, p_ixT, at_0, at_1, at_2, at_n, p_eqI, p_neI, s_nn, s_bb, s_in, s_bn, s_tn, s_ln, s_sn, s_nb, s_ib, s_tb, s_lb, s_sb, p_is, p_isn, q_lenL, q_lenT, q_abs, q_int, q_intb, q_all, q_any, q_sum, q_tupL, q_tupT, q_lstL, q_lstT, q_max, q_min, q_gcd, q_isi, t_tt, t_tl, t_ti, t_tb, t_tn, t_ts, t_it, t_il, t_ii, t_ib, t_in, t_is, t_bt, t_bl, t_bi, t_bb, t_bn, t_bs, t_st, t_sl, t_si, t_sb, t_sn, t_ss, r_none, r_bool, r_int, r_list, r_tup, f_d, st_m, pl_n, pl_0, pl_1, m_app, m_pop, tof_s, bt_v, sw_c, sw_n, ag_a, hρ]
  rw [evalE, he]
  exact h3
section
variable {cf : Nat → List W → Mem → Option (W × Mem)} {e e2 : E} {es : Es} {ρ : Loc} {M1 : Mem} {k c : Bool} {r : Option (W × Mem)}
theorem b_go (h : evalE cf G wf e ρ M = some (.d (.bool k), M1)) (h2 : evalB cf G wf k (.cons e2 es) ρ M1 = r) : evalB cf G wf k (.cons e (.cons e2 es)) ρ M = r := by
  rw [evalB, h]
  show (if k = k then evalB cf G wf k (.cons e2 es) ρ M1 else _) = r
  rw [if_pos rfl, h2]
theorem b_stop (h : evalE cf G wf e ρ M = some (.d (.bool c), M1)) (hc : c ≠ k) : evalB cf G wf k (.cons e (.cons e2 es)) ρ M = some (.d (.bool c), M1) := by
  rw [evalB, h]
  show (if c = k then _ else some (W.d (.bool c), M1)) = _
  rw [if_neg hc]
theorem b_one (h : evalE cf G wf e ρ M = r) : evalB cf G wf k (.cons e .nil) ρ M = r := by
  rw [evalB, h]
theorem t_bool (h : evalE cf G wf e ρ M = some (.d (.bool c), M1)) : testOf (evalE cf G wf e ρ M) = some (c, M1) := by rw [h]; rfl
theorem e_and (h : evalB cf G wf true es ρ M = r) : evalE cf G wf (.and es) ρ M = r := by rw [evalE, h]
theorem e_or (h : evalB cf G wf false es ρ M = r) : evalE cf G wf (.or es) ρ M = r := by rw [evalE, h]
theorem e_not (h : evalE cf G wf e ρ M = some (.d (.bool c), M1)) : evalE cf G wf (.not e) ρ M = some (.d (.bool (!c)), M1) := by rw [evalE, h]; rfl
end
theorem set_len {M : Mem} {b : Nat} {x y : MO} : (M.set b x).take (M.set b y).length = M.set b x := List.take_of_length_le (by simp)
/-! ### the program's tests -/
def pIsInt : Fn := ⟨1, 1,
  (.cons (.ret (.and (.cons (.blt false (.isi .int) (.cons (.var 0) .nil)) (.cons (.not (.blt false (.isi .bool) (.cons (.var 0) .nil))) .nil))))
  .nil)⟩
def pIsRatio (i : Nat) : Fn := ⟨1, 2,
  (.cons (.ife (.or (.cons (.not (.blt false (.isi .tuple) (.cons (.var 0) .nil))) (.cons (.op2 false .ne (.blt false .len (.cons (.var 0) .nil)) (.lit (.int 2))) (.cons (.not (.blt false .all (.cons (.comp false [1] (.v 1) (.seq (.var 0)) (.lit (.bool true)) (.call i (.cons (.var 1) .nil))) .nil))) .nil))))
   (.cons (.ret (.lit (.bool false)))
   .nil)
   .nil)
  (.cons (.ret (.and (.cons (.op2 false .ge (.op2 false .ix (.var 0) (.lit (.int 1))) (.lit (.int 1))) (.cons (.op2 false .eq (.blt false .gcd (.cons (.op2 false .ix (.var 0) (.lit (.int 0))) (.cons (.op2 false .ix (.var 0) (.lit (.int 1))) .nil))) (.lit (.int 1))) .nil))))
  .nil))⟩
def isI : PyData → Bool
  | .int _ => true
  | _ => false
def noD : PyData → Bool
  | .dict _ => false
  | _ => true
theorem isint_eq {i k : Nat} (h : fs[i]? = some pIsInt) (x : PyData) (hx : noD x = true) : callF fs G wf (k + 1) i [.d x] M = some (.d (.bool (isI x)), M) := by
  have go : evalSs (callF fs G wf k) G wf pIsInt.body [some (.d x)] M = some (.ret (.d (.bool (isI x))) M) := by
    refine x_stop (x_ret ?_)
    cases x <;> first | (simp [evalE, evalEs, evalB, evalIt, evalS, evalSs, evalTg, allB, allI, deref_d, deref_m, derefR_d, derefR_m, derefR_r, db_len, db_abs, db_int, db_all, db_any, db_sum, db_tuple, db_list, db_max, db_min, db_gcd, db_isi, derefs_nil, derefs_cons, plain_nil, plain_d, give_f, give_t, p_add, p_addT, p_addL, p_sub, p_mul, p_fdiv, p_mod, p_pow, p_lt, p_le, p_gt, p_ge, p_ixL, p_ixT, at_0, at_1, at_2, at_n, p_eqI, p_neI, s_nn, s_bb, s_in, s_bn, s_tn, s_ln, s_sn, s_nb, s_ib, s_tb, s_lb, s_sb, p_is, p_isn, q_lenL, q_lenT, q_abs, q_int, q_intb, q_all, q_any, q_sum, q_tupL, q_tupT, q_lstL, q_lstT, q_max, q_min, q_gcd, q_isi, t_tt, t_tl, t_ti, t_tb, t_tn, t_ts, t_it, t_il, t_ii, t_ib, t_in, t_is, t_bt, t_bl, t_bi, t_bb, t_bn, t_bs, t_st, t_sl, t_si, t_sb, t_sn, t_ss, r_none, r_bool, r_int, r_list, r_tup, f_d, st_m, pl_n, pl_0, pl_1, m_app, m_pop, tof_s, bt_v, sw_c, sw_n, ag_a, isI]; done) | cases hx
  rw [x_fin h rfl (by exact go), List.take_length]
/-- a pair of two things -/
def isR (x y : PyData) : Bool := match x, y with
  | .int a, .int b => decide (1 ≤ b) && decide (Nat.gcd a.natAbs b.natAbs = 1)
  | _, _ => false
theorem isr_pair {i j k : Nat} (h : fs[j]? = some (pIsRatio i)) (hi : fs[i]? = some pIsInt) (x y : PyData) (hx : noD x = true) (hy : noD y = true) : callF fs G wf (k + 2) j [.d (.tuple [x, y])] M = some (.d (.bool (isR x y)), M) := by
  have hc : evalE (callF fs G wf (k + 1)) G wf (.comp false [1] (.v 1) (.seq (.var 0)) (.lit (.bool true)) (.call i (.cons (.var 1) .nil))) [some (.d (.tuple [x, y])), none] M = some (.d (.list [.bool (isI x), .bool (isI y)]), M) := by
    have t1 : ∀ (z : PyData) (acc : List PyData), noD z = true → acc.length < 5 → tc (callF fs G wf (k + 1)) G wf [1] (.v 1) (.lit (.bool true)) (.call i (.cons (.var 1) .nil)) [some (.d (.tuple [x, y])), none] z acc M = some (acc ++ [.bool (isI z)], M) := fun z acc hz ha => by
      have hs : acc.length < sizeLine := by rw [show sizeLine = 16777216 by decide]; omega
      have := isint_eq (G := G) (wf := wf) (M := M) (k := k) hi z hz
      simp [evalE, evalEs, evalB, evalIt, evalS, evalSs, evalTg, allB, allI, deref_d, deref_m, derefR_d, derefR_m, derefR_r, db_len, db_abs, db_int, db_all, db_any, db_sum, db_tuple, db_list, db_max, db_min, db_gcd, db_isi, derefs_nil, derefs_cons, plain_nil, plain_d, give_f, give_t, p_add, p_addT, p_addL, p_sub, p_mul, p_fdiv, p_mod, p_pow, p_lt, p_le, p_gt, p_ge, p_ixL, p_ixT, at_0, at_1, at_2, at_n, p_eqI, p_neI, s_nn, s_bb, s_in, s_bn, s_tn, s_ln, s_sn, s_nb, s_ib, s_tb, s_lb, s_sb, p_is, p_isn, q_lenL, q_lenT, q_abs, q_int, q_intb, q_all, q_any, q_sum, q_tupL, q_tupT, q_lstL, q_lstT, q_max, q_min, q_gcd, q_isi, t_tt, t_tl, t_ti, t_tb, t_tn, t_ts, t_it, t_il, t_ii, t_ib, t_in, t_is, t_bt, t_bl, t_bi, t_bb, t_bn, t_bs, t_st, t_sl, t_si, t_sb, t_sn, t_ss, r_none, r_bool, r_int, r_list, r_tup, f_d, st_m, pl_n, pl_0, pl_1, m_app, m_pop, tof_s, bt_v, sw_c, sw_n, ag_a, tc, wipeL, this, hs]
    refine x_comp (xs := [x, y]) (M1 := M) (by simp [evalE, evalEs, evalB, evalIt, evalS, evalSs, evalTg, allB, allI, deref_d, deref_m, derefR_d, derefR_m, derefR_r, db_len, db_abs, db_int, db_all, db_any, db_sum, db_tuple, db_list, db_max, db_min, db_gcd, db_isi, derefs_nil, derefs_cons, plain_nil, plain_d, give_f, give_t, p_add, p_addT, p_addL, p_sub, p_mul, p_fdiv, p_mod, p_pow, p_lt, p_le, p_gt, p_ge, p_ixL, p_ixT, at_0, at_1, at_2, at_n, p_eqI, p_neI, s_nn, s_bb, s_in, s_bn, s_tn, s_ln, s_sn, s_nb, s_ib, s_tb, s_lb, s_sb, p_is, p_isn, q_lenL, q_lenT, q_abs, q_int, q_intb, q_all, q_any, q_sum, q_tupL, q_tupT, q_lstL, q_lstT, q_max, q_min, q_gcd, q_isi, t_tt, t_tl, t_ti, t_tb, t_tn, t_ts, t_it, t_il, t_ii, t_ib, t_in, t_is, t_bt, t_bl, t_bi, t_bb, t_bn, t_bs, t_st, t_sl, t_si, t_sb, t_sn, t_ss, r_none, r_bool, r_int, r_list, r_tup, f_d, st_m, pl_n, pl_0, pl_1, m_app, m_pop, tof_s, bt_v, sw_c, sw_n, ag_a, seqs, items]) ?_ rfl
    rw [compL, t1 x [] hx (by simp)]
    dsimp only
    rw [compL, t1 y _ hy (by simp)]
    rfl
  have hall : evalE (callF fs G wf (k + 1)) G wf (.blt false .all (.cons (.comp false [1] (.v 1) (.seq (.var 0)) (.lit (.bool true)) (.call i (.cons (.var 1) .nil))) .nil)) [some (.d (.tuple [x, y])), none] M = some (.d (.bool (isI x && isI y)), M) := by
    rw [evalE, evalEs, hc]
    simp [evalE, evalEs, evalB, evalIt, evalS, evalSs, evalTg, allB, allI, deref_d, deref_m, derefR_d, derefR_m, derefR_r, db_len, db_abs, db_int, db_all, db_any, db_sum, db_tuple, db_list, db_max, db_min, db_gcd, db_isi, derefs_nil, derefs_cons, plain_nil, plain_d, give_f, give_t, p_add, p_addT, p_addL, p_sub, p_mul, p_fdiv, p_mod, p_pow, p_lt, p_le, p_gt, p_ge, p_ixL, p_ixT, at_0, at_1, at_2, at_n, p_eqI, p_neI, s_nn, s_bb, s_in, s_bn, s_tn, s_ln, s_sn, s_nb, s_ib, s_tb, s_lb, s_sb, p_is, p_isn, q_lenL, q_lenT, q_abs, q_int, q_intb, q_all, q_any, q_sum, q_tupL, q_tupT, q_lstL, q_lstT, q_max, q_min, q_gcd, q_isi, t_tt, t_tl, t_ti, t_tb, t_tn, t_ts, t_it, t_il, t_ii, t_ib, t_in, t_is, t_bt, t_bl, t_bi, t_bb, t_bn, t_bs, t_st, t_sl, t_si, t_sb, t_sn, t_ss, r_none, r_bool, r_int, r_list, r_tup, f_d, st_m, pl_n, pl_0, pl_1, m_app, m_pop, tof_s, bt_v, sw_c, sw_n, ag_a]
  have hor : testOf (evalE (callF fs G wf (k + 1)) G wf (.or (.cons (.not (.blt false (.isi .tuple) (.cons (.var 0) .nil))) (.cons (.op2 false .ne (.blt false .len (.cons (.var 0) .nil)) (.lit (.int 2))) (.cons (.not (.blt false .all (.cons (.comp false [1] (.v 1) (.seq (.var 0)) (.lit (.bool true)) (.call i (.cons (.var 1) .nil))) .nil))) .nil)))) [some (.d (.tuple [x, y])), none] M) = some (!(isI x && isI y), M) := by
    have hn : evalE (callF fs G wf (k + 1)) G wf (.not (.blt false .all (.cons (.comp false [1] (.v 1) (.seq (.var 0)) (.lit (.bool true)) (.call i (.cons (.var 1) .nil))) .nil))) [some (.d (.tuple [x, y])), none] M = some (.d (.bool (!(isI x && isI y))), M) := by
      rw [evalE, hall]
      simp [evalE, evalEs, evalB, evalIt, evalS, evalSs, evalTg, allB, allI, deref_d, deref_m, derefR_d, derefR_m, derefR_r, db_len, db_abs, db_int, db_all, db_any, db_sum, db_tuple, db_list, db_max, db_min, db_gcd, db_isi, derefs_nil, derefs_cons, plain_nil, plain_d, give_f, give_t, p_add, p_addT, p_addL, p_sub, p_mul, p_fdiv, p_mod, p_pow, p_lt, p_le, p_gt, p_ge, p_ixL, p_ixT, at_0, at_1, at_2, at_n, p_eqI, p_neI, s_nn, s_bb, s_in, s_bn, s_tn, s_ln, s_sn, s_nb, s_ib, s_tb, s_lb, s_sb, p_is, p_isn, q_lenL, q_lenT, q_abs, q_int, q_intb, q_all, q_any, q_sum, q_tupL, q_tupT, q_lstL, q_lstT, q_max, q_min, q_gcd, q_isi, t_tt, t_tl, t_ti, t_tb, t_tn, t_ts, t_it, t_il, t_ii, t_ib, t_in, t_is, t_bt, t_bl, t_bi, t_bb, t_bn, t_bs, t_st, t_sl, t_si, t_sb, t_sn, t_ss, r_none, r_bool, r_int, r_list, r_tup, f_d, st_m, pl_n, pl_0, pl_1, m_app, m_pop, tof_s, bt_v, sw_c, sw_n, ag_a]
    have a1 : evalE (callF fs G wf (k + 1)) G wf (.not (.blt false (.isi .tuple) (.cons (.var 0) .nil))) [some (.d (.tuple [x, y])), none] M = some (.d (.bool false), M) := by simp [evalE, evalEs, evalB, evalIt, evalS, evalSs, evalTg, allB, allI, deref_d, deref_m, derefR_d, derefR_m, derefR_r, db_len, db_abs, db_int, db_all, db_any, db_sum, db_tuple, db_list, db_max, db_min, db_gcd, db_isi, derefs_nil, derefs_cons, plain_nil, plain_d, give_f, give_t, p_add, p_addT, p_addL, p_sub, p_mul, p_fdiv, p_mod, p_pow, p_lt, p_le, p_gt, p_ge, p_ixL, p_ixT, at_0, at_1, at_2, at_n, p_eqI, p_neI, s_nn, s_bb, s_in, s_bn, s_tn, s_ln, s_sn, s_nb, s_ib, s_tb, s_lb, s_sb, p_is, p_isn, q_lenL, q_lenT, q_abs, q_int, q_intb, q_all, q_any, q_sum, q_tupL, q_tupT, q_lstL, q_lstT, q_max, q_min, q_gcd, q_isi, t_tt, t_tl, t_ti, t_tb, t_tn, t_ts, t_it, t_il, t_ii, t_ib, t_in, t_is, t_bt, t_bl, t_bi, t_bb, t_bn, t_bs, t_st, t_sl, t_si, t_sb, t_sn, t_ss, r_none, r_bool, r_int, r_list, r_tup, f_d, st_m, pl_n, pl_0, pl_1, m_app, m_pop, tof_s, bt_v, sw_c, sw_n, ag_a]
    have a2 : evalE (callF fs G wf (k + 1)) G wf (.op2 false .ne (.blt false .len (.cons (.var 0) .nil)) (.lit (.int 2))) [some (.d (.tuple [x, y])), none] M = some (.d (.bool false), M) := by simp [evalE, evalEs, evalB, evalIt, evalS, evalSs, evalTg, allB, allI, deref_d, deref_m, derefR_d, derefR_m, derefR_r, db_len, db_abs, db_int, db_all, db_any, db_sum, db_tuple, db_list, db_max, db_min, db_gcd, db_isi, derefs_nil, derefs_cons, plain_nil, plain_d, give_f, give_t, p_add, p_addT, p_addL, p_sub, p_mul, p_fdiv, p_mod, p_pow, p_lt, p_le, p_gt, p_ge, p_ixL, p_ixT, at_0, at_1, at_2, at_n, p_eqI, p_neI, s_nn, s_bb, s_in, s_bn, s_tn, s_ln, s_sn, s_nb, s_ib, s_tb, s_lb, s_sb, p_is, p_isn, q_lenL, q_lenT, q_abs, q_int, q_intb, q_all, q_any, q_sum, q_tupL, q_tupT, q_lstL, q_lstT, q_max, q_min, q_gcd, q_isi, t_tt, t_tl, t_ti, t_tb, t_tn, t_ts, t_it, t_il, t_ii, t_ib, t_in, t_is, t_bt, t_bl, t_bi, t_bb, t_bn, t_bs, t_st, t_sl, t_si, t_sb, t_sn, t_ss, r_none, r_bool, r_int, r_list, r_tup, f_d, st_m, pl_n, pl_0, pl_1, m_app, m_pop, tof_s, bt_v, sw_c, sw_n, ag_a]
    exact t_bool (e_or (b_go a1 (b_go a2 (b_one hn))))
  have hb : evalSs (callF fs G wf (k + 1)) G wf (pIsRatio i).body [some (.d (.tuple [x, y])), none] M = some (.ret (.d (.bool (isR x y))) M) := by
    by_cases hxy : (isI x && isI y) = true
    · rw [hxy] at hor
      rw [Bool.and_eq_true] at hxy
      obtain ⟨a, rfl⟩ : ∃ a, x = .int a := by
        cases x with
        | int a => exact ⟨a, rfl⟩
        | _ => cases hxy.1
      obtain ⟨b, rfl⟩ : ∃ b, y = .int b := by
        cases y with
        | int b => exact ⟨b, rfl⟩
        | _ => cases hxy.2
      refine x_cons (x_ifF hor) (x_stop (x_ret ?_))
      by_cases h1 : 1 ≤ b
      · by_cases h2 : Nat.gcd a.natAbs b.natAbs = 1
        · simp [evalE, evalEs, evalB, evalIt, evalS, evalSs, evalTg, allB, allI, deref_d, deref_m, derefR_d, derefR_m, derefR_r, db_len, db_abs, db_int, db_all, db_any, db_sum, db_tuple, db_list, db_max, db_min, db_gcd, db_isi, derefs_nil, derefs_cons, plain_nil, plain_d, give_f, give_t, p_add, p_addT, p_addL, p_sub, p_mul, p_fdiv, p_mod, p_pow, p_lt, p_le, p_gt, p_ge, p_ixL, p_ixT, at_0, at_1, at_2, at_n, p_eqI, p_neI, s_nn, s_bb, s_in, s_bn, s_tn, s_ln, s_sn, s_nb, s_ib, s_tb, s_lb, s_sb, p_is, p_isn, q_lenL, q_lenT, q_abs, q_int, q_intb, q_all, q_any, q_sum, q_tupL, q_tupT, q_lstL, q_lstT, q_max, q_min, q_gcd, q_isi, t_tt, t_tl, t_ti, t_tb, t_tn, t_ts, t_it, t_il, t_ii, t_ib, t_in, t_is, t_bt, t_bl, t_bi, t_bb, t_bn, t_bs, t_st, t_sl, t_si, t_sb, t_sn, t_ss, r_none, r_bool, r_int, r_list, r_tup, f_d, st_m, pl_n, pl_0, pl_1, m_app, m_pop, tof_s, bt_v, sw_c, sw_n, ag_a, isR, h1, h2]
        · have h3 : ¬ ((Nat.gcd a.natAbs b.natAbs : Nat) : Int) = 1 := by omega
          simp [evalE, evalEs, evalB, evalIt, evalS, evalSs, evalTg, allB, allI, deref_d, deref_m, derefR_d, derefR_m, derefR_r, db_len, db_abs, db_int, db_all, db_any, db_sum, db_tuple, db_list, db_max, db_min, db_gcd, db_isi, derefs_nil, derefs_cons, plain_nil, plain_d, give_f, give_t, p_add, p_addT, p_addL, p_sub, p_mul, p_fdiv, p_mod, p_pow, p_lt, p_le, p_gt, p_ge, p_ixL, p_ixT, at_0, at_1, at_2, at_n, p_eqI, p_neI, s_nn, s_bb, s_in, s_bn, s_tn, s_ln, s_sn, s_nb, s_ib, s_tb, s_lb, s_sb, p_is, p_isn, q_lenL, q_lenT, q_abs, q_int, q_intb, q_all, q_any, q_sum, q_tupL, q_tupT, q_lstL, q_lstT, q_max, q_min, q_gcd, q_isi, t_tt, t_tl, t_ti, t_tb, t_tn, t_ts, t_it, t_il, t_ii, t_ib, t_in, t_is, t_bt, t_bl, t_bi, t_bb, t_bn, t_bs, t_st, t_sl, t_si, t_sb, t_sn, t_ss, r_none, r_bool, r_int, r_list, r_tup, f_d, st_m, pl_n, pl_0, pl_1, m_app, m_pop, tof_s, bt_v, sw_c, sw_n, ag_a, isR, h1, h2, h3]
      · simp [evalE, evalEs, evalB, evalIt, evalS, evalSs, evalTg, allB, allI, deref_d, deref_m, derefR_d, derefR_m, derefR_r, db_len, db_abs, db_int, db_all, db_any, db_sum, db_tuple, db_list, db_max, db_min, db_gcd, db_isi, derefs_nil, derefs_cons, plain_nil, plain_d, give_f, give_t, p_add, p_addT, p_addL, p_sub, p_mul, p_fdiv, p_mod, p_pow, p_lt, p_le, p_gt, p_ge, p_ixL, p_ixT, at_0, at_1, at_2, at_n, p_eqI, p_neI, s_nn, s_bb, s_in, s_bn, s_tn, s_ln, s_sn, s_nb, s_ib, s_tb, s_lb, s_sb, p_is, p_isn, q_lenL, q_lenT, q_abs, q_int, q_intb, q_all, q_any, q_sum, q_tupL, q_tupT, q_lstL, q_lstT, q_max, q_min, q_gcd, q_isi, t_tt, t_tl, t_ti, t_tb, t_tn, t_ts, t_it, t_il, t_ii, t_ib, t_in, t_is, t_bt, t_bl, t_bi, t_bb, t_bn, t_bs, t_st, t_sl, t_si, t_sb, t_sn, t_ss, r_none, r_bool, r_int, r_list, r_tup, f_d, st_m, pl_n, pl_0, pl_1, m_app, m_pop, tof_s, bt_v, sw_c, sw_n, ag_a, isR, h1]
    · have e : (isI x && isI y) = false := by simpa using hxy
      rw [e] at hor
      have hr : isR x y = false := by
        cases x <;> cases y <;> first | rfl | cases e
      rw [hr]
      exact x_stop (x_ifT hor (x_stop (x_ret (by simp [evalE, evalEs, evalB, evalIt, evalS, evalSs, evalTg, allB, allI, deref_d, deref_m, derefR_d, derefR_m, derefR_r, db_len, db_abs, db_int, db_all, db_any, db_sum, db_tuple, db_list, db_max, db_min, db_gcd, db_isi, derefs_nil, derefs_cons, plain_nil, plain_d, give_f, give_t, p_add, p_addT, p_addL, p_sub, p_mul, p_fdiv, p_mod, p_pow, p_lt, p_le, p_gt, p_ge, p_ixL, p_ixT, at_0, at_1, at_2, at_n, p_eqI, p_neI, s_nn, s_bb, s_in, s_bn, s_tn, s_ln, s_sn, s_nb, s_ib, s_tb, s_lb, s_sb, p_is, p_isn, q_lenL, q_lenT, q_abs, q_int, q_intb, q_all, q_any, q_sum, q_tupL, q_tupT, q_lstL, q_lstT, q_max, q_min, q_gcd, q_isi, t_tt, t_tl, t_ti, t_tb, t_tn, t_ts, t_it, t_il, t_ii, t_ib, t_in, t_is, t_bt, t_bl, t_bi, t_bb, t_bn, t_bs, t_st, t_sl, t_si, t_sb, t_sn, t_ss, r_none, r_bool, r_int, r_list, r_tup, f_d, st_m, pl_n, pl_0, pl_1, m_app, m_pop, tof_s, bt_v, sw_c, sw_n, ag_a]))))
  rw [x_fin h rfl (by exact hb), List.take_length]
/-- no tuple, or one of another length -/
theorem isr_not {i j k : Nat} (h : fs[j]? = some (pIsRatio i)) (x : PyData) (hd : noD x = true) (hx : ∀ xs, x = .tuple xs → xs.length ≠ 2) : callF fs G wf (k + 1) j [.d x] M = some (.d (.bool false), M) := by
  have hor : testOf (evalE (callF fs G wf k) G wf (.or (.cons (.not (.blt false (.isi .tuple) (.cons (.var 0) .nil))) (.cons (.op2 false .ne (.blt false .len (.cons (.var 0) .nil)) (.lit (.int 2))) (.cons (.not (.blt false .all (.cons (.comp false [1] (.v 1) (.seq (.var 0)) (.lit (.bool true)) (.call i (.cons (.var 1) .nil))) .nil))) .nil)))) [some (.d x), none] M) = some (true, M) := by
    by_cases ht : ∃ xs, x = .tuple xs
    · obtain ⟨xs, rfl⟩ := ht
      have hl := hx xs rfl
      have hl2 : ¬ ((xs.length : Nat) : Int) = 2 := by omega
      have a1 : evalE (callF fs G wf k) G wf (.not (.blt false (.isi .tuple) (.cons (.var 0) .nil))) [some (.d (.tuple xs)), none] M = some (.d (.bool false), M) := by simp [evalE, evalEs, evalB, evalIt, evalS, evalSs, evalTg, allB, allI, deref_d, deref_m, derefR_d, derefR_m, derefR_r, db_len, db_abs, db_int, db_all, db_any, db_sum, db_tuple, db_list, db_max, db_min, db_gcd, db_isi, derefs_nil, derefs_cons, plain_nil, plain_d, give_f, give_t, p_add, p_addT, p_addL, p_sub, p_mul, p_fdiv, p_mod, p_pow, p_lt, p_le, p_gt, p_ge, p_ixL, p_ixT, at_0, at_1, at_2, at_n, p_eqI, p_neI, s_nn, s_bb, s_in, s_bn, s_tn, s_ln, s_sn, s_nb, s_ib, s_tb, s_lb, s_sb, p_is, p_isn, q_lenL, q_lenT, q_abs, q_int, q_intb, q_all, q_any, q_sum, q_tupL, q_tupT, q_lstL, q_lstT, q_max, q_min, q_gcd, q_isi, t_tt, t_tl, t_ti, t_tb, t_tn, t_ts, t_it, t_il, t_ii, t_ib, t_in, t_is, t_bt, t_bl, t_bi, t_bb, t_bn, t_bs, t_st, t_sl, t_si, t_sb, t_sn, t_ss, r_none, r_bool, r_int, r_list, r_tup, f_d, st_m, pl_n, pl_0, pl_1, m_app, m_pop, tof_s, bt_v, sw_c, sw_n, ag_a]
      have a2 : evalE (callF fs G wf k) G wf (.op2 false .ne (.blt false .len (.cons (.var 0) .nil)) (.lit (.int 2))) [some (.d (.tuple xs)), none] M = some (.d (.bool true), M) := by simp [evalE, evalEs, evalB, evalIt, evalS, evalSs, evalTg, allB, allI, deref_d, deref_m, derefR_d, derefR_m, derefR_r, db_len, db_abs, db_int, db_all, db_any, db_sum, db_tuple, db_list, db_max, db_min, db_gcd, db_isi, derefs_nil, derefs_cons, plain_nil, plain_d, give_f, give_t, p_add, p_addT, p_addL, p_sub, p_mul, p_fdiv, p_mod, p_pow, p_lt, p_le, p_gt, p_ge, p_ixL, p_ixT, at_0, at_1, at_2, at_n, p_eqI, p_neI, s_nn, s_bb, s_in, s_bn, s_tn, s_ln, s_sn, s_nb, s_ib, s_tb, s_lb, s_sb, p_is, p_isn, q_lenL, q_lenT, q_abs, q_int, q_intb, q_all, q_any, q_sum, q_tupL, q_tupT, q_lstL, q_lstT, q_max, q_min, q_gcd, q_isi, t_tt, t_tl, t_ti, t_tb, t_tn, t_ts, t_it, t_il, t_ii, t_ib, t_in, t_is, t_bt, t_bl, t_bi, t_bb, t_bn, t_bs, t_st, t_sl, t_si, t_sb, t_sn, t_ss, r_none, r_bool, r_int, r_list, r_tup, f_d, st_m, pl_n, pl_0, pl_1, m_app, m_pop, tof_s, bt_v, sw_c, sw_n, ag_a, hl2]
      exact t_bool (e_or (b_go a1 (b_stop a2 (by decide))))
    · have a1 : evalE (callF fs G wf k) G wf (.not (.blt false (.isi .tuple) (.cons (.var 0) .nil))) [some (.d x), none] M = some (.d (.bool true), M) := by
        cases x <;> first | (simp [evalE, evalEs, evalB, evalIt, evalS, evalSs, evalTg, allB, allI, deref_d, deref_m, derefR_d, derefR_m, derefR_r, db_len, db_abs, db_int, db_all, db_any, db_sum, db_tuple, db_list, db_max, db_min, db_gcd, db_isi, derefs_nil, derefs_cons, plain_nil, plain_d, give_f, give_t, p_add, p_addT, p_addL, p_sub, p_mul, p_fdiv, p_mod, p_pow, p_lt, p_le, p_gt, p_ge, p_ixL, p_ixT, at_0, at_1, at_2, at_n, p_eqI, p_neI, s_nn, s_bb, s_in, s_bn, s_tn, s_ln, s_sn, s_nb, s_ib, s_tb, s_lb, s_sb, p_is, p_isn, q_lenL, q_lenT, q_abs, q_int, q_intb, q_all, q_any, q_sum, q_tupL, q_tupT, q_lstL, q_lstT, q_max, q_min, q_gcd, q_isi, t_tt, t_tl, t_ti, t_tb, t_tn, t_ts, t_it, t_il, t_ii, t_ib, t_in, t_is, t_bt, t_bl, t_bi, t_bb, t_bn, t_bs, t_st, t_sl, t_si, t_sb, t_sn, t_ss, r_none, r_bool, r_int, r_list, r_tup, f_d, st_m, pl_n, pl_0, pl_1, m_app, m_pop, tof_s, bt_v, sw_c, sw_n, ag_a]; done) | exact absurd ⟨_, rfl⟩ ht | (cases hd; done)
      exact t_bool (e_or (b_stop a1 (by decide)))
  have hb : evalSs (callF fs G wf k) G wf (pIsRatio i).body [some (.d x), none] M = some (.ret (.d (.bool false)) M) := x_stop (x_ifT hor (x_stop (x_ret (by simp [evalE, evalEs, evalB, evalIt, evalS, evalSs, evalTg, allB, allI, deref_d, deref_m, derefR_d, derefR_m, derefR_r, db_len, db_abs, db_int, db_all, db_any, db_sum, db_tuple, db_list, db_max, db_min, db_gcd, db_isi, derefs_nil, derefs_cons, plain_nil, plain_d, give_f, give_t, p_add, p_addT, p_addL, p_sub, p_mul, p_fdiv, p_mod, p_pow, p_lt, p_le, p_gt, p_ge, p_ixL, p_ixT, at_0, at_1, at_2, at_n, p_eqI, p_neI, s_nn, s_bb, s_in, s_bn, s_tn, s_ln, s_sn, s_nb, s_ib, s_tb, s_lb, s_sb, p_is, p_isn, q_lenL, q_lenT, q_abs, q_int, q_intb, q_all, q_any, q_sum, q_tupL, q_tupT, q_lstL, q_lstT, q_max, q_min, q_gcd, q_isi, t_tt, t_tl, t_ti, t_tb, t_tn, t_ts, t_it, t_il, t_ii, t_ib, t_in, t_is, t_bt, t_bl, t_bi, t_bb, t_bn, t_bs, t_st, t_sl, t_si, t_sb, t_sn, t_ss, r_none, r_bool, r_int, r_list, r_tup, f_d, st_m, pl_n, pl_0, pl_1, m_app, m_pop, tof_s, bt_v, sw_c, sw_n, ag_a]))))
  rw [x_fin h rfl (by exact hb), List.take_length]
end
end EV

/-! EvQ: ratios are rational numbers; their sizes; plus, minus, product, quotient. -/
namespace EV
open PySem
def enc (q : Rat) : PyData := pr q.num q.den
theorem rat_enc {a b : Int} (hb : b ≠ 0) : rat a b = enc (Rat.divInt a b) := by
  obtain ⟨f1, f2, _, _, f5⟩ := rat_facts (a := a) hb
  have ht : (((rd a b).toNat : Nat) : Int) = rd a b := Int.toNat_of_nonneg (by omega)
  have hn : (rd a b).toNat ≠ 0 := by omega
  have hc : (rn a b).natAbs.Coprime (rd a b).toNat := by
    have e : (rd a b).toNat = (rd a b).natAbs := by omega
    rw [e]; exact f2
  have hr : (⟨rn a b, (rd a b).toNat, hn, hc⟩ : Rat) = Rat.divInt a b := by
    rw [Rat.mk_eq_divInt, Rat.divInt_eq_divInt_iff (by omega) hb, ht]
    exact f5
  unfold enc
  rw [← hr]
  show rat a b = pr (rn a b) (((rd a b).toNat : Nat) : Int)
  rw [ht]
/-- q is less than 2^v either way, its denominator divides B^m -/
structure Qb (B v m : Nat) (q : Rat) : Prop where
  v : q.num.natAbs < 2 ^ v * q.den
  d : q.den ∣ B ^ m
section
variable {B v w m l : Nat} {p q : Rat}
theorem Qb.mono (h : Qb B v m q) (hv : v ≤ w) (hm : m ≤ l) : Qb B w l q :=
  ⟨Nat.lt_of_lt_of_le h.v (Nat.mul_le_mul_right _ (Nat.pow_le_pow_right (by decide) hv)), Nat.dvd_trans h.d (Nat.pow_dvd_pow _ hm)⟩
theorem Qb.den_le (h : Qb B v m q) (hB : 0 < B) (h2 : B ≤ 256) : q.den ≤ 2 ^ (8 * m) := by
  refine Nat.le_trans (Nat.le_of_dvd (Nat.pow_pos hB) h.d) ?_
  rw [Nat.pow_mul]
  exact Nat.pow_le_pow_left h2 m
theorem Qb.sd (h : Qb B v m q) (hB : 0 < B) (h2 : B ≤ 256) : sm (8 * m + 1) (q.den : Int) := by
  have := h.den_le hB h2
  unfold sm
  rw [Int.natAbs_natCast, Nat.pow_succ]
  have : 0 < 2 ^ (8 * m) := Nat.pow_pos (by decide)
  omega
theorem Qb.sn (h : Qb B v m q) (hB : 0 < B) (h2 : B ≤ 256) : sm (v + 8 * m) q.num := by
  unfold sm
  rw [Nat.pow_add]
  exact Nat.lt_of_lt_of_le h.v (Nat.mul_le_mul_left _ (h.den_le hB h2))
theorem den_divInt_dvd {x : Int} {L : Nat} (hL : 0 < L) : (Rat.divInt x L).den ∣ L := by
  rw [Rat.den_divInt, if_neg (by omega)]
  have e : (L : Int).natAbs = L := by simp
  rw [e]
  have : (L : Int).gcd x ∣ L := by
    have := Int.gcd_dvd_natAbs_left (L : Int) x
    rwa [e] at this
  exact Nat.div_dvd_of_dvd this
theorem as_divInt {L : Nat} (h : q.den ∣ L) (hL : 0 < L) : ∃ x : Int, q = Rat.divInt x L := by
  obtain ⟨s, hs⟩ := h
  have hs0 : (s : Int) ≠ 0 := by
    intro e
    have : s = 0 := by omega
    rw [this] at hs; omega
  refine ⟨q.num * s, ?_⟩
  rw [hs, Int.natCast_mul, Rat.divInt_mul_right hs0, Rat.num_divInt_den]
theorem Qb.add (hB : 0 < B) (h : Qb B v m p) (k : Qb B v m q) : Qb B (v + 1) m (p + q) := by
  have hL : 0 < B ^ m := Nat.pow_pos hB
  have hLi : ((B ^ m : Nat) : Int) ≠ 0 := by omega
  constructor
  · have hp : (p.den : Int) ≠ 0 := by have := p.den_nz; omega
    have hq : (q.den : Int) ≠ 0 := by have := q.den_nz; omega
    have hr : ((p + q).den : Int) ≠ 0 := by have := (p + q).den_nz; omega
    have e : Rat.divInt (p + q).num (p + q).den = Rat.divInt (p.num * q.den + q.num * p.den) (p.den * q.den) := by
      rw [Rat.num_divInt_den, ← Rat.divInt_add_divInt _ _ hp hq, Rat.num_divInt_den, Rat.num_divInt_den]
    rw [Rat.divInt_eq_divInt_iff hr (Int.mul_ne_zero hp hq)] at e
    have e2 := congrArg Int.natAbs e
    rw [Int.natAbs_mul, Int.natAbs_mul, Int.natAbs_mul, Int.natAbs_natCast, Int.natAbs_natCast, Int.natAbs_natCast] at e2
    have b1 : (p.num * q.den + q.num * p.den).natAbs < 2 ^ (v + 1) * (p.den * q.den) := by
      refine Nat.lt_of_le_of_lt (Int.natAbs_add_le _ _) ?_
      rw [Int.natAbs_mul, Int.natAbs_mul, Int.natAbs_natCast, Int.natAbs_natCast, Nat.pow_succ]
      have h1 := Nat.mul_lt_mul_of_pos_right h.v (Nat.pos_of_ne_zero q.den_nz)
      have h2 := Nat.mul_lt_mul_of_pos_right k.v (Nat.pos_of_ne_zero p.den_nz)
      have e1 : 2 ^ v * p.den * q.den = 2 ^ v * (p.den * q.den) := Nat.mul_assoc _ _ _
      have e3 : 2 ^ v * q.den * p.den = 2 ^ v * (p.den * q.den) := by rw [Nat.mul_assoc, Nat.mul_comm q.den]
      have e4 : 2 ^ v * 2 * (p.den * q.den) = 2 ^ v * (p.den * q.den) + 2 ^ v * (p.den * q.den) := by rw [Nat.mul_right_comm]; omega
      omega
    have hpos : 0 < p.den * q.den := Nat.mul_pos (Nat.pos_of_ne_zero p.den_nz) (Nat.pos_of_ne_zero q.den_nz)
    have hrp : 0 < (p + q).den := Nat.pos_of_ne_zero (p + q).den_nz
    refine Nat.lt_of_mul_lt_mul_right (a := p.den * q.den) ?_
    rw [e2]
    have := Nat.mul_lt_mul_of_pos_right b1 hrp
    calc _ < 2 ^ (v + 1) * (p.den * q.den) * (p + q).den := this
      _ = 2 ^ (v + 1) * (p + q).den * (p.den * q.den) := by rw [Nat.mul_right_comm]
  · obtain ⟨x, hx⟩ := as_divInt h.d hL
    obtain ⟨y, hy⟩ := as_divInt k.d hL
    have e : p + q = Rat.divInt (x + y) ((B ^ m : Nat) : Int) := by
      rw [hx, hy, Rat.divInt_add_divInt _ _ hLi hLi, ← Int.add_mul, Rat.divInt_mul_right hLi]
    rw [e]
    exact den_divInt_dvd hL
theorem Qb.neg (h : Qb B v m q) : Qb B v m (-q) := ⟨by rw [Rat.neg_num, Int.natAbs_neg]; exact h.v, h.d⟩
theorem Qb.sub (hB : 0 < B) (h : Qb B v m p) (k : Qb B v m q) : Qb B (v + 1) m (p - q) := by
  rw [Rat.sub_eq_add_neg]; exact h.add hB k.neg
theorem Qb.mul (hB : 0 < B) (h : Qb B v m p) (k : Qb B w l q) : Qb B (v + w) (m + l) (p * q) := by
  have e0 : p * q = Rat.divInt (p.num * q.num) ((p.den * q.den : Nat) : Int) := by
    rw [Int.natCast_mul, ← Rat.divInt_mul_divInt, Rat.num_divInt_den, Rat.num_divInt_den]
  have hpos : 0 < p.den * q.den := Nat.mul_pos (Nat.pos_of_ne_zero p.den_nz) (Nat.pos_of_ne_zero q.den_nz)
  constructor
  · have hr : ((p * q).den : Int) ≠ 0 := by have := (p * q).den_nz; omega
    have e : Rat.divInt (p * q).num (p * q).den = Rat.divInt (p.num * q.num) ((p.den * q.den : Nat) : Int) := by
      rw [Rat.num_divInt_den]; exact e0
    rw [Rat.divInt_eq_divInt_iff hr (by omega)] at e
    have e2 := congrArg Int.natAbs e
    rw [Int.natAbs_mul, Int.natAbs_mul, Int.natAbs_mul, Int.natAbs_natCast, Int.natAbs_natCast] at e2
    have b1 : p.num.natAbs * q.num.natAbs < 2 ^ (v + w) * (p.den * q.den) := by
      have := Nat.mul_lt_mul'' h.v k.v
      rw [Nat.pow_add]
      calc _ < 2 ^ v * p.den * (2 ^ w * q.den) := this
        _ = 2 ^ v * 2 ^ w * (p.den * q.den) := by rw [Nat.mul_mul_mul_comm]
    have hrp : 0 < (p * q).den := Nat.pos_of_ne_zero (p * q).den_nz
    refine Nat.lt_of_mul_lt_mul_right (a := p.den * q.den) ?_
    rw [e2]
    have := Nat.mul_lt_mul_of_pos_right b1 hrp
    calc _ < 2 ^ (v + w) * (p.den * q.den) * (p * q).den := this
      _ = 2 ^ (v + w) * (p * q).den * (p.den * q.den) := by rw [Nat.mul_right_comm]
  · have : (p * q).den ∣ p.den * q.den := by
      rw [e0]; exact den_divInt_dvd hpos
    refine Nat.dvd_trans this ?_
    rw [Nat.pow_add]
    exact Nat.mul_dvd_mul h.d k.d
end
end EV

/-! EvR: plus and product of ratios; rows of ratios, cut off. -/
namespace EV
open PySem
def pPlus (r : Nat) : Fn := ⟨2, 2,
  (.cons (.ret (.call r (.cons (.op2 false .add (.op2 false .mul (.op2 false .ix (.var 0) (.lit (.int 0))) (.op2 false .ix (.var 1) (.lit (.int 1)))) (.op2 false .mul (.op2 false .ix (.var 1) (.lit (.int 0))) (.op2 false .ix (.var 0) (.lit (.int 1))))) (.cons (.op2 false .mul (.op2 false .ix (.var 0) (.lit (.int 1))) (.op2 false .ix (.var 1) (.lit (.int 1)))) .nil))))
  .nil)⟩
def pProd (r : Nat) : Fn := ⟨2, 2,
  (.cons (.ret (.call r (.cons (.op2 false .mul (.op2 false .ix (.var 0) (.lit (.int 0))) (.op2 false .ix (.var 1) (.lit (.int 0)))) (.cons (.op2 false .mul (.op2 false .ix (.var 0) (.lit (.int 1))) (.op2 false .ix (.var 1) (.lit (.int 1)))) .nil))))
  .nil)⟩
section
variable {cf : Nat → List W → Mem → Option (W × Mem)} {G : List PyData} {wf : Nat} {M M1 M2 : Mem} {ρ : EV.Loc} {fs : List Fn}
theorem x_callE {f : Nat} {es : Es} {ws : List W} {r : Option (W × Mem)} (he : evalEs cf G wf es ρ M = some (ws, M1)) (hc : cf f ws M1 = r) : evalE cf G wf (.call f es) ρ M = r := by
  rw [evalE, he]; exact hc
theorem es_cons {e : E} {es : Es} {w : W} {ws : List W} (h : evalE cf G wf e ρ M = some (w, M1)) (h2 : evalEs cf G wf es ρ M1 = some (ws, M2)) : evalEs cf G wf (.cons e es) ρ M = some (w :: ws, M2) := by
  rw [evalEs, h]
  dsimp only
  rw [h2]
theorem es_nil : evalEs cf G wf .nil ρ M = some ([], M) := by rw [evalEs]
theorem e_tup {es : Es} {ws : List W} {xs : List PyData} (h : evalEs cf G wf es ρ M = some (ws, M1)) (hp : plain ws = some xs) (hl : xs.length ≤ sizeLine) : evalE cf G wf (.tup es) ρ M = some (.d (.tuple xs), M1) := by
  rw [evalE, h]
  dsimp only
  rw [hp]
  dsimp only
  rw [if_pos hl]
theorem sizeLine_eq : sizeLine = 16777216 := by decide
theorem ret_d {fn : Fn} {i k : Nat} {ws : List W} {x : PyData} (hf : fs[i]? = some fn) (hl : ws.length = fn.ar) (hb : evalSs (callF fs G wf k) G wf fn.body (ws.map some ++ List.replicate (fn.sl - fn.ar) none) M = some (.ret (.d x) M)) : callF fs G wf (k + 1) i ws M = some (.d x, M) := by
  rw [x_fin hf hl hb, List.take_length]
/-- what a ratio's maker does: the program's own, the law's -/
def Makes (fs : List Fn) (G : List PyData) (wf k r N : Nat) : Prop := ∀ (a b : Int) (M : Mem), 0 < b → sm N b → callF fs G wf k r [.d (.int a), .d (.int b)] M = some (.d (rat a b), M)
theorem makes_p {r k N : Nat} (h : fs[r]? = some pRatio) (hN : N < 9000) : Makes fs G wf (k + 1) r N := fun a b M hb hs => pratio_eq h (by omega) hs hN
theorem makes_l {r g k N : Nat} (h : fs[r]? = some (lRatio g)) (hg : fs[g]? = some lGcd) (hN : N < 9000) (hw : 2 ^ N ≤ wf) : Makes fs G wf (k + 2) r N := fun a b M hb hs => ratio_eq h hg hb (Nat.lt_of_lt_of_le hs hw) hs hN
variable {B v w m l : Nat} {p q : Rat}
theorem plus_enc {i r k N : Nat} (h : fs[i]? = some (pPlus r)) (hr : Makes fs G wf k r N) (hB : 0 < B) (h2 : B ≤ 256) (hp : Qb B v m p) (hq : Qb B w l q) (hN : 8 * m + 8 * l + 2 ≤ N) (hv : v + w + 8 * m + 8 * l + 1 < 100000000) :
    callF fs G wf (k + 1) i [.d (enc p), .d (enc q)] M = some (.d (enc (p + q)), M) := by
  have hpd := p.den_nz
  have hqd := q.den_nz
  have sp := hp.sd hB h2
  have sq := hq.sd hB h2
  have m1 := (hp.sn hB h2).ok sq (by omega)
  have m2 := (hq.sn hB h2).ok sp (by omega)
  have m3 := sp.ok sq (by omega)
  have hpos : (0 : Int) < (p.den : Int) * q.den := Int.mul_pos (by omega) (by omega)
  have e := hr (p.num * q.den + q.num * p.den) (p.den * q.den) M hpos ((sp.mul sq).mono (by omega))
  rw [rat_enc (by omega), ← Rat.divInt_add_divInt _ _ (by omega) (by omega), Rat.num_divInt_den, Rat.num_divInt_den] at e
  refine ret_d h rfl (x_stop (x_ret (x_callE (ws := [.d (.int (p.num * q.den + q.num * p.den)), .d (.int (p.den * q.den))]) (M1 := M) ?_ e)))
  simp [evalE, evalEs, evalB, evalIt, evalS, evalSs, evalTg, allB, allI, deref_d, deref_m, derefR_d, derefR_m, derefR_r, db_len, db_abs, db_int, db_all, db_any, db_sum, db_tuple, db_list, db_max, db_min, db_gcd, db_isi, derefs_nil, derefs_cons, plain_nil, plain_d, give_f, give_t, p_add, p_addT, p_addL, p_sub, p_mul, p_fdiv, p_mod, p_pow, p_lt, p_le, p_gt, p_ge, p_ixL, p_ixT, at_0, at_1, at_2, at_n, p_eqI, p_neI, s_nn, s_bb, s_in, s_bn, s_tn, s_ln, s_sn, s_nb, s_ib, s_tb, s_lb, s_sb, p_is, p_isn, q_lenL, q_lenT, q_abs, q_int, q_intb, q_all, q_any, q_sum, q_tupL, q_tupT, q_lstL, q_lstT, q_max, q_min, q_gcd, q_isi, t_tt, t_tl, t_ti, t_tb, t_tn, t_ts, t_it, t_il, t_ii, t_ib, t_in, t_is, t_bt, t_bl, t_bi, t_bb, t_bn, t_bs, t_st, t_sl, t_si, t_sb, t_sn, t_ss, r_none, r_bool, r_int, r_list, r_tup, f_d, st_m, pl_n, pl_0, pl_1, m_app, m_pop, tof_s, bt_v, sw_c, sw_n, ag_a, enc, m1, m2, m3]
theorem prod_enc {i r k N : Nat} (h : fs[i]? = some (pProd r)) (hr : Makes fs G wf k r N) (hB : 0 < B) (h2 : B ≤ 256) (hp : Qb B v m p) (hq : Qb B w l q) (hN : 8 * m + 8 * l + 2 ≤ N) (hv : v + w + 8 * m + 8 * l + 2 < 100000000) :
    callF fs G wf (k + 1) i [.d (enc p), .d (enc q)] M = some (.d (enc (p * q)), M) := by
  have hpd := p.den_nz
  have hqd := q.den_nz
  have sp := hp.sd hB h2
  have sq := hq.sd hB h2
  have m1 := (hp.sn hB h2).ok (hq.sn hB h2) (by omega)
  have m3 := sp.ok sq (by omega)
  have hpos : (0 : Int) < (p.den : Int) * q.den := Int.mul_pos (by omega) (by omega)
  have e := hr (p.num * q.num) (p.den * q.den) M hpos ((sp.mul sq).mono (by omega))
  rw [rat_enc (by omega), ← Rat.divInt_mul_divInt, Rat.num_divInt_den, Rat.num_divInt_den] at e
  refine ret_d h rfl (x_stop (x_ret (x_callE (ws := [.d (.int (p.num * q.num)), .d (.int (p.den * q.den))]) (M1 := M) ?_ e)))
  simp [evalE, evalEs, evalB, evalIt, evalS, evalSs, evalTg, allB, allI, deref_d, deref_m, derefR_d, derefR_m, derefR_r, db_len, db_abs, db_int, db_all, db_any, db_sum, db_tuple, db_list, db_max, db_min, db_gcd, db_isi, derefs_nil, derefs_cons, plain_nil, plain_d, give_f, give_t, p_add, p_addT, p_addL, p_sub, p_mul, p_fdiv, p_mod, p_pow, p_lt, p_le, p_gt, p_ge, p_ixL, p_ixT, at_0, at_1, at_2, at_n, p_eqI, p_neI, s_nn, s_bb, s_in, s_bn, s_tn, s_ln, s_sn, s_nb, s_ib, s_tb, s_lb, s_sb, p_is, p_isn, q_lenL, q_lenT, q_abs, q_int, q_intb, q_all, q_any, q_sum, q_tupL, q_tupT, q_lstL, q_lstT, q_max, q_min, q_gcd, q_isi, t_tt, t_tl, t_ti, t_tb, t_tn, t_ts, t_it, t_il, t_ii, t_ib, t_in, t_is, t_bt, t_bl, t_bi, t_bb, t_bn, t_bs, t_st, t_sl, t_si, t_sb, t_sn, t_ss, r_none, r_bool, r_int, r_list, r_tup, f_d, st_m, pl_n, pl_0, pl_1, m_app, m_pop, tof_s, bt_v, sw_c, sw_n, ag_a, enc, m1, m3]
/-! ### rows -/
theorem enc_inj (h : enc p = enc q) : p = q := by
  unfold enc pr at h
  simp only [PyData.tuple.injEq, List.cons.injEq, PyData.int.injEq, and_true] at h
  exact Rat.ext h.1 (by have := h.2; omega)
theorem eq_pr (a b c d : Int) : prim2 .eq (pr a b) (pr c d) = some (.bool (decide (a = c ∧ b = d))) := by
  have h : shEq (pr a b) (pr c d) = true := by simp [shEq, PyData.canLay0, PyData.canLayAll0, PyData.depth, PyData.depthAll, pr]
  show (peq (pr a b) (pr c d)).map PyData.bool = _
  unfold peq
  rw [if_pos h]
  by_cases h1 : a = c <;> by_cases h2 : b = d <;> simp [PyData.eqv, PyData.eqvAll, pr, h1, h2]
theorem eq_enc0 (q : Rat) : prim2 .eq (enc q) (pr 0 1) = some (.bool (decide (q = 0))) := by
  rw [enc, eq_pr]
  congr 2
  by_cases h : q = 0
  · subst h; decide
  · have : ¬ (q.num = 0 ∧ (q.den : Int) = 1) := fun ⟨a, b⟩ => h (Rat.ext a (by show q.den = 1; omega))
    simp [h, this]
end
end EV

/-! EvS: noughts at the end cut off. -/
namespace EV
open PySem
/-- the noughts at the end left out -/
def cutR : List Rat → List Rat
  | [] => []
  | x :: xs => if cutR xs = [] ∧ x = 0 then [] else x :: cutR xs
theorem cutR_len : ∀ f : List Rat, (cutR f).length ≤ f.length
  | [] => Nat.le_refl _
  | x :: xs => by
    rw [cutR]
    have := cutR_len xs
    split
    · exact Nat.zero_le _
    · simp only [List.length_cons]; omega
theorem cutR_take : ∀ f : List Rat, f.take (cutR f).length = cutR f
  | [] => rfl
  | x :: xs => by
    rw [cutR]
    split
    · rfl
    · rw [List.length_cons, List.take_succ_cons, cutR_take xs]
theorem cutR_zero : ∀ (f : List Rat) (i : Nat) (q : Rat), (cutR f).length ≤ i → f[i]? = some q → q = 0
  | [], i, q, _, h => by simp at h
  | x :: xs, i, q, hi, h => by
    rw [cutR] at hi
    split at hi
    · rename_i hc
      cases i with
      | zero => cases h; exact hc.2
      | succ i => exact cutR_zero xs i q (by rw [hc.1]; exact Nat.zero_le _) (by simpa using h)
    · cases i with
      | zero => simp at hi
      | succ i => exact cutR_zero xs i q (by simpa using hi) (by simpa using h)
theorem cutR_last : ∀ (f : List Rat) (n : Nat), (cutR f).length = n + 1 → ∃ q, f[n]? = some q ∧ q ≠ 0
  | [], n, h => by simp [cutR] at h
  | x :: xs, n, h => by
    rw [cutR] at h
    split at h
    · simp at h
    · rename_i hc
      rw [List.length_cons] at h
      cases n with
      | zero =>
        have : cutR xs = [] := List.length_eq_zero_iff.mp (by omega)
        exact ⟨x, rfl, fun e => hc ⟨this, e⟩⟩
      | succ n =>
        obtain ⟨q, h1, h2⟩ := cutR_last xs n (by omega)
        exact ⟨q, by simpa using h1, h2⟩
abbrev encs (f : List Rat) : List PyData := f.map enc
abbrev encP (f : List Rat) : PyData := .tuple (encs f)
def cutC (z : Nat) : E := .and (.cons (.op2 false .gt (.var 1) (.lit (.int 0))) (.cons (.op2 false .eq (.op2 false .ix (.var 0) (.op2 false .sub (.var 1) (.lit (.int 1)))) (.glb z)) .nil))
def cutB : Ss := .cons (.aug .sub 1 (.lit (.int 1))) .nil
def pCut (z : Nat) : Fn := ⟨1, 2,
  (.cons (.asg 1 (.blt false .len (.cons (.var 0) .nil)))
  (.cons (.whl (cutC z) cutB)
  (.cons (.ret (.blt false .tuple (.cons (.slc false false true (.var 0) (.lit .none) (.var 1)) .nil)))
  .nil)))⟩
section
variable {cf : Nat → List W → Mem → Option (W × Mem)} {G : List PyData} {wf : Nat} {M : Mem} {fs : List Fn} {z : Nat} {w : W} {f : List Rat}
theorem cut_test0 : testOf (evalE cf G wf (cutC z) [some w, some (.d (.int 0))] M) = some (false, M) :=
  t_bool (e_and (b_stop (c := false) (by simp [evalE, evalEs, evalB, evalIt, evalS, evalSs, evalTg, allB, allI, deref_d, deref_m, derefR_d, derefR_m, derefR_r, db_len, db_abs, db_int, db_all, db_any, db_sum, db_tuple, db_list, db_max, db_min, db_gcd, db_isi, derefs_nil, derefs_cons, plain_nil, plain_d, give_f, give_t, p_add, p_addT, p_addL, p_sub, p_mul, p_fdiv, p_mod, p_pow, p_lt, p_le, p_gt, p_ge, p_ixL, p_ixT, at_0, at_1, at_2, at_n, p_eqI, p_neI, s_nn, s_bb, s_in, s_bn, s_tn, s_ln, s_sn, s_nb, s_ib, s_tb, s_lb, s_sb, p_is, p_isn, q_lenL, q_lenT, q_abs, q_int, q_intb, q_all, q_any, q_sum, q_tupL, q_tupT, q_lstL, q_lstT, q_max, q_min, q_gcd, q_isi, t_tt, t_tl, t_ti, t_tb, t_tn, t_ts, t_it, t_il, t_ii, t_ib, t_in, t_is, t_bt, t_bl, t_bi, t_bb, t_bn, t_bs, t_st, t_sl, t_si, t_sb, t_sn, t_ss, r_none, r_bool, r_int, r_list, r_tup, f_d, st_m, pl_n, pl_0, pl_1, m_app, m_pop, tof_s, bt_v, sw_c, sw_n, ag_a]) (by decide)))
theorem cut_test {e : Nat} {q : Rat} (hz : G[z]? = some (pr 0 1)) (hw : derefR w M = some (.list (encs f))) (hq : f[e]? = some q) : testOf (evalE cf G wf (cutC z) [some w, some (.d (.int ((e + 1 : Nat) : Int)))] M) = some (decide (q = 0), M) := by
  refine t_bool (e_and (b_go (M1 := M) ?_ (b_one ?_)))
  · have : (0 : Int) < ((e + 1 : Nat) : Int) := by omega
    simp only [evalE, evalEs, evalB, evalIt, evalS, evalSs, evalTg, allB, allI, deref_d, deref_m, derefR_d, derefR_m, derefR_r, db_len, db_abs, db_int, db_all, db_any, db_sum, db_tuple, db_list, db_max, db_min, db_gcd, db_isi, derefs_nil, derefs_cons, plain_nil, plain_d, give_f, give_t, p_add, p_addT, p_addL, p_sub, p_mul, p_fdiv, p_mod, p_pow, p_lt, p_le, p_gt, p_ge, p_ixL, p_ixT, at_0, at_1, at_2, at_n, p_eqI, p_neI, s_nn, s_bb, s_in, s_bn, s_tn, s_ln, s_sn, s_nb, s_ib, s_tb, s_lb, s_sb, p_is, p_isn, q_lenL, q_lenT, q_abs, q_int, q_intb, q_all, q_any, q_sum, q_tupL, q_tupT, q_lstL, q_lstT, q_max, q_min, q_gcd, q_isi, t_tt, t_tl, t_ti, t_tb, t_tn, t_ts, t_it, t_il, t_ii, t_ib, t_in, t_is, t_bt, t_bl, t_bi, t_bb, t_bn, t_bs, t_st, t_sl, t_si, t_sb, t_sn, t_ss, r_none, r_bool, r_int, r_list, r_tup, f_d, st_m, pl_n, pl_0, pl_1, m_app, m_pop, tof_s, bt_v, sw_c, sw_n, ag_a, List.getElem?_cons_zero, List.getElem?_cons_succ, if_neg (show ¬ (P2.gt = P2.ix) by decide), decide_eq_true this]
  · have h1 : evalE cf G wf (.op2 false .sub (.var 1) (.lit (.int 1))) [some w, some (.d (.int ((e + 1 : Nat) : Int)))] M = some (.d (.int (e : Nat)), M) := by
      have : ((e + 1 : Nat) : Int) - 1 = (e : Nat) := by omega
      simp only [evalE, evalEs, evalB, evalIt, evalS, evalSs, evalTg, allB, allI, deref_d, deref_m, derefR_d, derefR_m, derefR_r, db_len, db_abs, db_int, db_all, db_any, db_sum, db_tuple, db_list, db_max, db_min, db_gcd, db_isi, derefs_nil, derefs_cons, plain_nil, plain_d, give_f, give_t, p_add, p_addT, p_addL, p_sub, p_mul, p_fdiv, p_mod, p_pow, p_lt, p_le, p_gt, p_ge, p_ixL, p_ixT, at_0, at_1, at_2, at_n, p_eqI, p_neI, s_nn, s_bb, s_in, s_bn, s_tn, s_ln, s_sn, s_nb, s_ib, s_tb, s_lb, s_sb, p_is, p_isn, q_lenL, q_lenT, q_abs, q_int, q_intb, q_all, q_any, q_sum, q_tupL, q_tupT, q_lstL, q_lstT, q_max, q_min, q_gcd, q_isi, t_tt, t_tl, t_ti, t_tb, t_tn, t_ts, t_it, t_il, t_ii, t_ib, t_in, t_is, t_bt, t_bl, t_bi, t_bb, t_bn, t_bs, t_st, t_sl, t_si, t_sb, t_sn, t_ss, r_none, r_bool, r_int, r_list, r_tup, f_d, st_m, pl_n, pl_0, pl_1, m_app, m_pop, tof_s, bt_v, sw_c, sw_n, ag_a, List.getElem?_cons_zero, List.getElem?_cons_succ, if_neg (show ¬ (P2.sub = P2.ix) by decide), this]
    have h2 : evalE cf G wf (.op2 false .ix (.var 0) (.op2 false .sub (.var 1) (.lit (.int 1)))) [some w, some (.d (.int ((e + 1 : Nat) : Int)))] M = some (.d (enc q), M) := by
      have h3 : evalE cf G wf (.var 0) [some w, some (.d (.int ((e + 1 : Nat) : Int)))] M = some (w, M) := by simp only [evalE, List.getElem?_cons_zero]
      have h4 : (encs f)[e]? = some (enc q) := by rw [List.getElem?_map, hq]; rfl
      rw [evalE, h3]
      dsimp only
      rw [h1]
      simp only [if_true, hw, deref_d, p_ixL, at_n, h4, give_f]
    have h5 : evalE cf G wf (.glb z) [some w, some (.d (.int ((e + 1 : Nat) : Int)))] M = some (.d (pr 0 1), M) := by rw [evalE, hz]
    rw [evalE, h2]
    dsimp only
    rw [h5]
    simp only [if_neg (show ¬ (P2.eq = P2.ix) by decide), deref_d, eq_enc0, give_f]
theorem cut_body {e : Nat} : evalSs cf G wf cutB [some w, some (.d (.int ((e + 1 : Nat) : Int)))] M = some (.nx [some w, some (.d (.int (e : Nat)))] M) := by
  have : ((e + 1 : Nat) : Int) - 1 = (e : Nat) := by omega
  have h : augOk .sub (.int ((e + 1 : Nat) : Int)) (.int 1) = some (.int (e : Nat)) := by show some (PyData.int (((e + 1 : Nat) : Int) - 1)) = _; rw [this]
  simp only [cutB, evalSs, evalS, evalE, List.getElem?_cons_zero, List.getElem?_cons_succ, h, List.set_cons_succ, List.set_cons_zero]
theorem cut_loop (hz : G[z]? = some (pr 0 1)) (hw : derefR w M = some (.list (encs f))) : ∀ (n e : Nat), (cutR f).length ≤ e → e ≤ f.length → e < n →
    whileL (fun ρ M => testOf (evalE cf G wf (cutC z) ρ M)) (fun ρ M => evalSs cf G wf cutB ρ M) n [some w, some (.d (.int (e : Nat)))] M = some (.nx [some w, some (.d (.int ((cutR f).length : Nat)))] M)
  | 0, e, _, _, h => by omega
  | n + 1, e, h1, h2, h3 => by
    unfold whileL
    cases e with
    | zero =>
      have e0 : (cutR f).length = 0 := by omega
      have := cut_test0 (cf := cf) (G := G) (wf := wf) (M := M) (z := z) (w := w)
      rw [show ((0 : Nat) : Int) = 0 from rfl, this, e0]
      rfl
    | succ e =>
      have hq : f[e]? = some f[e] := List.getElem?_eq_getElem (by omega)
      rw [cut_test hz hw hq]
      by_cases hc : (cutR f).length = e + 1
      · obtain ⟨q, g1, g2⟩ := cutR_last f e hc
        rw [hq] at g1
        cases g1
        rw [decide_eq_false g2, hc]
      · have := cutR_zero f e _ (by omega) hq
        rw [decide_eq_true this]
        dsimp only
        rw [cut_body]
        exact cut_loop hz hw n e (by omega) (by omega) (by omega)
theorem cut_eq {i k : Nat} (h : fs[i]? = some (pCut z)) (hz : G[z]? = some (pr 0 1)) (hw : derefR w M = some (.list (encs f))) (hd : deref w M = some (.list (encs f))) (hl : f.length < wf) (hs : f.length ≤ 1000000) : callF fs G wf (k + 1) i [w] M = some (.d (encP (cutR f)), M) := by
  have s1 : evalS (callF fs G wf k) G wf (.asg 1 (.blt false .len (.cons (.var 0) .nil))) [some w, none] M = some (.nx [some w, some (.d (.int (f.length : Nat)))] M) := by
    simp only [evalE, evalEs, evalB, evalIt, evalS, evalSs, evalTg, allB, allI, deref_d, deref_m, derefR_d, derefR_m, derefR_r, db_len, db_abs, db_int, db_all, db_any, db_sum, db_tuple, db_list, db_max, db_min, db_gcd, db_isi, derefs_nil, derefs_cons, plain_nil, plain_d, give_f, give_t, p_add, p_addT, p_addL, p_sub, p_mul, p_fdiv, p_mod, p_pow, p_lt, p_le, p_gt, p_ge, p_ixL, p_ixT, at_0, at_1, at_2, at_n, p_eqI, p_neI, s_nn, s_bb, s_in, s_bn, s_tn, s_ln, s_sn, s_nb, s_ib, s_tb, s_lb, s_sb, p_is, p_isn, q_lenL, q_lenT, q_abs, q_int, q_intb, q_all, q_any, q_sum, q_tupL, q_tupT, q_lstL, q_lstT, q_max, q_min, q_gcd, q_isi, t_tt, t_tl, t_ti, t_tb, t_tn, t_ts, t_it, t_il, t_ii, t_ib, t_in, t_is, t_bt, t_bl, t_bi, t_bb, t_bn, t_bs, t_st, t_sl, t_si, t_sb, t_sn, t_ss, r_none, r_bool, r_int, r_list, r_tup, f_d, st_m, pl_n, pl_0, pl_1, m_app, m_pop, tof_s, bt_v, sw_c, sw_n, ag_a, List.getElem?_cons_zero, hw, Option.map_some, List.length_map, List.set_cons_succ, List.set_cons_zero]
  have s2 : evalS (callF fs G wf k) G wf (.whl (cutC z) cutB) [some w, some (.d (.int (f.length : Nat)))] M = some (.nx [some w, some (.d (.int ((cutR f).length : Nat)))] M) := by
    rw [evalS]; exact cut_loop hz hw wf f.length (cutR_len f) (Nat.le_refl _) hl
  refine ret_d h rfl (x_cons s1 (x_cons s2 (x_stop (x_ret ?_))))
  have hc : primSl (.list (encs f)) none (some (((cutR f).length : Nat) : Int)) = some (.list (encs (cutR f))) := by
    show some (PyData.list (cutL (encs f) none (some (((cutR f).length : Nat) : Int)))) = _
    unfold cutL
    rw [HT.sIx_none, HT.sIx_nat, List.drop_zero, Nat.sub_zero, List.length_map, Nat.min_eq_left (cutR_len f), ← List.map_take, cutR_take]
  simp only [evalE, evalEs, evalB, evalIt, evalS, evalSs, evalTg, allB, allI, deref_d, deref_m, derefR_d, derefR_m, derefR_r, db_len, db_abs, db_int, db_all, db_any, db_sum, db_tuple, db_list, db_max, db_min, db_gcd, db_isi, derefs_nil, derefs_cons, plain_nil, plain_d, give_f, give_t, p_add, p_addT, p_addL, p_sub, p_mul, p_fdiv, p_mod, p_pow, p_lt, p_le, p_gt, p_ge, p_ixL, p_ixT, at_0, at_1, at_2, at_n, p_eqI, p_neI, s_nn, s_bb, s_in, s_bn, s_tn, s_ln, s_sn, s_nb, s_ib, s_tb, s_lb, s_sb, p_is, p_isn, q_lenL, q_lenT, q_abs, q_int, q_intb, q_all, q_any, q_sum, q_tupL, q_tupT, q_lstL, q_lstT, q_max, q_min, q_gcd, q_isi, t_tt, t_tl, t_ti, t_tb, t_tn, t_ts, t_it, t_il, t_ii, t_ib, t_in, t_is, t_bt, t_bl, t_bi, t_bb, t_bn, t_bs, t_st, t_sl, t_si, t_sb, t_sn, t_ss, r_none, r_bool, r_int, r_list, r_tup, f_d, st_m, pl_n, pl_0, pl_1, m_app, m_pop, tof_s, bt_v, sw_c, sw_n, ag_a, List.getElem?_cons_zero, List.getElem?_cons_succ, hd, bnd, hc, Option.map_some]
end
end EV

/-! EvT: values of polynomials. -/
namespace EV
open PySem
/-- the value at x of the row f of numbers -/
def ev : List Rat → Rat → Rat
  | [], _ => 0
  | c :: f, x => c + x * ev f x
theorem den_num (q : Rat) : (q.den : Rat) * q = q.num := by
  have h0 := Rat.num_divInt_den q
  rw [Rat.divInt_eq_div] at h0
  have hc : (((q.den : Nat) : Int) : Rat) = ((q.den : Nat) : Rat) := by first | rfl | norm_cast | exact Rat.intCast_natCast _
  rw [hc] at h0
  have hd : ((q.den : Nat) : Rat) ≠ 0 := by
    intro e
    have : ((q.den : Nat) : Rat) = ((0 : Nat) : Rat) := e
    have h1 := Rat.natCast_inj.mp this
    exact q.den_nz h1
  generalize hn : (q.num : Rat) = n at *
  generalize hm : ((q.den : Nat) : Rat) = d at *
  have h2 : q * d = n := by
    rw [← h0]; exact Rat.div_mul_cancel hd
  rw [Rat.mul_comm]; exact h2
theorem ev_int : ∀ f : List Rat, ∃ D : Nat, 0 < D ∧ ∀ n : Nat, ∃ z : Int, (D : Rat) * ev f (n : Rat) = (z : Rat)
  | [] => ⟨1, by decide, fun n => ⟨0, by simp [ev]⟩⟩
  | c :: f => by
    obtain ⟨D, hD, h⟩ := ev_int f
    refine ⟨c.den * D, Nat.mul_pos (Nat.pos_of_ne_zero c.den_nz) hD, fun n => ?_⟩
    obtain ⟨z, hz⟩ := h n
    refine ⟨D * c.num + n * c.den * z, ?_⟩
    have hc := den_num c
    rw [ev]
    push_cast
    grind
theorem ev_zero : ∀ (f : List Rat) (N : Nat), (∀ n : Nat, N ≤ n → ev f (n : Rat) = 0) → ∀ q ∈ f, q = 0
  | [], _, _, q, hq => by simp at hq
  | c :: f, N, h, q, hq => by
    obtain ⟨D, hD, hi⟩ := ev_int f
    have hc : c = 0 := by
      -- a whole number that is divided by every large n
      have hdiv : ∀ n : Nat, N ≤ n → ((n : Nat) : Int) ∣ (D : Int) * c.num := fun n hn => by
        obtain ⟨z, hz⟩ := hi n
        have h0 := h n hn
        rw [ev] at h0
        have hd := den_num c
        refine ⟨-(c.den * z), ?_⟩
        have : ((D : Int) * c.num : Rat) = (n : Int) * (-((c.den : Int) * z)) := by
          push_cast
          grind
        exact_mod_cast this
      have h1 := hdiv (N + (D * c.num.natAbs) + 1) (by omega)
      have h2 := Int.natAbs_dvd_natAbs.mpr h1
      rw [Int.natAbs_mul, Int.natAbs_natCast, Int.natAbs_natCast] at h2
      have h3 : D * c.num.natAbs = 0 := Nat.eq_zero_of_dvd_of_lt h2 (by omega)
      have h4 : c.num = 0 := by
        rcases Nat.mul_eq_zero.mp h3 with h | h
        · omega
        · omega
      exact Rat.num_eq_zero.mp h4
    rcases List.mem_cons.mp hq with rfl | hq
    · exact hc
    · refine ev_zero f (N + 1) (fun n hn => ?_) q hq
      have h0 := h n (by omega)
      rw [ev, hc] at h0
      have hn0 : (n : Rat) ≠ 0 := by
        intro e
        have : ((n : Nat) : Rat) = ((0 : Nat) : Rat) := e
        have := Rat.natCast_inj.mp this
        omega
      have : (n : Rat) * ev f n = 0 := by grind
      rcases Rat.mul_eq_zero.mp this with h | h
      · exact absurd h hn0
      · exact h
end EV

/-! EvU: rows without a nought at the end; sums. -/
namespace EV
open PySem
/-- no nought at the end -/
def Tr (f : List Rat) : Prop := ∀ q, f.getLast? = some q → q ≠ 0
theorem tr_cut (f : List Rat) : Tr (cutR f) := by
  intro q hq
  cases hl : (cutR f).length with
  | zero =>
    rw [List.length_eq_zero_iff.mp hl] at hq
    cases hq
  | succ n =>
    obtain ⟨u, h1, h2⟩ := cutR_last f n hl
    have h3 : (cutR f)[n]? = some u := by
      rw [← cutR_take f, List.getElem?_take_of_lt (by omega)]; exact h1
    rw [List.getLast?_eq_getElem?, hl] at hq
    rw [show n + 1 - 1 = n by omega, h3] at hq
    cases hq
    exact h2
theorem ev_cut : ∀ (f : List Rat) (x : Rat), ev (cutR f) x = ev f x
  | [], _ => rfl
  | c :: f, x => by
    rw [cutR]
    have ih := ev_cut f x
    split
    · rename_i h
      rw [h.1] at ih
      rw [ev, ev, ← ih, h.2, ev]
      grind
    · rw [ev, ev, ih]
def dif : List Rat → List Rat → List Rat
  | [], g => g.map (fun q => -q)
  | f, [] => f
  | a :: f, b :: g => (a - b) :: dif f g
theorem ev_neg : ∀ (g : List Rat) (x : Rat), ev (g.map fun q => -q) x = -ev g x
  | [], _ => by simp [ev]
  | c :: g, x => by
    rw [List.map_cons, ev, ev, ev_neg g x]
    grind
theorem ev_dif : ∀ (f g : List Rat) (x : Rat), ev (dif f g) x = ev f x - ev g x
  | [], g, x => by rw [dif, ev_neg, ev]; grind
  | a :: f, [], x => by
    have h1 : dif (a :: f) [] = a :: f := rfl
    have h2 : ev [] x = 0 := rfl
    rw [h1, h2]; grind
  | a :: f, b :: g, x => by rw [dif, ev, ev, ev, ev_dif f g x]; grind
theorem ev_all0 : ∀ (f : List Rat) (x : Rat), (∀ q ∈ f, q = 0) → ev f x = 0
  | [], _, _ => rfl
  | c :: f, x, h => by
    rw [ev, h c (by simp), ev_all0 f x fun q hq => h q (by simp [hq])]
    grind
theorem Tr.tail {c : Rat} {f : List Rat} (h : Tr (c :: f)) : Tr f := by
  intro q hq
  cases f with
  | nil => cases hq
  | cons d f => exact h q (by rw [List.getLast?_cons_cons]; exact hq)
theorem tr_zero {f : List Rat} (h : Tr f) (h0 : ∀ q ∈ f, q = 0) : f = [] := by
  cases hf : f.getLast? with
  | none => exact List.getLast?_eq_none_iff.mp hf
  | some q => exact absurd (h0 q (List.mem_of_getLast? hf)) (h q hf)
/-- two such rows with the same values are the same -/
theorem ev_inj : ∀ {f g : List Rat}, Tr f → Tr g → (∀ x : Rat, ev f x = ev g x) → f = g
  | [], g, _, hg, h => (tr_zero hg fun q hq => ev_zero g 0 (fun n _ => (h n).symm) q hq).symm
  | a :: f, [], hf, _, h => tr_zero hf fun q hq => ev_zero (a :: f) 0 (fun n _ => h n) q hq
  | a :: f, b :: g, hf, hg, h => by
    have hz := ev_zero (dif (a :: f) (b :: g)) 0 (fun n _ => by rw [ev_dif, h]; grind)
    rw [dif] at hz
    have h1 : a - b = 0 := hz _ (by simp)
    have h2 : a = b := by grind
    have h3 : ∀ x : Rat, ev f x = ev g x := fun x => by
      have := ev_all0 (dif f g) x fun q hq => hz q (by simp [hq])
      rw [ev_dif] at this
      grind
    rw [h2, ev_inj hf.tail hg.tail h3]
/-- sums -/
def addR : List Rat → List Rat → List Rat
  | [], g => g
  | f, [] => f
  | a :: f, b :: g => (a + b) :: addR f g
theorem ev_add : ∀ (f g : List Rat) (x : Rat), ev (addR f g) x = ev f x + ev g x
  | [], g, x => by rw [addR, ev]; grind
  | a :: f, [], x => by
    have h1 : addR (a :: f) [] = a :: f := rfl
    have h2 : ev [] x = 0 := rfl
    rw [h1, h2]; grind
  | a :: f, b :: g, x => by rw [addR, ev, ev, ev, ev_add f g x]; grind
theorem add_len : ∀ (f g : List Rat), (addR f g).length = max f.length g.length
  | [], g => by simp [addR]
  | a :: f, [] => by simp [addR]
  | a :: f, b :: g => by rw [addR, List.length_cons, add_len f g, List.length_cons, List.length_cons]; omega
theorem add_comm' : ∀ (f g : List Rat), addR f g = addR g f
  | [], [] => rfl
  | [], b :: g => by simp [addR]
  | a :: f, [] => by simp [addR]
  | a :: f, b :: g => by rw [addR, addR, add_comm' f g, Rat.add_comm]
theorem add_at : ∀ (f g : List Rat) (j : Nat) (a : Rat), g.length ≤ f.length → f[j]? = some a → (addR f g)[j]? = some (match g[j]? with
    | some b => a + b
    | none => a)
  | [], g, j, a, _, h => by simp at h
  | c :: f, [], j, a, _, h => by simp [addR, h]
  | c :: f, d :: g, 0, a, _, h => by cases h; simp [addR]
  | c :: f, d :: g, j + 1, a, hl, h => by
    rw [addR]
    simpa using add_at f g j a (by simpa using hl) (by simpa using h)
def Qbs (B v m : Nat) (f : List Rat) : Prop := ∀ q ∈ f, Qb B v m q
theorem qb_zero {B v m : Nat} : Qb B v m 0 := ⟨by show 0 < 2 ^ v * 1; rw [Nat.mul_one]; exact Nat.pow_pos (by decide), by show 1 ∣ _; exact Nat.one_dvd _⟩
theorem Qbs.mono {B v m w l : Nat} {f : List Rat} (h : Qbs B v m f) (hv : v ≤ w) (hm : m ≤ l) : Qbs B w l f := fun q hq => (h q hq).mono hv hm
theorem Qbs.cut {B v m : Nat} {f : List Rat} (h : Qbs B v m f) : Qbs B v m (cutR f) := fun q hq => h q (by
  rw [← cutR_take f] at hq; exact List.mem_of_mem_take hq)
theorem Qbs.add {B v m : Nat} (hB : 0 < B) : ∀ {f g : List Rat}, Qbs B v m f → Qbs B v m g → Qbs B (v + 1) m (addR f g)
  | [], g, _, hg => by rw [addR]; exact hg.mono (by omega) (Nat.le_refl _)
  | a :: f, [], hf, _ => hf.mono (Nat.le_succ _) (Nat.le_refl _)
  | a :: f, b :: g, hf, hg => by
    rw [addR]
    intro q hq
    rcases List.mem_cons.mp hq with rfl | hq
    · exact (hf a (by simp)).add hB (hg b (by simp))
    · exact Qbs.add hB (fun q hq => hf q (by simp [hq])) (fun q hq => hg q (by simp [hq])) q hq
/-! ### comprehensions -/
theorem compL_map {f : PyData → List PyData → Mem → Option (List PyData × Mem)} {M : Mem} : ∀ (xs ys acc : List PyData), xs.length = ys.length → acc.length + ys.length ≤ sizeLine → (∀ (j : Nat) x y, xs[j]? = some x → ys[j]? = some y → ∀ acc : List PyData, acc.length < sizeLine → f x acc M = some (acc ++ [y], M)) → compL f xs acc M = some (acc ++ ys, M)
  | [], [], acc, _, _, _ => by rw [compL, List.append_nil]
  | [], _ :: _, _, h, _, _ => by simp at h
  | _ :: _, [], _, h, _, _ => by simp at h
  | x :: xs, y :: ys, acc, hl, hs, h => by
    rw [List.length_cons] at hs
    rw [compL, h 0 x y rfl rfl acc (by omega)]
    dsimp only
    rw [compL_map xs ys (acc ++ [y]) (by simpa using hl) (by simp; omega) fun j a b h1 h2 => h (j + 1) a b (by simpa using h1) (by simpa using h2)]
    simp
theorem tc_go {cf : Nat → List W → Mem → Option (W × Mem)} {G : List PyData} {wf : Nat} {own : List Nat} {tg : T} {c elt : E} {ρ ρ2 : EV.Loc} {M : Mem} {x y : PyData} {acc : List PyData} (hb : bindT tg x (wipeL ρ own) = some ρ2) (hc : testOf (evalE cf G wf c ρ2 M) = some (true, M)) (he : evalE cf G wf elt ρ2 M = some (.d y, M)) (ha : acc.length < sizeLine) :
    tc cf G wf own tg c elt ρ x acc M = some (acc ++ [y], M) := by
  unfold tc
  rw [hb]
  dsimp only
  rw [hc]
  dsimp only
  rw [he]
  dsimp only
  rw [if_pos ha]
theorem t_lit {cf : Nat → List W → Mem → Option (W × Mem)} {G : List PyData} {wf : Nat} {ρ : EV.Loc} {M : Mem} : testOf (evalE cf G wf (.lit (.bool true)) ρ M) = some (true, M) := by rw [evalE]; rfl
end EV

/-! EvV: sum_of, multiple. -/
namespace EV
open PySem
def sumC (p : Nat) : E := .comp false [2, 3] (.tv [2, 3]) (.enum (.var 0)) (.lit (.bool true)) (.ife (.op2 false .lt (.var 2) (.blt false .len (.cons (.var 1) .nil))) (.call p (.cons (.var 3) (.cons (.op2 false .ix (.var 1) (.var 2)) .nil))) (.var 3))
def pSum (p c : Nat) : Fn := ⟨2, 4,
  (.cons (.ife (.op2 false .lt (.blt false .len (.cons (.var 0) .nil)) (.blt false .len (.cons (.var 1) .nil)))
   (.cons (.asgT (.nm 0 (.nm 1 .nil)) (.tup (.cons (.var 1) (.cons (.var 0) .nil))))
   .nil)
   .nil)
  (.cons (.ret (.call c (.cons (sumC p) .nil)))
  .nil))⟩
def mulC (o : Nat) : E := .comp false [2] (.v 2) (.seq (.var 1)) (.lit (.bool true)) (.call o (.cons (.var 0) (.cons (.var 2) .nil)))
def pMulti (z o : Nat) : Fn := ⟨2, 3,
  (.cons (.ret (.ife (.op2 false .eq (.var 0) (.glb z)) (.tup .nil) (.blt false .tuple (.cons (mulC o) .nil))))
  .nil)⟩
theorem pairs_at {xs : List PyData} {j : Nat} {x : PyData} (h : (pairs 0 xs)[j]? = some x) : ∃ y, xs[j]? = some y ∧ x = .tuple [.int (j : Nat), y] := by
  have hj : j < xs.length := by
    have := (List.getElem?_eq_some_iff.mp h).1
    rwa [pairs_length] at this
  have := pairs_get 0 xs j xs[j] (List.getElem?_eq_getElem hj)
  rw [h, Nat.zero_add] at this
  exact ⟨xs[j], List.getElem?_eq_getElem hj, Option.some.inj this⟩
section
variable {G : List PyData} {wf : Nat} {M : Mem} {fs : List Fn} {z p c r k N B v m w l : Nat} {f g : List Rat}
theorem sum_comp (hp : fs[p]? = some (pPlus r)) (hr : Makes fs G wf k r N) (hB : 0 < B) (h2 : B ≤ 256) (hf : Qbs B v m f) (hg : Qbs B v m g) (hN : 16 * m + 2 ≤ N) (hv : 2 * v + 16 * m + 2 < 100000000) (hl : g.length ≤ f.length) (hs : f.length ≤ 1000000) :
    evalE (callF fs G wf (k + 1)) G wf (sumC p) [some (.d (encP f)), some (.d (encP g)), none, none] M = some (.d (.list (encs (addR f g))), M) := by
  have hz := sizeLine_eq
  have hit : evalIt (callF fs G wf (k + 1)) G wf (.enum (.var 0)) [some (.d (encP f)), some (.d (encP g)), none, none] M = some (.its (pairs 0 (encs f)), M) := by
    simp only [evalIt, evalE, List.getElem?_cons_zero, seqs]
  refine x_comp hit (compL_map (pairs 0 (encs f)) (encs (addR f g)) [] ?_ ?_ ?_) ?_
  · rw [pairs_length, List.length_map, List.length_map, add_len]; omega
  · rw [List.length_map, add_len, hz]; simp; omega
  · intro j x y hx hy acc ha
    obtain ⟨u, hu, rfl⟩ := pairs_at hx
    rw [List.getElem?_map] at hu hy
    cases hfj : f[j]? with
    | none => rw [hfj] at hu; cases hu
    | some a =>
      rw [hfj] at hu
      have hu : enc a = u := Option.some.inj hu
      subst hu
      rw [add_at f g j a hl hfj] at hy
      have hy : enc (match g[j]? with
        | some b => a + b
        | none => a) = y := Option.some.inj hy
      have t1 : ∀ M : Mem, testOf (evalE (callF fs G wf (k + 1)) G wf (.op2 false .lt (.var 2) (.blt false .len (.cons (.var 1) .nil))) [some (.d (encP f)), some (.d (encP g)), some (.d (.int (j : Nat))), some (.d (enc a))] M) = some (decide (j < g.length), M) := fun M => by
        simp [evalE, evalEs, evalB, evalIt, evalS, evalSs, evalTg, allB, allI, deref_d, deref_m, derefR_d, derefR_m, derefR_r, db_len, db_abs, db_int, db_all, db_any, db_sum, db_tuple, db_list, db_max, db_min, db_gcd, db_isi, derefs_nil, derefs_cons, plain_nil, plain_d, give_f, give_t, p_add, p_addT, p_addL, p_sub, p_mul, p_fdiv, p_mod, p_pow, p_lt, p_le, p_gt, p_ge, p_ixL, p_ixT, at_0, at_1, at_2, at_n, p_eqI, p_neI, s_nn, s_bb, s_in, s_bn, s_tn, s_ln, s_sn, s_nb, s_ib, s_tb, s_lb, s_sb, p_is, p_isn, q_lenL, q_lenT, q_abs, q_int, q_intb, q_all, q_any, q_sum, q_tupL, q_tupT, q_lstL, q_lstT, q_max, q_min, q_gcd, q_isi, t_tt, t_tl, t_ti, t_tb, t_tn, t_ts, t_it, t_il, t_ii, t_ib, t_in, t_is, t_bt, t_bl, t_bi, t_bb, t_bn, t_bs, t_st, t_sl, t_si, t_sb, t_sn, t_ss, r_none, r_bool, r_int, r_list, r_tup, f_d, st_m, pl_n, pl_0, pl_1, m_app, m_pop, tof_s, bt_v, sw_c, sw_n, ag_a, encP, encs]
      refine tc_go (ρ2 := [some (.d (encP f)), some (.d (encP g)), some (.d (.int (j : Nat))), some (.d (enc a))]) rfl t_lit ?_ ha
      cases hgj : g[j]? with
      | none =>
        rw [hgj] at hy
        subst hy
        have : ¬ j < g.length := by
          have := List.getElem?_eq_none_iff.mp hgj; omega
        rw [evalE, t1, decide_eq_false this]
        simp only [evalE, List.getElem?_cons_zero, List.getElem?_cons_succ]
      | some b =>
        rw [hgj] at hy
        subst hy
        have hlt : j < g.length := (List.getElem?_eq_some_iff.mp hgj).1
        rw [evalE, t1, decide_eq_true hlt]
        have hb : (encs g)[j]? = some (enc b) := by rw [List.getElem?_map, hgj]; rfl
        refine x_callE (ws := [.d (enc a), .d (enc b)]) (M1 := M) ?_ (plus_enc hp hr hB h2 (hf a (List.mem_of_getElem? hfj)) (hg b (List.mem_of_getElem? hgj)) (by omega) (by omega))
        simp only [evalE, evalEs, evalB, evalIt, evalS, evalSs, evalTg, allB, allI, deref_d, deref_m, derefR_d, derefR_m, derefR_r, db_len, db_abs, db_int, db_all, db_any, db_sum, db_tuple, db_list, db_max, db_min, db_gcd, db_isi, derefs_nil, derefs_cons, plain_nil, plain_d, give_f, give_t, p_add, p_addT, p_addL, p_sub, p_mul, p_fdiv, p_mod, p_pow, p_lt, p_le, p_gt, p_ge, p_ixL, p_ixT, at_0, at_1, at_2, at_n, p_eqI, p_neI, s_nn, s_bb, s_in, s_bn, s_tn, s_ln, s_sn, s_nb, s_ib, s_tb, s_lb, s_sb, p_is, p_isn, q_lenL, q_lenT, q_abs, q_int, q_intb, q_all, q_any, q_sum, q_tupL, q_tupT, q_lstL, q_lstT, q_max, q_min, q_gcd, q_isi, t_tt, t_tl, t_ti, t_tb, t_tn, t_ts, t_it, t_il, t_ii, t_ib, t_in, t_is, t_bt, t_bl, t_bi, t_bb, t_bn, t_bs, t_st, t_sl, t_si, t_sb, t_sn, t_ss, r_none, r_bool, r_int, r_list, r_tup, f_d, st_m, pl_n, pl_0, pl_1, m_app, m_pop, tof_s, bt_v, sw_c, sw_n, ag_a, List.getElem?_cons_zero, List.getElem?_cons_succ, if_true, hb]
  · rfl
/-- sum_of -/
theorem sum_eq {i : Nat} (h : fs[i]? = some (pSum p c)) (hc : fs[c]? = some (pCut z)) (hp : fs[p]? = some (pPlus r)) (hz : G[z]? = some (pr 0 1)) (hr : Makes fs G wf k r N) (hB : 0 < B) (h2 : B ≤ 256) (hf : Qbs B v m f) (hg : Qbs B v m g) (hN : 16 * m + 2 ≤ N) (hv : 2 * v + 16 * m + 2 < 100000000)
    (hlf : f.length ≤ 100000) (hlg : g.length ≤ 100000) (hw : 1000000 ≤ wf) : callF fs G wf (k + 2) i [.d (encP f), .d (encP g)] M = some (.d (encP (cutR (addR f g))), M) := by
  have hsz := sizeLine_eq
  have fin : ∀ f g : List Rat, Qbs B v m f → Qbs B v m g → g.length ≤ f.length → f.length ≤ 100000 → evalE (callF fs G wf (k + 1)) G wf (.call c (.cons (sumC p) .nil)) [some (.d (encP f)), some (.d (encP g)), none, none] M = some (.d (encP (cutR (addR f g))), M) := fun f g hf hg hl hs => by
    have hs2 := sum_comp (M := M) hp hr hB h2 hf hg hN hv hl (by omega)
    refine x_callE (es_cons hs2 es_nil) (cut_eq hc hz rfl rfl ?_ ?_)
    · rw [add_len]; omega
    · rw [add_len]; omega
  have ht : testOf (evalE (callF fs G wf (k + 1)) G wf (.op2 false .lt (.blt false .len (.cons (.var 0) .nil)) (.blt false .len (.cons (.var 1) .nil))) [some (.d (encP f)), some (.d (encP g)), none, none] M) = some (decide (f.length < g.length), M) := by
    simp [evalE, evalEs, evalB, evalIt, evalS, evalSs, evalTg, allB, allI, deref_d, deref_m, derefR_d, derefR_m, derefR_r, db_len, db_abs, db_int, db_all, db_any, db_sum, db_tuple, db_list, db_max, db_min, db_gcd, db_isi, derefs_nil, derefs_cons, plain_nil, plain_d, give_f, give_t, p_add, p_addT, p_addL, p_sub, p_mul, p_fdiv, p_mod, p_pow, p_lt, p_le, p_gt, p_ge, p_ixL, p_ixT, at_0, at_1, at_2, at_n, p_eqI, p_neI, s_nn, s_bb, s_in, s_bn, s_tn, s_ln, s_sn, s_nb, s_ib, s_tb, s_lb, s_sb, p_is, p_isn, q_lenL, q_lenT, q_abs, q_int, q_intb, q_all, q_any, q_sum, q_tupL, q_tupT, q_lstL, q_lstT, q_max, q_min, q_gcd, q_isi, t_tt, t_tl, t_ti, t_tb, t_tn, t_ts, t_it, t_il, t_ii, t_ib, t_in, t_is, t_bt, t_bl, t_bi, t_bb, t_bn, t_bs, t_st, t_sl, t_si, t_sb, t_sn, t_ss, r_none, r_bool, r_int, r_list, r_tup, f_d, st_m, pl_n, pl_0, pl_1, m_app, m_pop, tof_s, bt_v, sw_c, sw_n, ag_a, encP, encs]
  by_cases hl : f.length < g.length
  · rw [decide_eq_true hl] at ht
    have s1 : evalSs (callF fs G wf (k + 1)) G wf (.cons (.asgT (.nm 0 (.nm 1 .nil)) (.tup (.cons (.var 1) (.cons (.var 0) .nil)))) .nil) [some (.d (encP f)), some (.d (encP g)), none, none] M = some (.nx [some (.d (encP g)), some (.d (encP f)), none, none] M) := by
      have e : evalE (callF fs G wf (k + 1)) G wf (.tup (.cons (.var 1) (.cons (.var 0) .nil))) [some (.d (encP f)), some (.d (encP g)), none, none] M = some (.d (.tuple [encP g, encP f]), M) :=
        e_tup (es_cons (w := .d (encP g)) (M1 := M) (by rw [evalE]; rfl) (es_cons (w := .d (encP f)) (M1 := M) (by rw [evalE]; rfl) es_nil)) rfl (by rw [hsz]; show 2 ≤ _; decide)
      rw [evalSs, evalS, e]
      rfl
    rw [add_comm']
    exact ret_d h rfl (x_cons (x_ifT ht s1) (x_stop (x_ret (fin g f hg hf (by omega) hlg))))
  · rw [decide_eq_false hl] at ht
    exact ret_d h rfl (x_cons (x_ifF ht) (x_stop (x_ret (fin f g hf hg (by omega) hlf))))
/-- multiple, by a number that is not nought -/
theorem multi_eq {i o : Nat} {q : Rat} (h : fs[i]? = some (pMulti z o)) (ho : fs[o]? = some (pProd r)) (hz : G[z]? = some (pr 0 1)) (hr : Makes fs G wf k r N) (hB : 0 < B) (h2 : B ≤ 256) (hq : Qb B w l q) (hf : Qbs B v m f) (hN : 8 * l + 8 * m + 2 ≤ N) (hv : w + v + 8 * l + 8 * m + 2 < 100000000)
    (hlf : f.length ≤ 100000) : callF fs G wf (k + 2) i [.d (enc q), .d (encP f)] M = some (.d (encP (if q = 0 then [] else f.map (q * ·))), M) := by
  have hsz := sizeLine_eq
  have ht : testOf (evalE (callF fs G wf (k + 1)) G wf (.op2 false .eq (.var 0) (.glb z)) [some (.d (enc q)), some (.d (encP f)), none] M) = some (decide (q = 0), M) := by
    have h5 : evalE (callF fs G wf (k + 1)) G wf (.glb z) [some (.d (enc q)), some (.d (encP f)), none] M = some (.d (pr 0 1), M) := by rw [evalE, hz]
    have h6 : evalE (callF fs G wf (k + 1)) G wf (.var 0) [some (.d (enc q)), some (.d (encP f)), none] M = some (.d (enc q), M) := by rw [evalE]; rfl
    refine t_bool ?_
    rw [evalE, h6]
    dsimp only
    rw [h5]
    simp only [if_neg (show ¬ (P2.eq = P2.ix) by decide), deref_d, eq_enc0, give_f]
  suffices go : evalE (callF fs G wf (k + 1)) G wf (.ife (.op2 false .eq (.var 0) (.glb z)) (.tup .nil) (.blt false .tuple (.cons (mulC o) .nil))) [some (.d (enc q)), some (.d (encP f)), none] M = some (.d (encP (if q = 0 then [] else f.map (q * ·))), M) from
    ret_d h rfl (x_stop (x_ret go))
  by_cases h0 : q = 0
  · rw [decide_eq_true h0] at ht
    rw [evalE, ht, if_pos h0]
    exact e_tup es_nil rfl (Nat.zero_le _)
  · rw [decide_eq_false h0] at ht
    rw [evalE, ht, if_neg h0]
    have hit : evalIt (callF fs G wf (k + 1)) G wf (.seq (.var 1)) [some (.d (enc q)), some (.d (encP f)), none] M = some (.its (encs f), M) := by
      simp only [evalIt, evalE, List.getElem?_cons_zero, List.getElem?_cons_succ, items]
    have hc : evalE (callF fs G wf (k + 1)) G wf (mulC o) [some (.d (enc q)), some (.d (encP f)), none] M = some (.d (.list (encs (f.map (q * ·)))), M) := by
      refine x_comp hit (compL_map (encs f) (encs (f.map (q * ·))) [] (by simp) (by rw [hsz]; simp; omega) fun j x y hx hy acc ha => ?_) rfl
      rw [List.getElem?_map] at hx
      rw [List.getElem?_map, List.getElem?_map] at hy
      cases hfj : f[j]? with
      | none => rw [hfj] at hx; cases hx
      | some a =>
        rw [hfj] at hx hy
        have hx : enc a = x := Option.some.inj hx
        have hy : enc (q * a) = y := Option.some.inj hy
        subst hx hy
        refine tc_go (ρ2 := [some (.d (enc q)), some (.d (encP f)), some (.d (enc a))]) rfl t_lit ?_ ha
        exact x_callE (ws := [.d (enc q), .d (enc a)]) (M1 := M) (by simp only [evalE, evalEs, evalB, evalIt, evalS, evalSs, evalTg, allB, allI, deref_d, deref_m, derefR_d, derefR_m, derefR_r, db_len, db_abs, db_int, db_all, db_any, db_sum, db_tuple, db_list, db_max, db_min, db_gcd, db_isi, derefs_nil, derefs_cons, plain_nil, plain_d, give_f, give_t, p_add, p_addT, p_addL, p_sub, p_mul, p_fdiv, p_mod, p_pow, p_lt, p_le, p_gt, p_ge, p_ixL, p_ixT, at_0, at_1, at_2, at_n, p_eqI, p_neI, s_nn, s_bb, s_in, s_bn, s_tn, s_ln, s_sn, s_nb, s_ib, s_tb, s_lb, s_sb, p_is, p_isn, q_lenL, q_lenT, q_abs, q_int, q_intb, q_all, q_any, q_sum, q_tupL, q_tupT, q_lstL, q_lstT, q_max, q_min, q_gcd, q_isi, t_tt, t_tl, t_ti, t_tb, t_tn, t_ts, t_it, t_il, t_ii, t_ib, t_in, t_is, t_bt, t_bl, t_bi, t_bb, t_bn, t_bs, t_st, t_sl, t_si, t_sb, t_sn, t_ss, r_none, r_bool, r_int, r_list, r_tup, f_d, st_m, pl_n, pl_0, pl_1, m_app, m_pop, tof_s, bt_v, sw_c, sw_n, ag_a, List.getElem?_cons_zero, List.getElem?_cons_succ]) (prod_enc ho hr hB h2 hq (hf a (List.mem_of_getElem? hfj)) (by omega) (by omega))
    dsimp only
    rw [evalE, es_cons hc es_nil]
    rfl
end
end EV

/-! EvW: multiply. -/
namespace EV
open PySem
/-- powers -/
def pw (x : Rat) : Nat → Rat
  | 0 => 1
  | k + 1 => x * pw x k
theorem pw_add (x : Rat) : ∀ i j : Nat, pw x (i + j) = pw x i * pw x j
  | 0, j => by rw [Nat.zero_add, pw]; grind
  | i + 1, j => by rw [show i + 1 + j = (i + j) + 1 by omega, pw, pw, pw_add x i j]; grind
theorem ev_set (x c : Rat) : ∀ (t : List Rat) (k : Nat) (d : Rat), t[k]? = some d → ev (t.set k (d + c)) x = ev t x + c * pw x k
  | [], k, d, h => by simp at h
  | a :: t, 0, d, h => by
    cases h
    rw [List.set_cons_zero, ev, ev, pw]; grind
  | a :: t, k + 1, d, h => by
    rw [List.set_cons_succ, ev, ev, ev_set x c t k d (by simpa using h), pw]; grind
theorem ev_take (x : Rat) : ∀ (g : List Rat) (j : Nat) (b : Rat), g[j]? = some b → ev (g.take (j + 1)) x = ev (g.take j) x + b * pw x j
  | [], j, b, h => by simp at h
  | a :: g, 0, b, h => by
    have hab : a = b := Option.some.inj h
    subst hab
    show ev [a] x = ev [] x + a * pw x 0
    have h0 : ev [] x = 0 := rfl
    have h1 : ev [a] x = a + x * 0 := rfl
    rw [h0, h1, pw]; grind
  | a :: g, j + 1, b, h => by
    rw [List.take_succ_cons, List.take_succ_cons, ev, ev, ev_take x g j b (by simpa using h), pw]; grind
theorem ev_rep (x : Rat) : ∀ n : Nat, ev (List.replicate n 0) x = 0
  | 0 => rfl
  | n + 1 => by rw [List.replicate_succ, ev, ev_rep x n]; grind
def mB2 (p o : Nat) : Ss := .cons (.asgIx (.var 2) (.op2 false .add (.var 3) (.var 5)) (.call p (.cons (.op2 false .ix (.var 2) (.op2 false .add (.var 3) (.var 5))) (.cons (.call o (.cons (.var 4) (.cons (.var 6) .nil))) .nil)))) .nil
def mB1 (z p o : Nat) : Ss := .cons (.ife (.op2 false .ne (.var 4) (.glb z)) (.cons (.fr (.tv [5, 6]) (.enum (.var 1)) (mB2 p o)) .nil) .nil) .nil
def pMul (z p o c : Nat) : Fn := ⟨2, 7,
  (.cons (.ife (.or (.cons (.not (.var 0)) (.cons (.not (.var 1)) .nil)))
   (.cons (.ret (.tup .nil))
   .nil)
   .nil)
  (.cons (.asg 2 (.op2 true .mul (.lst false (.cons (.glb z) .nil)) (.op2 false .sub (.op2 false .add (.blt false .len (.cons (.var 0) .nil)) (.blt false .len (.cons (.var 1) .nil))) (.lit (.int 1)))))
  (.cons (.fr (.tv [3, 4]) (.enum (.var 0)) (mB1 z p o))
  (.cons (.ret (.call c (.cons (.var 2) .nil)))
  .nil))))⟩
theorem ne_enc0 (q : Rat) : prim2 .ne (enc q) (pr 0 1) = some (.bool (!decide (q = 0))) := by
  have h := eq_enc0 q
  have h1 : (peq (enc q) (pr 0 1)).map PyData.bool = some (.bool (decide (q = 0))) := h
  show (peq (enc q) (pr 0 1)).map (fun b => PyData.bool !b) = _
  cases e : peq (enc q) (pr 0 1) with
  | none => rw [e] at h1; cases h1
  | some b =>
    rw [e] at h1
    have : PyData.bool b = .bool (decide (q = 0)) := Option.some.inj h1
    cases this
    rfl
section
variable {G : List PyData} {wf : Nat} {M0 : Mem} {fs : List Fn} {z p o c r k N B v m w l i : Nat} {f g told : List Rat} {a : Rat}
abbrev mR (f g : List Rat) (n : Nat) (x3 x4 x5 x6 : Option W) : EV.Loc := [some (.d (encP f)), some (.d (encP g)), some (.m n), x3, x4, x5, x6]
abbrev mM (M0 : Mem) (t : List Rat) : Mem := M0 ++ [.lst (encs t)]
theorem mul_step {j s : Nat} {b d : Rat} (hp : fs[p]? = some (pPlus r)) (ho : fs[o]? = some (pProd r)) (hr : Makes fs G wf k r N) (hB : 0 < B) (h2 : B ≤ 256) (ha : Qb B v m a) (hb : Qb B w l b) (ht : Qb B s (m + l) d) (hd : told[i + j]? = some d) (hs : v + w ≤ s) (hN : 16 * (m + l) + 2 ≤ N) (hv : 2 * s + 16 * (m + l) + 2 < 100000000) :
    evalSs (callF fs G wf (k + 1)) G wf (mB2 p o) (mR f g M0.length (some (.d (.int (i : Nat)))) (some (.d (enc a))) (some (.d (.int (j : Nat)))) (some (.d (enc b)))) (mM M0 told) = some (.nx (mR f g M0.length (some (.d (.int (i : Nat)))) (some (.d (enc a))) (some (.d (.int (j : Nat)))) (some (.d (enc b)))) (mM M0 (told.set (i + j) (d + a * b)))) := by
  have hix : evalE (callF fs G wf (k + 1)) G wf (.op2 false .add (.var 3) (.var 5)) (mR f g M0.length (some (.d (.int (i : Nat)))) (some (.d (enc a))) (some (.d (.int (j : Nat)))) (some (.d (enc b)))) (mM M0 told) = some (.d (.int ((i + j : Nat) : Int)), mM M0 told) := by
    simp only [evalE, evalEs, evalB, evalIt, evalS, evalSs, evalTg, allB, allI, deref_d, deref_m, derefR_d, derefR_m, derefR_r, db_len, db_abs, db_int, db_all, db_any, db_sum, db_tuple, db_list, db_max, db_min, db_gcd, db_isi, derefs_nil, derefs_cons, plain_nil, plain_d, give_f, give_t, p_add, p_addT, p_addL, p_sub, p_mul, p_fdiv, p_mod, p_pow, p_lt, p_le, p_gt, p_ge, p_ixL, p_ixT, at_0, at_1, at_2, at_n, p_eqI, p_neI, s_nn, s_bb, s_in, s_bn, s_tn, s_ln, s_sn, s_nb, s_ib, s_tb, s_lb, s_sb, p_is, p_isn, q_lenL, q_lenT, q_abs, q_int, q_intb, q_all, q_any, q_sum, q_tupL, q_tupT, q_lstL, q_lstT, q_max, q_min, q_gcd, q_isi, t_tt, t_tl, t_ti, t_tb, t_tn, t_ts, t_it, t_il, t_ii, t_ib, t_in, t_is, t_bt, t_bl, t_bi, t_bb, t_bn, t_bs, t_st, t_sl, t_si, t_sb, t_sn, t_ss, r_none, r_bool, r_int, r_list, r_tup, f_d, st_m, pl_n, pl_0, pl_1, m_app, m_pop, tof_s, bt_v, sw_c, sw_n, ag_a, List.getElem?_cons_zero, List.getElem?_cons_succ, if_neg (show ¬ (P2.add = P2.ix) by decide)]
    rfl
  have hv2 : evalE (callF fs G wf (k + 1)) G wf (.var 2) (mR f g M0.length (some (.d (.int (i : Nat)))) (some (.d (enc a))) (some (.d (.int (j : Nat)))) (some (.d (enc b)))) (mM M0 told) = some (.m M0.length, mM M0 told) := by rw [evalE]; rfl
  have htop : (mM M0 told)[M0.length]? = some (.lst (encs told)) := top_get
  have hlt : i + j < told.length := (List.getElem?_eq_some_iff.mp hd).1
  have hat : evalE (callF fs G wf (k + 1)) G wf (.op2 false .ix (.var 2) (.op2 false .add (.var 3) (.var 5))) (mR f g M0.length (some (.d (.int (i : Nat)))) (some (.d (enc a))) (some (.d (.int (j : Nat)))) (some (.d (enc b)))) (mM M0 told) = some (.d (enc d), mM M0 told) := by
    have h4 : (encs told)[i + j]? = some (enc d) := by rw [List.getElem?_map, hd]; rfl
    rw [evalE, hv2]
    dsimp only
    rw [hix]
    simp only [if_true, derefR_m, deref_m, htop, deref_d, p_ixL, at_n, h4, give_f]
  have hprod : evalE (callF fs G wf (k + 1)) G wf (.call o (.cons (.var 4) (.cons (.var 6) .nil))) (mR f g M0.length (some (.d (.int (i : Nat)))) (some (.d (enc a))) (some (.d (.int (j : Nat)))) (some (.d (enc b)))) (mM M0 told) = some (.d (enc (a * b)), mM M0 told) :=
    x_callE (es_cons (w := .d (enc a)) (M1 := mM M0 told) (by rw [evalE]; rfl) (es_cons (w := .d (enc b)) (M1 := mM M0 told) (by rw [evalE]; rfl) es_nil)) (prod_enc ho hr hB h2 ha hb (by omega) (by omega))
  have hsum : evalE (callF fs G wf (k + 1)) G wf (.call p (.cons (.op2 false .ix (.var 2) (.op2 false .add (.var 3) (.var 5))) (.cons (.call o (.cons (.var 4) (.cons (.var 6) .nil))) .nil))) (mR f g M0.length (some (.d (.int (i : Nat)))) (some (.d (enc a))) (some (.d (.int (j : Nat)))) (some (.d (enc b)))) (mM M0 told) = some (.d (enc (d + a * b)), mM M0 told) :=
    x_callE (es_cons hat (es_cons hprod es_nil)) (plus_enc hp hr hB h2 ht (ha.mul hB hb) (by omega) (by omega))
  refine x_cons (ρ' := mR f g M0.length (some (.d (.int (i : Nat)))) (some (.d (enc a))) (some (.d (.int (j : Nat)))) (some (.d (enc b)))) (M' := mM M0 (told.set (i + j) (d + a * b))) ?_ rfl
  have hst : store (.m M0.length) (.int ((i + j : Nat) : Int)) (enc (d + a * b)) (mM M0 told) = some (mM M0 (told.set (i + j) (d + a * b))) := by
    rw [st_m, htop]
    dsimp only
    rw [List.length_map, pl_n, if_pos hlt]
    dsimp only
    rw [show mM M0 told = M0 ++ [.lst (encs told)] from rfl, top_set, ← List.map_set]
  rw [evalS, hsum]
  dsimp only
  rw [hv2]
  dsimp only
  rw [hix]
  dsimp only
  rw [hst]
/-- the inner loop -/
theorem mul_inner {s L : Nat} {x5 x6 : Option W} (hp : fs[p]? = some (pPlus r)) (ho : fs[o]? = some (pProd r)) (hr : Makes fs G wf k r N) (hB : 0 < B) (h2 : B ≤ 256) (ha : Qb B v m a) (hg : Qbs B w l g) (ht : Qbs B s (m + l) told) (hL : told.length = L) (hi : i + g.length ≤ L) (hs : v + w ≤ s) (hN : 16 * (m + l) + 2 ≤ N) (hv : 2 * (s + g.length) + 16 * (m + l) + 2 < 100000000) :
    ∃ (t : List Rat) (y5 y6 : Option W), t.length = L ∧ Qbs B (s + g.length) (m + l) t ∧ (∀ x, ev t x = ev told x + a * pw x i * ev g x) ∧
      evalS (callF fs G wf (k + 1)) G wf (.fr (.tv [5, 6]) (.enum (.var 1)) (mB2 p o)) (mR f g M0.length (some (.d (.int (i : Nat)))) (some (.d (enc a))) x5 x6) (mM M0 told) = some (.nx (mR f g M0.length (some (.d (.int (i : Nat)))) (some (.d (enc a))) y5 y6) (mM M0 t)) := by
  have hit : evalIt (callF fs G wf (k + 1)) G wf (.enum (.var 1)) (mR f g M0.length (some (.d (.int (i : Nat)))) (some (.d (enc a))) x5 x6) (mM M0 told) = some (.its (pairs 0 (encs g)), mM M0 told) := by
    simp only [evalIt, evalE, List.getElem?_cons_zero, List.getElem?_cons_succ, seqs]
  obtain ⟨ρ', M', e, t, y5, y6, rfl, rfl, h1, h3, h4⟩ := forL_for (f := turnG (callF fs G wf (k + 1)) G wf (.tv [5, 6]) (mB2 p o)) (xs := pairs 0 (encs g)) (fun j ρ M => ∃ (t : List Rat) (y5 y6 : Option W), ρ = mR f g M0.length (some (.d (.int (i : Nat)))) (some (.d (enc a))) y5 y6 ∧ M = mM M0 t ∧ t.length = L ∧ Qbs B (s + j) (m + l) t ∧ ∀ x, ev t x = ev told x + a * pw x i * ev (g.take j) x)
    (fun ρ M => ∃ (t : List Rat) (y5 y6 : Option W), ρ = mR f g M0.length (some (.d (.int (i : Nat)))) (some (.d (enc a))) y5 y6 ∧ M = mM M0 t ∧ t.length = L ∧ Qbs B (s + g.length) (m + l) t ∧ ∀ x, ev t x = ev told x + a * pw x i * ev g x) (fun j x ρ M hx hI => by
      obtain ⟨u, hu, rfl⟩ := pairs_at hx
      obtain ⟨t, y5, y6, rfl, rfl, h1, h3, h4⟩ := hI
      rw [List.getElem?_map] at hu
      cases hgj : g[j]? with
      | none => rw [hgj] at hu; cases hu
      | some b =>
        rw [hgj] at hu
        have hu : enc b = u := Option.some.inj hu
        subst hu
        have hj : j < g.length := (List.getElem?_eq_some_iff.mp hgj).1
        have hd : t[i + j]? = some t[i + j] := List.getElem?_eq_getElem (by omega)
        have hq := h3 _ (List.getElem_mem (by omega : i + j < t.length))
        have step := mul_step (f := f) (g := g) (M0 := M0) (told := t) (i := i) (j := j) hp ho hr hB h2 ha (hg b (List.mem_of_getElem? hgj)) hq hd (by omega) hN (by omega)
        refine ⟨_, _, .inl ⟨step, t.set (i + j) (t[i + j] + a * b), _, _, rfl, rfl, by rw [List.length_set]; exact h1, fun q hq' => ?_, fun x => ?_⟩⟩
        · rcases List.mem_or_eq_of_mem_set hq' with h | h
          · exact (h3 q h).mono (by omega) (Nat.le_refl _)
          · subst h
            exact (hq.add hB ((ha.mul hB (hg b (List.mem_of_getElem? hgj))).mono (by omega) (Nat.le_refl _))).mono (by omega) (Nat.le_refl _)
        · rw [ev_set x (a * b) t (i + j) _ hd, h4, ev_take x g j b hgj, pw_add]; grind) (fun ρ M hI => by
      obtain ⟨t, y5, y6, e1, e2, h1, h3, h4⟩ := hI
      rw [pairs_length, List.length_map] at h3 h4
      exact ⟨t, y5, y6, e1, e2, h1, h3, fun x => by rw [h4, List.take_length]⟩) (ρ := mR f g M0.length (some (.d (.int (i : Nat)))) (some (.d (enc a))) x5 x6) (M := mM M0 told) ⟨told, x5, x6, rfl, rfl, hL, ht, fun x => by rw [List.take_zero]; have : ev [] x = 0 := rfl; rw [this]; grind⟩
  exact ⟨t, y5, y6, h1, h3, h4, x_for hit e⟩
theorem p_mulN {xs : List PyData} {k : Int} {n : Nat} (hk : k.toNat = n) (h1 : small62 k = true) (h2 : xs.length * n ≤ sizeLine) : prim2 .mul (.list xs) (.int k) = some (.list (List.replicate n xs).flatten) := by
  subst hk
  exact if_pos ⟨h1, h2⟩
theorem rep_flat : ∀ n : Nat, (List.replicate n [pr 0 1]).flatten = encs (List.replicate n 0)
  | 0 => rfl
  | n + 1 => by rw [List.replicate_succ, List.flatten_cons, rep_flat n, List.replicate_succ]; rfl
theorem one_le {n : Nat} (hn : n < 1000000) : [pr 0 1].length * n ≤ sizeLine := by
  have h : [pr 0 1].length = 1 := rfl
  rw [h, Nat.one_mul, sizeLine_eq]; omega
theorem mul_rep {n : Nat} (hn : n < 1000000) : prim2 .mul (.list [pr 0 1]) (.int (n : Int)) = some (.list (encs (List.replicate n 0))) :=
  (p_mulN (Int.toNat_natCast n) (small_len hn) (one_le hn)).trans (congrArg (fun l => some (PyData.list l)) (rep_flat n))
theorem x_opM {cf : Nat → List W → Mem → Option (W × Mem)} {M M1 M2 : Mem} {ρ : EV.Loc} {p : P2} {a b : E} {x y : PyData} {zs : List PyData} (ha : evalE cf G wf a ρ M = some (.d x, M1)) (hb : evalE cf G wf b ρ M1 = some (.d y, M2)) (hp : prim2 p x y = some (.list zs)) (hn : p ≠ .ix) : evalE cf G wf (.op2 true p a b) ρ M = some (.m M2.length, M2 ++ [.lst zs]) := by
  rw [evalE, ha]
  dsimp only
  rw [hb]
  simp only [if_neg hn, deref_d, hp, give_t]
/-- multiply: a row without a nought at the end, whose values are the products -/
theorem mul_eq {i : Nat} {M : Mem} (h : fs[i]? = some (pMul z p o c)) (hc : fs[c]? = some (pCut z)) (hp : fs[p]? = some (pPlus r)) (ho : fs[o]? = some (pProd r)) (hz : G[z]? = some (pr 0 1)) (hr : Makes fs G wf k r N) (hB : 0 < B) (h2 : B ≤ 256) (hf : Qbs B v m f) (hg : Qbs B w l g)
    (hN : 16 * (m + l) + 2 ≤ N) (hv : 2 * (v + w + f.length * g.length + g.length) + 16 * (m + l) + 2 < 100000000) (hlf : f.length ≤ 100000) (hlg : g.length ≤ 100000) (hw : 1000000 ≤ wf) :
    ∃ t : List Rat, callF fs G wf (k + 2) i [.d (encP f), .d (encP g)] M = some (.d (encP t), M) ∧ Tr t ∧ (∀ x, ev t x = ev f x * ev g x) ∧ Qbs B (v + w + f.length * g.length) (m + l) t ∧ t.length ≤ f.length + g.length := by
  have hsz := sizeLine_eq
  have ht : testOf (evalE (callF fs G wf (k + 1)) G wf (.or (.cons (.not (.var 0)) (.cons (.not (.var 1)) .nil))) [some (.d (encP f)), some (.d (encP g)), none, none, none, none, none] M) = some (f.isEmpty || g.isEmpty, M) := by
    have a1 : evalE (callF fs G wf (k + 1)) G wf (.not (.var 0)) [some (.d (encP f)), some (.d (encP g)), none, none, none, none, none] M = some (.d (.bool f.isEmpty), M) := by
      cases f <;> simp [evalE, evalEs, evalB, evalIt, evalS, evalSs, evalTg, allB, allI, deref_d, deref_m, derefR_d, derefR_m, derefR_r, db_len, db_abs, db_int, db_all, db_any, db_sum, db_tuple, db_list, db_max, db_min, db_gcd, db_isi, derefs_nil, derefs_cons, plain_nil, plain_d, give_f, give_t, p_add, p_addT, p_addL, p_sub, p_mul, p_fdiv, p_mod, p_pow, p_lt, p_le, p_gt, p_ge, p_ixL, p_ixT, at_0, at_1, at_2, at_n, p_eqI, p_neI, s_nn, s_bb, s_in, s_bn, s_tn, s_ln, s_sn, s_nb, s_ib, s_tb, s_lb, s_sb, p_is, p_isn, q_lenL, q_lenT, q_abs, q_int, q_intb, q_all, q_any, q_sum, q_tupL, q_tupT, q_lstL, q_lstT, q_max, q_min, q_gcd, q_isi, t_tt, t_tl, t_ti, t_tb, t_tn, t_ts, t_it, t_il, t_ii, t_ib, t_in, t_is, t_bt, t_bl, t_bi, t_bb, t_bn, t_bs, t_st, t_sl, t_si, t_sb, t_sn, t_ss, r_none, r_bool, r_int, r_list, r_tup, f_d, st_m, pl_n, pl_0, pl_1, m_app, m_pop, tof_s, bt_v, sw_c, sw_n, ag_a]
    have a2 : evalE (callF fs G wf (k + 1)) G wf (.not (.var 1)) [some (.d (encP f)), some (.d (encP g)), none, none, none, none, none] M = some (.d (.bool g.isEmpty), M) := by
      cases g <;> simp [evalE, evalEs, evalB, evalIt, evalS, evalSs, evalTg, allB, allI, deref_d, deref_m, derefR_d, derefR_m, derefR_r, db_len, db_abs, db_int, db_all, db_any, db_sum, db_tuple, db_list, db_max, db_min, db_gcd, db_isi, derefs_nil, derefs_cons, plain_nil, plain_d, give_f, give_t, p_add, p_addT, p_addL, p_sub, p_mul, p_fdiv, p_mod, p_pow, p_lt, p_le, p_gt, p_ge, p_ixL, p_ixT, at_0, at_1, at_2, at_n, p_eqI, p_neI, s_nn, s_bb, s_in, s_bn, s_tn, s_ln, s_sn, s_nb, s_ib, s_tb, s_lb, s_sb, p_is, p_isn, q_lenL, q_lenT, q_abs, q_int, q_intb, q_all, q_any, q_sum, q_tupL, q_tupT, q_lstL, q_lstT, q_max, q_min, q_gcd, q_isi, t_tt, t_tl, t_ti, t_tb, t_tn, t_ts, t_it, t_il, t_ii, t_ib, t_in, t_is, t_bt, t_bl, t_bi, t_bb, t_bn, t_bs, t_st, t_sl, t_si, t_sb, t_sn, t_ss, r_none, r_bool, r_int, r_list, r_tup, f_d, st_m, pl_n, pl_0, pl_1, m_app, m_pop, tof_s, bt_v, sw_c, sw_n, ag_a]
    cases hf0 : f.isEmpty with
    | true =>
      rw [hf0] at a1
      rw [Bool.true_or]
      exact t_bool (e_or (b_stop a1 (by decide)))
    | false =>
      rw [hf0] at a1
      rw [Bool.false_or]
      exact t_bool (e_or (b_go a1 (b_one a2)))
  cases he : (f.isEmpty || g.isEmpty) with
  | true =>
    rw [he] at ht
    refine ⟨[], ret_d h rfl (x_stop (x_ifT ht (x_stop (x_ret (e_tup es_nil rfl (Nat.zero_le _)))))), fun q hq => (by cases hq), fun x => ?_, fun q hq => (by cases hq), Nat.zero_le _⟩
    rw [Bool.or_eq_true, List.isEmpty_iff, List.isEmpty_iff] at he
    have h0 : ev [] x = 0 := rfl
    rcases he with rfl | rfl
    · rw [h0]; grind
    · rw [h0]; grind
  | false =>
    rw [he] at ht
    rw [Bool.or_eq_false_iff] at he
    have f1 : 1 ≤ f.length := by
      cases f with
      | nil => cases he.1
      | cons _ _ => simp
    have g1 : 1 ≤ g.length := by
      cases g with
      | nil => cases he.2
      | cons _ _ => simp
    generalize hL : f.length + g.length - 1 = L at *
    have s2 : evalS (callF fs G wf (k + 1)) G wf (.asg 2 (.op2 true .mul (.lst false (.cons (.glb z) .nil)) (.op2 false .sub (.op2 false .add (.blt false .len (.cons (.var 0) .nil)) (.blt false .len (.cons (.var 1) .nil))) (.lit (.int 1))))) [some (.d (encP f)), some (.d (encP g)), none, none, none, none, none] M = some (.nx (mR f g M.length none none none none) (mM M (List.replicate L 0))) := by
      have e1 : evalE (callF fs G wf (k + 1)) G wf (.lst false (.cons (.glb z) .nil)) [some (.d (encP f)), some (.d (encP g)), none, none, none, none, none] M = some (.d (.list [pr 0 1]), M) := by
        have h5 : evalE (callF fs G wf (k + 1)) G wf (.glb z) [some (.d (encP f)), some (.d (encP g)), none, none, none, none, none] M = some (.d (pr 0 1), M) := by rw [evalE, hz]
        rw [evalE, es_cons h5 es_nil]
        simp [evalE, evalEs, evalB, evalIt, evalS, evalSs, evalTg, allB, allI, deref_d, deref_m, derefR_d, derefR_m, derefR_r, db_len, db_abs, db_int, db_all, db_any, db_sum, db_tuple, db_list, db_max, db_min, db_gcd, db_isi, derefs_nil, derefs_cons, plain_nil, plain_d, give_f, give_t, p_add, p_addT, p_addL, p_sub, p_mul, p_fdiv, p_mod, p_pow, p_lt, p_le, p_gt, p_ge, p_ixL, p_ixT, at_0, at_1, at_2, at_n, p_eqI, p_neI, s_nn, s_bb, s_in, s_bn, s_tn, s_ln, s_sn, s_nb, s_ib, s_tb, s_lb, s_sb, p_is, p_isn, q_lenL, q_lenT, q_abs, q_int, q_intb, q_all, q_any, q_sum, q_tupL, q_tupT, q_lstL, q_lstT, q_max, q_min, q_gcd, q_isi, t_tt, t_tl, t_ti, t_tb, t_tn, t_ts, t_it, t_il, t_ii, t_ib, t_in, t_is, t_bt, t_bl, t_bi, t_bb, t_bn, t_bs, t_st, t_sl, t_si, t_sb, t_sn, t_ss, r_none, r_bool, r_int, r_list, r_tup, f_d, st_m, pl_n, pl_0, pl_1, m_app, m_pop, tof_s, bt_v, sw_c, sw_n, ag_a, hsz]
      have e2 : evalE (callF fs G wf (k + 1)) G wf (.op2 false .sub (.op2 false .add (.blt false .len (.cons (.var 0) .nil)) (.blt false .len (.cons (.var 1) .nil))) (.lit (.int 1))) [some (.d (encP f)), some (.d (encP g)), none, none, none, none, none] M = some (.d (.int (L : Nat)), M) := by
        have : (f.length : Int) + g.length - 1 = (L : Nat) := by omega
        simp only [evalE, evalEs, evalB, evalIt, evalS, evalSs, evalTg, allB, allI, deref_d, deref_m, derefR_d, derefR_m, derefR_r, db_len, db_abs, db_int, db_all, db_any, db_sum, db_tuple, db_list, db_max, db_min, db_gcd, db_isi, derefs_nil, derefs_cons, plain_nil, plain_d, give_f, give_t, p_add, p_addT, p_addL, p_sub, p_mul, p_fdiv, p_mod, p_pow, p_lt, p_le, p_gt, p_ge, p_ixL, p_ixT, at_0, at_1, at_2, at_n, p_eqI, p_neI, s_nn, s_bb, s_in, s_bn, s_tn, s_ln, s_sn, s_nb, s_ib, s_tb, s_lb, s_sb, p_is, p_isn, q_lenL, q_lenT, q_abs, q_int, q_intb, q_all, q_any, q_sum, q_tupL, q_tupT, q_lstL, q_lstT, q_max, q_min, q_gcd, q_isi, t_tt, t_tl, t_ti, t_tb, t_tn, t_ts, t_it, t_il, t_ii, t_ib, t_in, t_is, t_bt, t_bl, t_bi, t_bb, t_bn, t_bs, t_st, t_sl, t_si, t_sb, t_sn, t_ss, r_none, r_bool, r_int, r_list, r_tup, f_d, st_m, pl_n, pl_0, pl_1, m_app, m_pop, tof_s, bt_v, sw_c, sw_n, ag_a, List.getElem?_cons_zero, List.getElem?_cons_succ, if_neg (show ¬ (P2.sub = P2.ix) by decide), if_neg (show ¬ (P2.add = P2.ix) by decide), Option.map_some, List.length_map, this]
      have e3 := mul_rep (n := L) (by omega)
      rw [evalS, x_opM e1 e2 e3 (by decide)]
      rfl
    have hit : evalIt (callF fs G wf (k + 1)) G wf (.enum (.var 0)) (mR f g M.length none none none none) (mM M (List.replicate L 0)) = some (.its (pairs 0 (encs f)), mM M (List.replicate L 0)) := by
      simp only [evalIt, evalE, List.getElem?_cons_zero, List.getElem?_cons_succ, seqs]
    obtain ⟨ρ', M', e, t, y3, y4, y5, y6, rfl, rfl, h1, h3, h4⟩ := forL_for (f := turnG (callF fs G wf (k + 1)) G wf (.tv [3, 4]) (mB1 z p o)) (xs := pairs 0 (encs f)) (fun j ρ M' => ∃ (t : List Rat) (y3 y4 y5 y6 : Option W), ρ = mR f g M.length y3 y4 y5 y6 ∧ M' = mM M t ∧ t.length = L ∧ Qbs B (v + w + j * g.length) (m + l) t ∧ ∀ x, ev t x = ev (f.take j) x * ev g x)
      (fun ρ M' => ∃ (t : List Rat) (y3 y4 y5 y6 : Option W), ρ = mR f g M.length y3 y4 y5 y6 ∧ M' = mM M t ∧ t.length = L ∧ Qbs B (v + w + f.length * g.length) (m + l) t ∧ ∀ x, ev t x = ev f x * ev g x) (fun j x ρ M' hx hI => by
        obtain ⟨u, hu, rfl⟩ := pairs_at hx
        obtain ⟨t, y3, y4, y5, y6, rfl, rfl, h1, h3, h4⟩ := hI
        rw [List.getElem?_map] at hu
        cases hfj : f[j]? with
        | none => rw [hfj] at hu; cases hu
        | some a =>
          rw [hfj] at hu
          have hu : enc a = u := Option.some.inj hu
          subst hu
          have hj : j < f.length := (List.getElem?_eq_some_iff.mp hfj).1
          have hjm : j * g.length + g.length ≤ f.length * g.length := by
            have := Nat.mul_le_mul_right g.length (show j + 1 ≤ f.length from hj)
            rw [Nat.add_mul, Nat.one_mul] at this; exact this
          have hj1 : (j + 1) * g.length = j * g.length + g.length := by rw [Nat.add_mul, Nat.one_mul]
          have hte : ∀ M' : Mem, testOf (evalE (callF fs G wf (k + 1)) G wf (.op2 false .ne (.var 4) (.glb z)) (mR f g M.length (some (.d (.int (j : Nat)))) (some (.d (enc a))) y5 y6) M') = some (!decide (a = 0), M') := fun M' => by
            have h5 : evalE (callF fs G wf (k + 1)) G wf (.glb z) (mR f g M.length (some (.d (.int (j : Nat)))) (some (.d (enc a))) y5 y6) M' = some (.d (pr 0 1), M') := by rw [evalE, hz]
            have h6 : evalE (callF fs G wf (k + 1)) G wf (.var 4) (mR f g M.length (some (.d (.int (j : Nat)))) (some (.d (enc a))) y5 y6) M' = some (.d (enc a), M') := by rw [evalE]; rfl
            refine t_bool ?_
            rw [evalE, h6]
            dsimp only
            rw [h5]
            simp only [if_neg (show ¬ (P2.ne = P2.ix) by decide), deref_d, ne_enc0, give_f]
          by_cases ha0 : a = 0
          · have hte := hte (mM M t)
            rw [decide_eq_true ha0] at hte
            refine ⟨mR f g M.length (some (.d (.int (j : Nat)))) (some (.d (enc a))) y5 y6, mM M t, .inl ⟨x_cons (x_ifF hte) rfl, t, _, _, _, _, rfl, rfl, h1, h3.mono (by omega) (Nat.le_refl _), fun x => ?_⟩⟩
            rw [h4, ev_take x f j a hfj, ha0]; grind
          · have hte := hte (mM M t)
            rw [decide_eq_false ha0] at hte
            obtain ⟨t', z5, z6, g1', g3, g4, ge⟩ := mul_inner (f := f) (g := g) (M0 := M) (told := t) (i := j) (x5 := y5) (x6 := y6) hp ho hr hB h2 (hf a (List.mem_of_getElem? hfj)) hg h3 h1 (by omega) (by omega) hN (by omega)
            refine ⟨_, _, .inl ⟨x_cons (x_ifT hte (x_cons ge rfl)) rfl, t', _, _, _, _, rfl, rfl, g1', g3.mono (by omega) (Nat.le_refl _), fun x => ?_⟩⟩
            rw [g4, h4, ev_take x f j a hfj]; grind) (fun ρ M' hI => by
        obtain ⟨t, y3, y4, y5, y6, e1, e2, h1, h3, h4⟩ := hI
        rw [pairs_length, List.length_map] at h3 h4
        exact ⟨t, y3, y4, y5, y6, e1, e2, h1, h3, fun x => by rw [h4, List.take_length]⟩) (ρ := mR f g M.length none none none none) (M := mM M (List.replicate L 0)) ⟨List.replicate L 0, none, none, none, none, rfl, rfl, by simp, fun q hq => (by rw [List.eq_of_mem_replicate hq]; exact qb_zero), fun x => by rw [ev_rep, List.take_zero]; have : ev [] x = 0 := rfl; rw [this]; grind⟩
    have hcut : evalE (callF fs G wf (k + 1)) G wf (.call c (.cons (.var 2) .nil)) (mR f g M.length y3 y4 y5 y6) (mM M t) = some (.d (encP (cutR t)), mM M t) := by
      have htop : (mM M t)[M.length]? = some (.lst (encs t)) := top_get
      exact x_callE (es_cons (w := .m M.length) (M1 := mM M t) (by rw [evalE]; rfl) es_nil) (cut_eq hc hz (by rw [derefR_m, deref_m, htop]) (by rw [deref_m, htop]) (by omega) (by omega))
    refine ⟨cutR t, ?_, tr_cut t, fun x => by rw [ev_cut, h4], h3.cut, Nat.le_trans (cutR_len t) (by omega)⟩
    have go : evalSs (callF fs G wf (k + 1)) G wf (pMul z p o c).body [some (.d (encP f)), some (.d (encP g)), none, none, none, none, none] M = some (.ret (.d (encP (cutR t))) (mM M t)) := x_cons (x_ifF ht) (x_cons s2 (x_cons (x_for hit e) (x_stop (x_ret hcut))))
    rw [x_fin h rfl (by exact go), show mM M t = M ++ [.lst (encs t)] from rfl, top_take]
end
end EV

/-! EvX: put_in, value. -/
namespace EV
open PySem
def putB (z s u : Nat) : Ss := .cons (.asg 2 (.call s (.cons (.call u (.cons (.var 2) (.cons (.var 1) .nil))) (.cons (.ife (.op2 false .eq (.var 3) (.glb z)) (.tup .nil) (.tup (.cons (.var 3) .nil))) .nil)))) .nil
def pPut (z s u : Nat) : Fn := ⟨2, 4,
  (.cons (.asg 2 (.tup .nil))
  (.cons (.fr (.v 3) (.seq (.rev false (.var 0))) (putB z s u))
  (.cons (.ret (.var 2))
  .nil)))⟩
def valB (p o : Nat) : Ss := .cons (.asg 2 (.call p (.cons (.call o (.cons (.var 2) (.cons (.var 1) .nil))) (.cons (.var 3) .nil)))) .nil
def pVal (z p o : Nat) : Fn := ⟨2, 4,
  (.cons (.asg 2 (.glb z))
  (.cons (.fr (.v 3) (.seq (.rev false (.var 0))) (valB p o))
  (.cons (.ret (.var 2))
  .nil)))⟩
theorem rev_at {f : List Rat} {j : Nat} {x : PyData} (h : (encs f).reverse[j]? = some x) : j < f.length ∧ ∃ a, f[f.length - 1 - j]? = some a ∧ x = enc a ∧ f.drop (f.length - (j + 1)) = a :: f.drop (f.length - j) := by
  have hj : j < f.length := by
    have := (List.getElem?_eq_some_iff.mp h).1
    simpa using this
  rw [List.getElem?_reverse (by simpa using hj), List.length_map, List.getElem?_map] at h
  have hg : f[f.length - 1 - j]? = some (f[f.length - 1 - j]'(by omega)) := List.getElem?_eq_getElem (by omega)
  rw [hg] at h
  refine ⟨hj, _, hg, (Option.some.inj h).symm, ?_⟩
  rw [show f.length - (j + 1) = f.length - 1 - j by omega, List.drop_eq_getElem_cons (by omega), show f.length - 1 - j + 1 = f.length - j by omega]
section
variable {G : List PyData} {wf : Nat} {M : Mem} {fs : List Fn} {z p o c s u r k N B v m w l i S : Nat} {f g : List Rat}
theorem x_rev {cf : Nat → List W → Mem → Option (W × Mem)} {ρ : EV.Loc} (h : ρ[0]? = some (some (.d (encP f)))) : evalIt cf G wf (.seq (.rev false (.var 0))) ρ M = some (.its (encs f).reverse, M) := by
  have h1 : evalE cf G wf (.rev false (.var 0)) ρ M = some (.d (.tuple (encs f).reverse), M) := by
    rw [evalE, evalE, h]
    rfl
  rw [evalIt, h1]
  rfl
theorem put_eq (h : fs[i]? = some (pPut z s u)) (hs : fs[s]? = some (pSum p c)) (hu : fs[u]? = some (pMul z p o c)) (hc : fs[c]? = some (pCut z)) (hp : fs[p]? = some (pPlus r)) (ho : fs[o]? = some (pProd r)) (hz : G[z]? = some (pr 0 1)) (hr : Makes fs G wf k r N) (hB : 0 < B) (h2 : B ≤ 256)
    (hf : Qbs B v m f) (hg : Qbs B w l g) (hS : v + w + f.length * (g.length + 1) * g.length + 1 ≤ S) (hN : 16 * (m + (f.length + 1) * l) + 2 ≤ N) (hv : 2 * (v + (f.length + 2) * S + g.length) + 16 * (m + (f.length + 1) * l) + 2 < 100000000) (hlf : f.length ≤ 100) (hlg : g.length ≤ 100) (hw : 1000000 ≤ wf) :
    ∃ t : List Rat, callF fs G wf (k + 3) i [.d (encP f), .d (encP g)] M = some (.d (encP t), M) ∧ Tr t ∧ (∀ x, ev t x = ev f (ev g x)) ∧ Qbs B (v + f.length * S) (m + f.length * l) t ∧ t.length ≤ f.length * (g.length + 1) := by
  have hsz := sizeLine_eq
  obtain ⟨ρ', M', e, t, y3, rfl, hMM, h1, h3, h4, h5⟩ := forL_for (f := turnG (callF fs G wf (k + 2)) G wf (.v 3) (putB z s u)) (xs := (encs f).reverse) (fun j ρ M' => ∃ (t : List Rat) (y3 : Option W), ρ = [some (.d (encP f)), some (.d (encP g)), some (.d (encP t)), y3] ∧ M' = M ∧ Tr t ∧ Qbs B (v + j * S) (m + j * l) t ∧ t.length ≤ j * (g.length + 1) ∧ ∀ x, ev t x = ev (f.drop (f.length - j)) (ev g x))
    (fun ρ M' => ∃ (t : List Rat) (y3 : Option W), ρ = [some (.d (encP f)), some (.d (encP g)), some (.d (encP t)), y3] ∧ M' = M ∧ Tr t ∧ Qbs B (v + f.length * S) (m + f.length * l) t ∧ t.length ≤ f.length * (g.length + 1) ∧ ∀ x, ev t x = ev f (ev g x)) (fun j x ρ M' hx hI => by
      obtain ⟨hj, a, ha, rfl, hdr⟩ := rev_at hx
      obtain ⟨t, y3, rfl, rfl, h1, h3, h4, h5⟩ := hI
      have ham := hf a (List.mem_of_getElem? ha)
      have b1 : j * (g.length + 1) * g.length ≤ f.length * (g.length + 1) * g.length := Nat.mul_le_mul_right _ (Nat.mul_le_mul_right _ (by omega))
      have b2 : t.length * g.length ≤ f.length * (g.length + 1) * g.length := Nat.le_trans (Nat.mul_le_mul_right _ h4) b1
      have b3 : (j + 1) * S = j * S + S := by rw [Nat.add_mul, Nat.one_mul]
      have b4 : (j + 1) * S ≤ f.length * S := Nat.mul_le_mul_right _ hj
      have b5 : (j + 1) * l = j * l + l := by rw [Nat.add_mul, Nat.one_mul]
      have b6 : (j + 1) * l ≤ f.length * l := Nat.mul_le_mul_right _ hj
      have b7 : (f.length + 2) * S = f.length * S + 2 * S := by rw [Nat.add_mul]
      have b8 : (f.length + 1) * l = f.length * l + l := by rw [Nat.add_mul, Nat.one_mul]
      have b9 : (j + 1) * (g.length + 1) = j * (g.length + 1) + (g.length + 1) := by rw [Nat.add_mul, Nat.one_mul]
      have b10 : j * (g.length + 1) ≤ 100 * 101 := Nat.mul_le_mul (by omega) (by omega)
      obtain ⟨t1, q1, q2, q3, q4, q5⟩ := mul_eq (M := M') hu hc hp ho hz hr hB h2 h3 hg (by omega) (by omega) (by omega) (by omega) hw
      let cs : List Rat := if a = 0 then [] else [a]
      have hcs : Qbs B v m cs := fun q hq => by
        by_cases h0 : a = 0
        · simp [cs, h0] at hq
        · simp [cs, h0] at hq; rw [hq]; exact ham
      have hcl : cs.length ≤ 1 := by by_cases h0 : a = 0 <;> simp [cs, h0]
      have hce : ∀ x, ev cs x = a := fun x => by
        by_cases h0 : a = 0
        · have e0 : cs = [] := if_pos h0
          rw [e0, h0]; rfl
        · have e0 : cs = [a] := if_neg h0
          rw [e0]
          show a + x * 0 = a
          grind
      have Q1 : Qbs B (v + j * S + w + f.length * (g.length + 1) * g.length) (m + (j + 1) * l) t1 := q4.mono (by omega) (by omega)
      have Q2 : Qbs B (v + j * S + w + f.length * (g.length + 1) * g.length) (m + (j + 1) * l) cs := hcs.mono (by omega) (by omega)
      have hsum := sum_eq (M := M') (i := s) hs hc hp hz hr hB h2 Q1 Q2 (by omega) (by omega) (by omega) (by omega) hw
      have eC : evalE (callF fs G wf (k + 2)) G wf (.ife (.op2 false .eq (.var 3) (.glb z)) (.tup .nil) (.tup (.cons (.var 3) .nil))) [some (.d (encP f)), some (.d (encP g)), some (.d (encP t)), some (.d (enc a))] M' = some (.d (encP cs), M') := by
        have h5 : evalE (callF fs G wf (k + 2)) G wf (.glb z) [some (.d (encP f)), some (.d (encP g)), some (.d (encP t)), some (.d (enc a))] M' = some (.d (pr 0 1), M') := by rw [evalE, hz]
        have h6 : evalE (callF fs G wf (k + 2)) G wf (.var 3) [some (.d (encP f)), some (.d (encP g)), some (.d (encP t)), some (.d (enc a))] M' = some (.d (enc a), M') := by rw [evalE]; rfl
        have ht : testOf (evalE (callF fs G wf (k + 2)) G wf (.op2 false .eq (.var 3) (.glb z)) [some (.d (encP f)), some (.d (encP g)), some (.d (encP t)), some (.d (enc a))] M') = some (decide (a = 0), M') := by
          refine t_bool ?_
          rw [evalE, h6]
          dsimp only
          rw [h5]
          simp only [if_neg (show ¬ (P2.eq = P2.ix) by decide), deref_d, eq_enc0, give_f]
        rw [evalE, ht]
        by_cases h0 : a = 0
        · have e0 : cs = [] := if_pos h0
          rw [decide_eq_true h0, e0]
          exact e_tup es_nil rfl (Nat.zero_le _)
        · have e0 : cs = [a] := if_neg h0
          rw [decide_eq_false h0, e0]
          exact e_tup (es_cons h6 es_nil) rfl (by rw [hsz]; show 1 ≤ _; decide)
      have eM : evalE (callF fs G wf (k + 2)) G wf (.call u (.cons (.var 2) (.cons (.var 1) .nil))) [some (.d (encP f)), some (.d (encP g)), some (.d (encP t)), some (.d (enc a))] M' = some (.d (encP t1), M') :=
        x_callE (es_cons (w := .d (encP t)) (M1 := M') (by rw [evalE]; rfl) (es_cons (w := .d (encP g)) (M1 := M') (by rw [evalE]; rfl) es_nil)) q1
      have eS := x_callE (es_cons eM (es_cons eC es_nil)) hsum
      refine ⟨[some (.d (encP f)), some (.d (encP g)), some (.d (encP (cutR (addR t1 cs)))), some (.d (enc a))], M', .inl ⟨?_, _, _, rfl, rfl, tr_cut _, ?_, ?_, fun x => ?_⟩⟩
      · rw [x_turn]
        refine x_cons (ρ' := [some (.d (encP f)), some (.d (encP g)), some (.d (encP (cutR (addR t1 cs)))), some (.d (enc a))]) (M' := M') ?_ rfl
        show evalS _ _ _ _ [some (.d (encP f)), some (.d (encP g)), some (.d (encP t)), some (.d (enc a))] _ = _
        rw [evalS, eS]
        rfl
      · exact (Qbs.add hB Q1 Q2).cut.mono (by omega) (by omega)
      · refine Nat.le_trans (cutR_len _) ?_
        rw [add_len]; omega
      · rw [ev_cut, ev_add, q3, h5, hce, hdr, ev]; grind) (fun ρ M' hI => by
      obtain ⟨t, y3, e1, e2, h1, h3, h4, h5⟩ := hI
      rw [List.length_reverse, List.length_map] at h3 h4 h5
      exact ⟨t, y3, e1, e2, h1, h3, h4, fun x => by rw [h5, Nat.sub_self, List.drop_zero]⟩) (ρ := [some (.d (encP f)), some (.d (encP g)), some (.d (encP [])), none]) (M := M) ⟨[], none, rfl, rfl, fun q hq => (by cases hq), fun q hq => (by cases hq), by simp, fun x => by rw [Nat.sub_zero, List.drop_length]; rfl⟩
  rw [hMM] at e
  have s1 : evalS (callF fs G wf (k + 2)) G wf (.asg 2 (.tup .nil)) [some (.d (encP f)), some (.d (encP g)), none, none] M = some (.nx [some (.d (encP f)), some (.d (encP g)), some (.d (encP [])), none] M) := by
    rw [evalS, e_tup es_nil rfl (Nat.zero_le _)]
    rfl
  exact ⟨t, ret_d h rfl (x_cons s1 (x_cons (x_for (x_rev rfl) e) (x_stop (x_ret (by rw [evalE]; rfl))))), h1, h5, h3, h4⟩
end
end EV

/-! EvY: values, the law's own cutting. -/
namespace EV
open PySem
/-- value: the start told by e0 -/
def pValE (e0 : E) (p o : Nat) : Fn := ⟨2, 4,
  (.cons (.asg 2 e0)
  (.cons (.fr (.v 3) (.seq (.rev false (.var 0))) (valB p o))
  (.cons (.ret (.var 2))
  .nil)))⟩
def lTrimC : E := .and (.cons (.op2 false .gt (.var 1) (.lit (.int 0))) (.cons (.op2 false .eq (.op2 false .ix (.op2 false .ix (.var 0) (.op2 false .sub (.var 1) (.lit (.int 1)))) (.lit (.int 0))) (.lit (.int 0))) .nil))
def lTrimB : Ss := .cons (.asg 1 (.op2 false .sub (.var 1) (.lit (.int 1)))) .nil
def lTrim : Fn := ⟨1, 2,
  (.cons (.asg 1 (.blt false .len (.cons (.var 0) .nil)))
  (.cons (.whl lTrimC lTrimB)
  (.cons (.ret (.blt false .tuple (.cons (.slc false false true (.var 0) (.lit .none) (.var 1)) .nil)))
  .nil)))⟩
section
variable {G : List PyData} {wf : Nat} {M : Mem} {fs : List Fn} {z p o c s u r k N B v m w l i S : Nat} {f g : List Rat} {q : Rat}
theorem val_eq {e0 : E} (h : fs[i]? = some (pValE e0 p o)) (he0 : ∀ ρ : EV.Loc, evalE (callF fs G wf (k + 1)) G wf e0 ρ M = some (.d (pr 0 1), M)) (hp : fs[p]? = some (pPlus r)) (ho : fs[o]? = some (pProd r)) (hr : Makes fs G wf k r N) (hB : 0 < B) (h2 : B ≤ 256)
    (hf : Qbs B v m f) (hq : Qb B w l q) (hN : 16 * (m + (f.length + 1) * l) + 2 ≤ N) (hv : 2 * (v + (f.length + 2) * (w + 1)) + 16 * (m + (f.length + 1) * l) + 2 < 100000000) :
    callF fs G wf (k + 2) i [.d (encP f), .d (enc q)] M = some (.d (enc (ev f q)), M) ∧ Qb B (v + f.length * (w + 1)) (m + f.length * l) (ev f q) := by
  obtain ⟨ρ', M', e, t, y3, rfl, hMM, h3, h5⟩ := forL_for (f := turnG (callF fs G wf (k + 1)) G wf (.v 3) (valB p o)) (xs := (encs f).reverse) (fun j ρ M' => ∃ (t : Rat) (y3 : Option W), ρ = [some (.d (encP f)), some (.d (enc q)), some (.d (enc t)), y3] ∧ M' = M ∧ Qb B (v + j * (w + 1)) (m + j * l) t ∧ t = ev (f.drop (f.length - j)) q)
    (fun ρ M' => ∃ (t : Rat) (y3 : Option W), ρ = [some (.d (encP f)), some (.d (enc q)), some (.d (enc t)), y3] ∧ M' = M ∧ Qb B (v + f.length * (w + 1)) (m + f.length * l) t ∧ t = ev f q) (fun j x ρ M' hx hI => by
      obtain ⟨hj, a, ha, rfl, hdr⟩ := rev_at hx
      obtain ⟨t, y3, rfl, rfl, h3, h5⟩ := hI
      have ham := hf a (List.mem_of_getElem? ha)
      have b3 : (j + 1) * (w + 1) = j * (w + 1) + (w + 1) := by rw [Nat.add_mul, Nat.one_mul]
      have b4 : (j + 1) * (w + 1) ≤ f.length * (w + 1) := Nat.mul_le_mul_right _ hj
      have b5 : (j + 1) * l = j * l + l := by rw [Nat.add_mul, Nat.one_mul]
      have b6 : (j + 1) * l ≤ f.length * l := Nat.mul_le_mul_right _ hj
      have b7 : (f.length + 2) * (w + 1) = f.length * (w + 1) + 2 * (w + 1) := by rw [Nat.add_mul]
      have b8 : (f.length + 1) * l = f.length * l + l := by rw [Nat.add_mul, Nat.one_mul]
      have hprod := prod_enc (M := M') ho hr hB h2 h3 hq (by omega) (by omega)
      have hqm := h3.mul hB hq
      have hsum := plus_enc (M := M') hp hr hB h2 hqm ham (by omega) (by omega)
      refine ⟨[some (.d (encP f)), some (.d (enc q)), some (.d (enc (t * q + a))), some (.d (enc a))], M', .inl ⟨?_, _, _, rfl, rfl, ?_, ?_⟩⟩
      · rw [x_turn]
        refine x_cons (ρ' := [some (.d (encP f)), some (.d (enc q)), some (.d (enc (t * q + a))), some (.d (enc a))]) (M' := M') ?_ rfl
        show evalS _ _ _ _ [some (.d (encP f)), some (.d (enc q)), some (.d (enc t)), some (.d (enc a))] _ = _
        have eP : evalE (callF fs G wf (k + 1)) G wf (.call o (.cons (.var 2) (.cons (.var 1) .nil))) [some (.d (encP f)), some (.d (enc q)), some (.d (enc t)), some (.d (enc a))] M' = some (.d (enc (t * q)), M') :=
          x_callE (es_cons (w := .d (enc t)) (M1 := M') (by rw [evalE]; rfl) (es_cons (w := .d (enc q)) (M1 := M') (by rw [evalE]; rfl) es_nil)) hprod
        rw [evalS, x_callE (es_cons eP (es_cons (w := .d (enc a)) (M1 := M') (by rw [evalE]; rfl) es_nil)) hsum]
        rfl
      · exact ((hqm.mono (show v + j * (w + 1) + w ≤ v + j * (w + 1) + w by omega) (show m + j * l + l ≤ m + (j + 1) * l by omega)).add hB (ham.mono (by omega) (by omega))).mono (by omega) (Nat.le_refl _)
      · rw [hdr, ev, ← h5]; grind) (fun ρ M' hI => by
      obtain ⟨t, y3, e1, e2, h3, h5⟩ := hI
      rw [List.length_reverse, List.length_map] at h3 h5
      exact ⟨t, y3, e1, e2, h3, by rw [h5, Nat.sub_self, List.drop_zero]⟩) (ρ := [some (.d (encP f)), some (.d (enc q)), some (.d (enc 0)), none]) (M := M) ⟨0, none, rfl, rfl, qb_zero, by rw [Nat.sub_zero, List.drop_length]; rfl⟩
  rw [hMM] at e
  have s1 : evalS (callF fs G wf (k + 1)) G wf (.asg 2 e0) [some (.d (encP f)), some (.d (enc q)), none, none] M = some (.nx [some (.d (encP f)), some (.d (enc q)), some (.d (enc 0)), none] M) := by
    rw [evalS, he0]
    rfl
  rw [← h5]
  exact ⟨ret_d h rfl (x_cons s1 (x_cons (x_for (x_rev rfl) e) (x_stop (x_ret (by rw [evalE]; rfl))))), h3⟩
/-! ### the law's cutting -/
theorem cut_loopG {cf : Nat → List W → Mem → Option (W × Mem)} {C : E} {b : Ss} {w : W} (t0 : testOf (evalE cf G wf C [some w, some (.d (.int 0))] M) = some (false, M)) (t1 : ∀ (e : Nat) (q : Rat), f[e]? = some q → testOf (evalE cf G wf C [some w, some (.d (.int ((e + 1 : Nat) : Int)))] M) = some (decide (q = 0), M))
    (hb : ∀ e : Nat, evalSs cf G wf b [some w, some (.d (.int ((e + 1 : Nat) : Int)))] M = some (.nx [some w, some (.d (.int (e : Nat)))] M)) : ∀ (n e : Nat), (cutR f).length ≤ e → e ≤ f.length → e < n →
    whileL (fun ρ M => testOf (evalE cf G wf C ρ M)) (fun ρ M => evalSs cf G wf b ρ M) n [some w, some (.d (.int (e : Nat)))] M = some (.nx [some w, some (.d (.int ((cutR f).length : Nat)))] M)
  | 0, e, _, _, h => by omega
  | n + 1, e, h1, h2, h3 => by
    unfold whileL
    cases e with
    | zero =>
      have e0 : (cutR f).length = 0 := by omega
      rw [show ((0 : Nat) : Int) = 0 from rfl, t0, e0]
      rfl
    | succ e =>
      have hq : f[e]? = some f[e] := List.getElem?_eq_getElem (by omega)
      rw [t1 e _ hq]
      by_cases hc : (cutR f).length = e + 1
      · obtain ⟨q, g1, g2⟩ := cutR_last f e hc
        rw [hq] at g1
        cases g1
        rw [decide_eq_false g2, hc]
      · have := cutR_zero f e _ (by omega) hq
        rw [decide_eq_true this]
        dsimp only
        rw [hb]
        exact cut_loopG t0 t1 hb n e (by omega) (by omega) (by omega)
theorem num_zero (q : Rat) : decide (q.num = 0) = decide (q = 0) := by
  by_cases h : q = 0
  · subst h; rfl
  · have : ¬ q.num = 0 := fun e => h (Rat.num_eq_zero.mp e)
    rw [decide_eq_false h, decide_eq_false this]
theorem trim_eq {w : W} (h : fs[i]? = some lTrim) (hw : derefR w M = some (.list (encs f))) (hd : deref w M = some (.list (encs f))) (hl : f.length < wf) (hs : f.length ≤ 1000000) : callF fs G wf (k + 1) i [w] M = some (.d (encP (cutR f)), M) := by
  have s1 : evalS (callF fs G wf k) G wf (.asg 1 (.blt false .len (.cons (.var 0) .nil))) [some w, none] M = some (.nx [some w, some (.d (.int (f.length : Nat)))] M) := by
    simp only [evalE, evalEs, evalB, evalIt, evalS, evalSs, evalTg, allB, allI, deref_d, deref_m, derefR_d, derefR_m, derefR_r, db_len, db_abs, db_int, db_all, db_any, db_sum, db_tuple, db_list, db_max, db_min, db_gcd, db_isi, derefs_nil, derefs_cons, plain_nil, plain_d, give_f, give_t, p_add, p_addT, p_addL, p_sub, p_mul, p_fdiv, p_mod, p_pow, p_lt, p_le, p_gt, p_ge, p_ixL, p_ixT, at_0, at_1, at_2, at_n, p_eqI, p_neI, s_nn, s_bb, s_in, s_bn, s_tn, s_ln, s_sn, s_nb, s_ib, s_tb, s_lb, s_sb, p_is, p_isn, q_lenL, q_lenT, q_abs, q_int, q_intb, q_all, q_any, q_sum, q_tupL, q_tupT, q_lstL, q_lstT, q_max, q_min, q_gcd, q_isi, t_tt, t_tl, t_ti, t_tb, t_tn, t_ts, t_it, t_il, t_ii, t_ib, t_in, t_is, t_bt, t_bl, t_bi, t_bb, t_bn, t_bs, t_st, t_sl, t_si, t_sb, t_sn, t_ss, r_none, r_bool, r_int, r_list, r_tup, f_d, st_m, pl_n, pl_0, pl_1, m_app, m_pop, tof_s, bt_v, sw_c, sw_n, ag_a, List.getElem?_cons_zero, hw, Option.map_some, List.length_map, List.set_cons_succ, List.set_cons_zero]
  have hsub : ∀ e : Nat, evalE (callF fs G wf k) G wf (.op2 false .sub (.var 1) (.lit (.int 1))) [some w, some (.d (.int ((e + 1 : Nat) : Int)))] M = some (.d (.int (e : Nat)), M) := fun e => by
    have : ((e + 1 : Nat) : Int) - 1 = (e : Nat) := by omega
    simp only [evalE, evalEs, evalB, evalIt, evalS, evalSs, evalTg, allB, allI, deref_d, deref_m, derefR_d, derefR_m, derefR_r, db_len, db_abs, db_int, db_all, db_any, db_sum, db_tuple, db_list, db_max, db_min, db_gcd, db_isi, derefs_nil, derefs_cons, plain_nil, plain_d, give_f, give_t, p_add, p_addT, p_addL, p_sub, p_mul, p_fdiv, p_mod, p_pow, p_lt, p_le, p_gt, p_ge, p_ixL, p_ixT, at_0, at_1, at_2, at_n, p_eqI, p_neI, s_nn, s_bb, s_in, s_bn, s_tn, s_ln, s_sn, s_nb, s_ib, s_tb, s_lb, s_sb, p_is, p_isn, q_lenL, q_lenT, q_abs, q_int, q_intb, q_all, q_any, q_sum, q_tupL, q_tupT, q_lstL, q_lstT, q_max, q_min, q_gcd, q_isi, t_tt, t_tl, t_ti, t_tb, t_tn, t_ts, t_it, t_il, t_ii, t_ib, t_in, t_is, t_bt, t_bl, t_bi, t_bb, t_bn, t_bs, t_st, t_sl, t_si, t_sb, t_sn, t_ss, r_none, r_bool, r_int, r_list, r_tup, f_d, st_m, pl_n, pl_0, pl_1, m_app, m_pop, tof_s, bt_v, sw_c, sw_n, ag_a, List.getElem?_cons_zero, List.getElem?_cons_succ, if_neg (show ¬ (P2.sub = P2.ix) by decide), this]
  have t0 : testOf (evalE (callF fs G wf k) G wf lTrimC [some w, some (.d (.int 0))] M) = some (false, M) := t_bool (e_and (b_stop (c := false) (by simp [evalE, evalEs, evalB, evalIt, evalS, evalSs, evalTg, allB, allI, deref_d, deref_m, derefR_d, derefR_m, derefR_r, db_len, db_abs, db_int, db_all, db_any, db_sum, db_tuple, db_list, db_max, db_min, db_gcd, db_isi, derefs_nil, derefs_cons, plain_nil, plain_d, give_f, give_t, p_add, p_addT, p_addL, p_sub, p_mul, p_fdiv, p_mod, p_pow, p_lt, p_le, p_gt, p_ge, p_ixL, p_ixT, at_0, at_1, at_2, at_n, p_eqI, p_neI, s_nn, s_bb, s_in, s_bn, s_tn, s_ln, s_sn, s_nb, s_ib, s_tb, s_lb, s_sb, p_is, p_isn, q_lenL, q_lenT, q_abs, q_int, q_intb, q_all, q_any, q_sum, q_tupL, q_tupT, q_lstL, q_lstT, q_max, q_min, q_gcd, q_isi, t_tt, t_tl, t_ti, t_tb, t_tn, t_ts, t_it, t_il, t_ii, t_ib, t_in, t_is, t_bt, t_bl, t_bi, t_bb, t_bn, t_bs, t_st, t_sl, t_si, t_sb, t_sn, t_ss, r_none, r_bool, r_int, r_list, r_tup, f_d, st_m, pl_n, pl_0, pl_1, m_app, m_pop, tof_s, bt_v, sw_c, sw_n, ag_a]) (by decide)))
  have t1 : ∀ (e : Nat) (q : Rat), f[e]? = some q → testOf (evalE (callF fs G wf k) G wf lTrimC [some w, some (.d (.int ((e + 1 : Nat) : Int)))] M) = some (decide (q = 0), M) := fun e q hq => by
    refine t_bool (e_and (b_go (M1 := M) ?_ (b_one ?_)))
    · have : (0 : Int) < ((e + 1 : Nat) : Int) := by omega
      simp only [evalE, evalEs, evalB, evalIt, evalS, evalSs, evalTg, allB, allI, deref_d, deref_m, derefR_d, derefR_m, derefR_r, db_len, db_abs, db_int, db_all, db_any, db_sum, db_tuple, db_list, db_max, db_min, db_gcd, db_isi, derefs_nil, derefs_cons, plain_nil, plain_d, give_f, give_t, p_add, p_addT, p_addL, p_sub, p_mul, p_fdiv, p_mod, p_pow, p_lt, p_le, p_gt, p_ge, p_ixL, p_ixT, at_0, at_1, at_2, at_n, p_eqI, p_neI, s_nn, s_bb, s_in, s_bn, s_tn, s_ln, s_sn, s_nb, s_ib, s_tb, s_lb, s_sb, p_is, p_isn, q_lenL, q_lenT, q_abs, q_int, q_intb, q_all, q_any, q_sum, q_tupL, q_tupT, q_lstL, q_lstT, q_max, q_min, q_gcd, q_isi, t_tt, t_tl, t_ti, t_tb, t_tn, t_ts, t_it, t_il, t_ii, t_ib, t_in, t_is, t_bt, t_bl, t_bi, t_bb, t_bn, t_bs, t_st, t_sl, t_si, t_sb, t_sn, t_ss, r_none, r_bool, r_int, r_list, r_tup, f_d, st_m, pl_n, pl_0, pl_1, m_app, m_pop, tof_s, bt_v, sw_c, sw_n, ag_a, List.getElem?_cons_zero, List.getElem?_cons_succ, if_neg (show ¬ (P2.gt = P2.ix) by decide), decide_eq_true this]
    · have h3 : evalE (callF fs G wf k) G wf (.var 0) [some w, some (.d (.int ((e + 1 : Nat) : Int)))] M = some (w, M) := by simp only [evalE, List.getElem?_cons_zero]
      have h4 : (encs f)[e]? = some (enc q) := by rw [List.getElem?_map, hq]; rfl
      have h5 : evalE (callF fs G wf k) G wf (.op2 false .ix (.var 0) (.op2 false .sub (.var 1) (.lit (.int 1)))) [some w, some (.d (.int ((e + 1 : Nat) : Int)))] M = some (.d (enc q), M) := by
        rw [evalE, h3]
        dsimp only
        rw [hsub]
        simp only [if_true, hw, deref_d, p_ixL, at_n, h4, give_f]
      have h6 : evalE (callF fs G wf k) G wf (.op2 false .ix (.op2 false .ix (.var 0) (.op2 false .sub (.var 1) (.lit (.int 1)))) (.lit (.int 0))) [some w, some (.d (.int ((e + 1 : Nat) : Int)))] M = some (.d (.int q.num), M) := by
        rw [evalE, h5]
        rfl
      have h7 : evalE (callF fs G wf k) G wf (.lit (.int 0)) [some w, some (.d (.int ((e + 1 : Nat) : Int)))] M = some (.d (.int 0), M) := by rw [evalE]
      rw [evalE, h6]
      dsimp only
      rw [h7]
      simp only [if_neg (show ¬ (P2.eq = P2.ix) by decide), deref_d, p_eqI, give_f, num_zero]
  have s2 : evalS (callF fs G wf k) G wf (.whl lTrimC lTrimB) [some w, some (.d (.int (f.length : Nat)))] M = some (.nx [some w, some (.d (.int ((cutR f).length : Nat)))] M) := by
    rw [evalS]
    refine cut_loopG t0 t1 (fun e => ?_) wf f.length (cutR_len f) (Nat.le_refl _) hl
    refine x_cons (ρ' := [some w, some (.d (.int (e : Nat)))]) (M' := M) ?_ rfl
    rw [evalS, hsub]
    rfl
  refine ret_d h rfl (x_cons s1 (x_cons s2 (x_stop (x_ret ?_))))
  have hc : primSl (.list (encs f)) none (some (((cutR f).length : Nat) : Int)) = some (.list (encs (cutR f))) := by
    show some (PyData.list (cutL (encs f) none (some (((cutR f).length : Nat) : Int)))) = _
    unfold cutL
    rw [HT.sIx_none, HT.sIx_nat, List.drop_zero, Nat.sub_zero, List.length_map, Nat.min_eq_left (cutR_len f), ← List.map_take, cutR_take]
  simp only [evalE, evalEs, evalB, evalIt, evalS, evalSs, evalTg, allB, allI, deref_d, deref_m, derefR_d, derefR_m, derefR_r, db_len, db_abs, db_int, db_all, db_any, db_sum, db_tuple, db_list, db_max, db_min, db_gcd, db_isi, derefs_nil, derefs_cons, plain_nil, plain_d, give_f, give_t, p_add, p_addT, p_addL, p_sub, p_mul, p_fdiv, p_mod, p_pow, p_lt, p_le, p_gt, p_ge, p_ixL, p_ixT, at_0, at_1, at_2, at_n, p_eqI, p_neI, s_nn, s_bb, s_in, s_bn, s_tn, s_ln, s_sn, s_nb, s_ib, s_tb, s_lb, s_sb, p_is, p_isn, q_lenL, q_lenT, q_abs, q_int, q_intb, q_all, q_any, q_sum, q_tupL, q_tupT, q_lstL, q_lstT, q_max, q_min, q_gcd, q_isi, t_tt, t_tl, t_ti, t_tb, t_tn, t_ts, t_it, t_il, t_ii, t_ib, t_in, t_is, t_bt, t_bl, t_bi, t_bb, t_bn, t_bs, t_st, t_sl, t_si, t_sb, t_sn, t_ss, r_none, r_bool, r_int, r_list, r_tup, f_d, st_m, pl_n, pl_0, pl_1, m_app, m_pop, tof_s, bt_v, sw_c, sw_n, ag_a, List.getElem?_cons_zero, List.getElem?_cons_succ, hd, bnd, hc, Option.map_some]
end
end EV

/-! EvZ: the law's own polynomials: _law_pscale, _law_pmul. -/
namespace EV
open PySem
theorem ev_scale (q : Rat) : ∀ (f : List Rat) (x : Rat), ev (f.map (q * ·)) x = q * ev f x
  | [], x => by
    show (0 : Rat) = q * 0
    grind
  | a :: f, x => by
    rw [List.map_cons, ev, ev, ev_scale q f x]; grind
theorem Qbs.scale {B v m w l : Nat} {q : Rat} {f : List Rat} (hB : 0 < B) (hq : Qb B w l q) (hf : Qbs B v m f) : Qbs B (w + v) (l + m) (f.map (q * ·)) := fun u hu => by
  obtain ⟨a, ha, rfl⟩ := List.mem_map.mp hu
  exact hq.mul hB (hf a ha)
def lScale (t o : Nat) : Fn := ⟨2, 3,
  (.cons (.ret (.call t (.cons (mulC o) .nil)))
  .nil)⟩
def lMB2 (p o : Nat) : Ss := .cons (.asgIx (.var 2) (.op2 false .add (.var 3) (.var 4)) (.call p (.cons (.op2 false .ix (.var 2) (.op2 false .add (.var 3) (.var 4))) (.cons (.call o (.cons (.op2 false .ix (.var 0) (.var 3)) (.cons (.op2 false .ix (.var 1) (.var 4)) .nil))) .nil)))) .nil
def lMB1 (p o : Nat) : Ss := .cons (.fr (.v 4) (.rng (.cons (.blt false .len (.cons (.var 1) .nil)) .nil)) (lMB2 p o)) .nil
def lMul (t p o : Nat) : Fn := ⟨2, 5,
  (.cons (.ife (.or (.cons (.op2 false .eq (.var 0) (.tup .nil)) (.cons (.op2 false .eq (.var 1) (.tup .nil)) .nil)))
   (.cons (.ret (.tup .nil))
   .nil)
   .nil)
  (.cons (.asg 2 (.op2 true .mul (.lst false (.cons (.tup (.cons (.lit (.int 0)) (.cons (.lit (.int 1)) .nil))) .nil)) (.op2 false .sub (.op2 false .add (.blt false .len (.cons (.var 0) .nil)) (.blt false .len (.cons (.var 1) .nil))) (.lit (.int 1)))))
  (.cons (.fr (.v 3) (.rng (.cons (.blt false .len (.cons (.var 0) .nil)) .nil)) (lMB1 p o))
  (.cons (.ret (.call t (.cons (.var 2) .nil)))
  .nil))))⟩
section
variable {G : List PyData} {wf : Nat} {M M0 : Mem} {fs : List Fn} {p o c s t' r k N B v m w l i : Nat} {f g told : List Rat} {q a : Rat}
theorem mulC_eq (ho : fs[o]? = some (pProd r)) (hr : Makes fs G wf k r N) (hB : 0 < B) (h2 : B ≤ 256) (hq : Qb B w l q) (hf : Qbs B v m f) (hN : 8 * l + 8 * m + 2 ≤ N) (hv : w + v + 8 * l + 8 * m + 2 < 100000000) (hlf : f.length ≤ 100000) :
    evalE (callF fs G wf (k + 1)) G wf (mulC o) [some (.d (enc q)), some (.d (encP f)), none] M = some (.d (.list (encs (f.map (q * ·)))), M) := by
  have hsz := sizeLine_eq
  have hit : evalIt (callF fs G wf (k + 1)) G wf (.seq (.var 1)) [some (.d (enc q)), some (.d (encP f)), none] M = some (.its (encs f), M) := by
    simp only [evalIt, evalE, List.getElem?_cons_zero, List.getElem?_cons_succ, items]
  refine x_comp hit (compL_map (encs f) (encs (f.map (q * ·))) [] (by simp) (by rw [hsz]; simp; omega) fun j x y hx hy acc ha => ?_) rfl
  rw [List.getElem?_map] at hx
  rw [List.getElem?_map, List.getElem?_map] at hy
  cases hfj : f[j]? with
  | none => rw [hfj] at hx; cases hx
  | some a =>
    rw [hfj] at hx hy
    have hx : enc a = x := Option.some.inj hx
    have hy : enc (q * a) = y := Option.some.inj hy
    subst hx hy
    refine tc_go (ρ2 := [some (.d (enc q)), some (.d (encP f)), some (.d (enc a))]) rfl t_lit ?_ ha
    exact x_callE (ws := [.d (enc q), .d (enc a)]) (M1 := M) (by simp only [evalE, evalEs, evalB, evalIt, evalS, evalSs, evalTg, allB, allI, deref_d, deref_m, derefR_d, derefR_m, derefR_r, db_len, db_abs, db_int, db_all, db_any, db_sum, db_tuple, db_list, db_max, db_min, db_gcd, db_isi, derefs_nil, derefs_cons, plain_nil, plain_d, give_f, give_t, p_add, p_addT, p_addL, p_sub, p_mul, p_fdiv, p_mod, p_pow, p_lt, p_le, p_gt, p_ge, p_ixL, p_ixT, at_0, at_1, at_2, at_n, p_eqI, p_neI, s_nn, s_bb, s_in, s_bn, s_tn, s_ln, s_sn, s_nb, s_ib, s_tb, s_lb, s_sb, p_is, p_isn, q_lenL, q_lenT, q_abs, q_int, q_intb, q_all, q_any, q_sum, q_tupL, q_tupT, q_lstL, q_lstT, q_max, q_min, q_gcd, q_isi, t_tt, t_tl, t_ti, t_tb, t_tn, t_ts, t_it, t_il, t_ii, t_ib, t_in, t_is, t_bt, t_bl, t_bi, t_bb, t_bn, t_bs, t_st, t_sl, t_si, t_sb, t_sn, t_ss, r_none, r_bool, r_int, r_list, r_tup, f_d, st_m, pl_n, pl_0, pl_1, m_app, m_pop, tof_s, bt_v, sw_c, sw_n, ag_a, List.getElem?_cons_zero, List.getElem?_cons_succ]) (prod_enc ho hr hB h2 hq (hf a (List.mem_of_getElem? hfj)) (by omega) (by omega))
/-- _law_pscale -/
theorem lscale_eq (h : fs[i]? = some (lScale t' o)) (ht : fs[t']? = some lTrim) (ho : fs[o]? = some (pProd r)) (hr : Makes fs G wf k r N) (hB : 0 < B) (h2 : B ≤ 256) (hq : Qb B w l q) (hf : Qbs B v m f) (hN : 8 * l + 8 * m + 2 ≤ N) (hv : w + v + 8 * l + 8 * m + 2 < 100000000) (hlf : f.length ≤ 100000) (hw : 1000000 ≤ wf) :
    callF fs G wf (k + 2) i [.d (enc q), .d (encP f)] M = some (.d (encP (cutR (f.map (q * ·)))), M) := by
  have go : evalE (callF fs G wf (k + 1)) G wf (.call t' (.cons (mulC o) .nil)) [some (.d (enc q)), some (.d (encP f)), none] M = some (.d (encP (cutR (f.map (q * ·)))), M) :=
    x_callE (es_cons (mulC_eq ho hr hB h2 hq hf hN hv hlf) es_nil) (trim_eq ht rfl rfl (by rw [List.length_map]; omega) (by rw [List.length_map]; omega))
  exact ret_d h rfl (x_stop (x_ret go))
/-! ### _law_pmul -/
abbrev lR (f g : List Rat) (n : Nat) (x3 x4 : Option W) : EV.Loc := [some (.d (encP f)), some (.d (encP g)), some (.m n), x3, x4]
theorem e_ixT {cf : Nat → List W → Mem → Option (W × Mem)} {ρ : EV.Loc} {e1 e2 : E} {f : List Rat} {j : Nat} {a : Rat} (h1 : evalE cf G wf e1 ρ M = some (.d (encP f), M)) (h2 : evalE cf G wf e2 ρ M = some (.d (.int (j : Nat)), M)) (ha : f[j]? = some a) : evalE cf G wf (.op2 false .ix e1 e2) ρ M = some (.d (enc a), M) := by
  have h4 : (encs f)[j]? = some (enc a) := by rw [List.getElem?_map, ha]; rfl
  rw [evalE, h1]
  dsimp only
  rw [h2]
  simp only [if_true, derefR_d, deref_d, p_ixT, at_n, h4, give_f]
theorem e_ixM {cf : Nat → List W → Mem → Option (W × Mem)} {ρ : EV.Loc} {e1 e2 : E} {f : List Rat} {j : Nat} {a : Rat} (h1 : evalE cf G wf e1 ρ (mM M0 f) = some (.m M0.length, mM M0 f)) (h2 : evalE cf G wf e2 ρ (mM M0 f) = some (.d (.int (j : Nat)), mM M0 f)) (ha : f[j]? = some a) : evalE cf G wf (.op2 false .ix e1 e2) ρ (mM M0 f) = some (.d (enc a), mM M0 f) := by
  have h4 : (encs f)[j]? = some (enc a) := by rw [List.getElem?_map, ha]; rfl
  have htop : (mM M0 f)[M0.length]? = some (.lst (encs f)) := top_get
  rw [evalE, h1]
  dsimp only
  rw [h2]
  simp only [if_true, derefR_m, deref_m, htop, deref_d, p_ixL, at_n, h4, give_f]
/-- told[ix] = e -/
theorem s_ixM {cf : Nat → List W → Mem → Option (W × Mem)} {ρ : EV.Loc} {e1 e2 e3 : E} {f : List Rat} {j : Nat} {a : Rat} (h3 : evalE cf G wf e3 ρ (mM M0 f) = some (.d (enc a), mM M0 f)) (h1 : evalE cf G wf e1 ρ (mM M0 f) = some (.m M0.length, mM M0 f)) (h2 : evalE cf G wf e2 ρ (mM M0 f) = some (.d (.int (j : Nat)), mM M0 f)) (hj : j < f.length) :
    evalS cf G wf (.asgIx e1 e2 e3) ρ (mM M0 f) = some (.nx ρ (mM M0 (f.set j a))) := by
  have htop : (mM M0 f)[M0.length]? = some (.lst (encs f)) := top_get
  have hst : store (.m M0.length) (.int ((j : Nat) : Int)) (enc a) (mM M0 f) = some (mM M0 (f.set j a)) := by
    rw [st_m, htop]
    dsimp only
    rw [List.length_map, pl_n, if_pos hj]
    dsimp only
    rw [show mM M0 f = M0 ++ [.lst (encs f)] from rfl, top_set, ← List.map_set]
  rw [evalS, h3]
  dsimp only
  rw [h1]
  dsimp only
  rw [h2]
  dsimp only
  rw [hst]
theorem len_rng {cf : Nat → List W → Mem → Option (W × Mem)} {ρ : EV.Loc} {e : E} {f : List Rat} (h : evalE cf G wf e ρ M = some (.d (encP f), M)) (hl : f.length < 1000000) : evalIt cf G wf (.rng (.cons (.blt false .len (.cons e .nil)) .nil)) ρ M = some (.its (irng 0 1 f.length), M) := by
  have h1 : evalE cf G wf (.blt false .len (.cons e .nil)) ρ M = some (.d (.int (f.length : Nat)), M) := by
    rw [evalE, es_cons h es_nil]
    simp only [db_len, derefR_d, Option.map_some, q_lenT, List.length_map, give_f]
  have h3 : plain [.d (.int (f.length : Int))] = some [.int (f.length : Int)] := by rw [plain_d, plain_nil, Option.map_some]
  exact x_rng (es_cons h1 es_nil) h3 (rng_n hl)
theorem lmul_inner {S L : Nat} {x4 : Option W} (hp : fs[p]? = some (pPlus r)) (ho : fs[o]? = some (pProd r)) (hr : Makes fs G wf k r N) (hB : 0 < B) (h2 : B ≤ 256) (hfi : f[i]? = some a) (ha : Qb B v m a) (hg : Qbs B w l g) (ht : Qbs B S (m + l) told) (hL : told.length = L) (hi : i + g.length ≤ L) (hs : v + w ≤ S) (hN : 16 * (m + l) + 2 ≤ N) (hv : 2 * (S + g.length) + 16 * (m + l) + 2 < 100000000) (hlg : g.length < 1000000) :
    ∃ (t : List Rat) (y4 : Option W), t.length = L ∧ Qbs B (S + g.length) (m + l) t ∧ (∀ x, ev t x = ev told x + a * pw x i * ev g x) ∧
      evalS (callF fs G wf (k + 1)) G wf (.fr (.v 4) (.rng (.cons (.blt false .len (.cons (.var 1) .nil)) .nil)) (lMB2 p o)) (lR f g M0.length (some (.d (.int (i : Nat)))) x4) (mM M0 told) = some (.nx (lR f g M0.length (some (.d (.int (i : Nat)))) y4) (mM M0 t)) := by
  have hit : evalIt (callF fs G wf (k + 1)) G wf (.rng (.cons (.blt false .len (.cons (.var 1) .nil)) .nil)) (lR f g M0.length (some (.d (.int (i : Nat)))) x4) (mM M0 told) = some (.its (irng 0 1 g.length), mM M0 told) := len_rng (by rw [evalE]; rfl) hlg
  obtain ⟨ρ', M', e, t, y4, rfl, rfl, h1, h3, h4⟩ := forL_for (f := turnG (callF fs G wf (k + 1)) G wf (.v 4) (lMB2 p o)) (xs := irng 0 1 g.length) (fun j ρ M => ∃ (t : List Rat) (y4 : Option W), ρ = lR f g M0.length (some (.d (.int (i : Nat)))) y4 ∧ M = mM M0 t ∧ t.length = L ∧ Qbs B (S + j) (m + l) t ∧ ∀ x, ev t x = ev told x + a * pw x i * ev (g.take j) x)
    (fun ρ M => ∃ (t : List Rat) (y4 : Option W), ρ = lR f g M0.length (some (.d (.int (i : Nat)))) y4 ∧ M = mM M0 t ∧ t.length = L ∧ Qbs B (S + g.length) (m + l) t ∧ ∀ x, ev t x = ev told x + a * pw x i * ev g x) (fun j x ρ M hx hI => by
      obtain ⟨rfl, hj⟩ := irng_at hx
      obtain ⟨t, y4, rfl, rfl, h1, h3, h4⟩ := hI
      have hgj : g[j]? = some g[j] := List.getElem?_eq_getElem hj
      have hbm := hg _ (List.getElem_mem hj)
      have hd : t[i + j]? = some t[i + j] := List.getElem?_eq_getElem (by omega)
      have hq := h3 _ (List.getElem_mem (by omega : i + j < t.length))
      rw [x_turn]
      show ∃ ρ' M', (evalSs _ _ _ _ (lR f g M0.length (some (.d (.int (i : Nat)))) (some (.d (.int (j : Nat))))) _ = _ ∧ _) ∨ (evalSs _ _ _ _ (lR f g M0.length (some (.d (.int (i : Nat)))) (some (.d (.int (j : Nat))))) _ = _ ∧ _)
      have hix : evalE (callF fs G wf (k + 1)) G wf (.op2 false .add (.var 3) (.var 4)) (lR f g M0.length (some (.d (.int (i : Nat)))) (some (.d (.int (j : Nat))))) (mM M0 t) = some (.d (.int ((i + j : Nat) : Int)), mM M0 t) := by
        simp only [evalE, evalEs, evalB, evalIt, evalS, evalSs, evalTg, allB, allI, deref_d, deref_m, derefR_d, derefR_m, derefR_r, db_len, db_abs, db_int, db_all, db_any, db_sum, db_tuple, db_list, db_max, db_min, db_gcd, db_isi, derefs_nil, derefs_cons, plain_nil, plain_d, give_f, give_t, p_add, p_addT, p_addL, p_sub, p_mul, p_fdiv, p_mod, p_pow, p_lt, p_le, p_gt, p_ge, p_ixL, p_ixT, at_0, at_1, at_2, at_n, p_eqI, p_neI, s_nn, s_bb, s_in, s_bn, s_tn, s_ln, s_sn, s_nb, s_ib, s_tb, s_lb, s_sb, p_is, p_isn, q_lenL, q_lenT, q_abs, q_int, q_intb, q_all, q_any, q_sum, q_tupL, q_tupT, q_lstL, q_lstT, q_max, q_min, q_gcd, q_isi, t_tt, t_tl, t_ti, t_tb, t_tn, t_ts, t_it, t_il, t_ii, t_ib, t_in, t_is, t_bt, t_bl, t_bi, t_bb, t_bn, t_bs, t_st, t_sl, t_si, t_sb, t_sn, t_ss, r_none, r_bool, r_int, r_list, r_tup, f_d, st_m, pl_n, pl_0, pl_1, m_app, m_pop, tof_s, bt_v, sw_c, sw_n, ag_a, List.getElem?_cons_zero, List.getElem?_cons_succ, if_neg (show ¬ (P2.add = P2.ix) by decide)]
        rfl
      have hv2 : evalE (callF fs G wf (k + 1)) G wf (.var 2) (lR f g M0.length (some (.d (.int (i : Nat)))) (some (.d (.int (j : Nat))))) (mM M0 t) = some (.m M0.length, mM M0 t) := by rw [evalE]; rfl
      have hpr : evalE (callF fs G wf (k + 1)) G wf (.call o (.cons (.op2 false .ix (.var 0) (.var 3)) (.cons (.op2 false .ix (.var 1) (.var 4)) .nil))) (lR f g M0.length (some (.d (.int (i : Nat)))) (some (.d (.int (j : Nat))))) (mM M0 t) = some (.d (enc (a * g[j])), mM M0 t) :=
        x_callE (es_cons (e_ixT (by rw [evalE]; rfl) (by rw [evalE]; rfl) hfi) (es_cons (e_ixT (by rw [evalE]; rfl) (by rw [evalE]; rfl) hgj) es_nil)) (prod_enc ho hr hB h2 ha hbm (by omega) (by omega))
      have hsum : evalE (callF fs G wf (k + 1)) G wf (.call p (.cons (.op2 false .ix (.var 2) (.op2 false .add (.var 3) (.var 4))) (.cons (.call o (.cons (.op2 false .ix (.var 0) (.var 3)) (.cons (.op2 false .ix (.var 1) (.var 4)) .nil))) .nil))) (lR f g M0.length (some (.d (.int (i : Nat)))) (some (.d (.int (j : Nat))))) (mM M0 t) = some (.d (enc (t[i + j] + a * g[j])), mM M0 t) :=
        x_callE (es_cons (e_ixM hv2 hix hd) (es_cons hpr es_nil)) (plus_enc hp hr hB h2 hq (ha.mul hB hbm) (by omega) (by omega))
      refine ⟨lR f g M0.length (some (.d (.int (i : Nat)))) (some (.d (.int (j : Nat)))), mM M0 (t.set (i + j) (t[i + j] + a * g[j])), .inl ⟨x_cons (s_ixM hsum hv2 hix (by omega)) rfl, t.set (i + j) (t[i + j] + a * g[j]), _, rfl, rfl, by rw [List.length_set]; exact h1, fun q hq' => ?_, fun x => ?_⟩⟩
      · rcases List.mem_or_eq_of_mem_set hq' with h | h
        · exact (h3 q h).mono (by omega) (Nat.le_refl _)
        · subst h
          exact (hq.add hB ((ha.mul hB hbm).mono (by omega) (Nat.le_refl _))).mono (by omega) (Nat.le_refl _)
      · rw [ev_set x (a * g[j]) t (i + j) _ hd, h4, ev_take x g j _ hgj, pw_add]; grind) (fun ρ M hI => by
      obtain ⟨t, y4, e1, e2, h1, h3, h4⟩ := hI
      rw [irng_length] at h3 h4
      exact ⟨t, y4, e1, e2, h1, h3, fun x => by rw [h4, List.take_length]⟩) (ρ := lR f g M0.length (some (.d (.int (i : Nat)))) x4) (M := mM M0 told) ⟨told, x4, rfl, rfl, hL, ht, fun x => by rw [List.take_zero]; have : ev [] x = 0 := rfl; rw [this]; grind⟩
  exact ⟨t, y4, h1, h3, h4, x_for hit e⟩
end
end EV

/-! EvZ2: _law_pmul, _law_padd. -/
namespace EV
open PySem
theorem lay_encs : ∀ f : List Rat, PyData.canLayAll0 (encs f) = true
  | [] => rfl
  | q :: f => by
    show (PyData.canLay0 (enc q) && PyData.canLayAll0 (encs f)) = true
    rw [lay_encs f]
    simp [enc, pr, PyData.canLay0, PyData.canLayAll0]
theorem eq_empty (f : List Rat) : prim2 .eq (encP f) (.tuple []) = some (.bool f.isEmpty) := by
  have h : shEq (encP f) (.tuple []) = true := by
    have h1 := lay_encs f
    have h2 : PyData.canLay0 (encP f) = true := by rw [encP, PyData.canLay0]; exact h1
    have h3 : PyData.canLay0 (.tuple []) = true := by decide +kernel
    have h4 : min (encP f).depth (PyData.tuple []).depth ≤ 64 := Nat.le_trans (Nat.min_le_right _ _) (by decide +kernel)
    unfold shEq
    rw [h2, h3, decide_eq_true h4]; rfl
  show (peq (encP f) (.tuple [])).map PyData.bool = _
  unfold peq
  rw [if_pos h]
  cases f <;> simp [PyData.eqv, PyData.eqvAll]
section
variable {G : List PyData} {wf : Nat} {M M0 : Mem} {fs : List Fn} {p o c s t' r k N B v m w l i : Nat} {f g told : List Rat} {q a : Rat}
theorem e_lst0 {cf : Nat → List W → Mem → Option (W × Mem)} {ρ : EV.Loc} : evalE cf G wf (.lst false (.cons (.tup (.cons (.lit (.int 0)) (.cons (.lit (.int 1)) .nil))) .nil)) ρ M = some (.d (.list [pr 0 1]), M) := by
  have hsz := sizeLine_eq
  simp [evalE, evalEs, evalB, evalIt, evalS, evalSs, evalTg, allB, allI, deref_d, deref_m, derefR_d, derefR_m, derefR_r, db_len, db_abs, db_int, db_all, db_any, db_sum, db_tuple, db_list, db_max, db_min, db_gcd, db_isi, derefs_nil, derefs_cons, plain_nil, plain_d, give_f, give_t, p_add, p_addT, p_addL, p_sub, p_mul, p_fdiv, p_mod, p_pow, p_lt, p_le, p_gt, p_ge, p_ixL, p_ixT, at_0, at_1, at_2, at_n, p_eqI, p_neI, s_nn, s_bb, s_in, s_bn, s_tn, s_ln, s_sn, s_nb, s_ib, s_tb, s_lb, s_sb, p_is, p_isn, q_lenL, q_lenT, q_abs, q_int, q_intb, q_all, q_any, q_sum, q_tupL, q_tupT, q_lstL, q_lstT, q_max, q_min, q_gcd, q_isi, t_tt, t_tl, t_ti, t_tb, t_tn, t_ts, t_it, t_il, t_ii, t_ib, t_in, t_is, t_bt, t_bl, t_bi, t_bb, t_bn, t_bs, t_st, t_sl, t_si, t_sb, t_sn, t_ss, r_none, r_bool, r_int, r_list, r_tup, f_d, st_m, pl_n, pl_0, pl_1, m_app, m_pop, tof_s, bt_v, sw_c, sw_n, ag_a, hsz]
/-- _law_pmul -/
theorem lmul_eq (h : fs[i]? = some (lMul t' p o)) (ht' : fs[t']? = some lTrim) (hp : fs[p]? = some (pPlus r)) (ho : fs[o]? = some (pProd r)) (hr : Makes fs G wf k r N) (hB : 0 < B) (h2 : B ≤ 256) (hf : Qbs B v m f) (hg : Qbs B w l g)
    (hN : 16 * (m + l) + 2 ≤ N) (hv : 2 * (v + w + f.length * g.length + g.length) + 16 * (m + l) + 2 < 100000000) (hlf : f.length ≤ 100000) (hlg : g.length ≤ 100000) (hw : 1000000 ≤ wf) :
    ∃ t : List Rat, callF fs G wf (k + 2) i [.d (encP f), .d (encP g)] M = some (.d (encP t), M) ∧ Tr t ∧ (∀ x, ev t x = ev f x * ev g x) ∧ Qbs B (v + w + f.length * g.length) (m + l) t ∧ t.length ≤ f.length + g.length := by
  have hsz := sizeLine_eq
  have e0 : ∀ j : Nat, evalE (callF fs G wf (k + 1)) G wf (.tup .nil) [some (.d (encP f)), some (.d (encP g)), none, none, none] M = some (.d (.tuple []), M) := fun _ => e_tup es_nil rfl (Nat.zero_le _)
  have eqE : ∀ (n : Nat) (f' : List Rat), evalE (callF fs G wf (k + 1)) G wf (.var n) [some (.d (encP f)), some (.d (encP g)), none, none, none] M = some (.d (encP f'), M) → evalE (callF fs G wf (k + 1)) G wf (.op2 false .eq (.var n) (.tup .nil)) [some (.d (encP f)), some (.d (encP g)), none, none, none] M = some (.d (.bool f'.isEmpty), M) := fun n f' hn => by
    rw [evalE, hn]
    dsimp only
    rw [e0 0]
    simp only [if_neg (show ¬ (P2.eq = P2.ix) by decide), deref_d, eq_empty, give_f]
  have ht : testOf (evalE (callF fs G wf (k + 1)) G wf (.or (.cons (.op2 false .eq (.var 0) (.tup .nil)) (.cons (.op2 false .eq (.var 1) (.tup .nil)) .nil))) [some (.d (encP f)), some (.d (encP g)), none, none, none] M) = some (f.isEmpty || g.isEmpty, M) := by
    have a1 := eqE 0 f (by rw [evalE]; rfl)
    have a2 := eqE 1 g (by rw [evalE]; rfl)
    cases hf0 : f.isEmpty with
    | true =>
      rw [hf0] at a1
      rw [Bool.true_or]
      exact t_bool (e_or (b_stop a1 (by decide)))
    | false =>
      rw [hf0] at a1
      rw [Bool.false_or]
      exact t_bool (e_or (b_go a1 (b_one a2)))
  cases he : (f.isEmpty || g.isEmpty) with
  | true =>
    rw [he] at ht
    refine ⟨[], ret_d h rfl (x_stop (x_ifT ht (x_stop (x_ret (e_tup es_nil rfl (Nat.zero_le _)))))), fun q hq => (by cases hq), fun x => ?_, fun q hq => (by cases hq), Nat.zero_le _⟩
    rw [Bool.or_eq_true, List.isEmpty_iff, List.isEmpty_iff] at he
    have h0 : ev [] x = 0 := rfl
    rcases he with rfl | rfl
    · rw [h0]; grind
    · rw [h0]; grind
  | false =>
    rw [he] at ht
    rw [Bool.or_eq_false_iff] at he
    have f1 : 1 ≤ f.length := by
      cases f with
      | nil => cases he.1
      | cons _ _ => simp
    have g1 : 1 ≤ g.length := by
      cases g with
      | nil => cases he.2
      | cons _ _ => simp
    generalize hL : f.length + g.length - 1 = L at *
    have s2 : evalS (callF fs G wf (k + 1)) G wf (.asg 2 (.op2 true .mul (.lst false (.cons (.tup (.cons (.lit (.int 0)) (.cons (.lit (.int 1)) .nil))) .nil)) (.op2 false .sub (.op2 false .add (.blt false .len (.cons (.var 0) .nil)) (.blt false .len (.cons (.var 1) .nil))) (.lit (.int 1))))) [some (.d (encP f)), some (.d (encP g)), none, none, none] M = some (.nx (lR f g M.length none none) (mM M (List.replicate L 0))) := by
      have e2 : evalE (callF fs G wf (k + 1)) G wf (.op2 false .sub (.op2 false .add (.blt false .len (.cons (.var 0) .nil)) (.blt false .len (.cons (.var 1) .nil))) (.lit (.int 1))) [some (.d (encP f)), some (.d (encP g)), none, none, none] M = some (.d (.int (L : Nat)), M) := by
        have : (f.length : Int) + g.length - 1 = (L : Nat) := by omega
        simp only [evalE, evalEs, evalB, evalIt, evalS, evalSs, evalTg, allB, allI, deref_d, deref_m, derefR_d, derefR_m, derefR_r, db_len, db_abs, db_int, db_all, db_any, db_sum, db_tuple, db_list, db_max, db_min, db_gcd, db_isi, derefs_nil, derefs_cons, plain_nil, plain_d, give_f, give_t, p_add, p_addT, p_addL, p_sub, p_mul, p_fdiv, p_mod, p_pow, p_lt, p_le, p_gt, p_ge, p_ixL, p_ixT, at_0, at_1, at_2, at_n, p_eqI, p_neI, s_nn, s_bb, s_in, s_bn, s_tn, s_ln, s_sn, s_nb, s_ib, s_tb, s_lb, s_sb, p_is, p_isn, q_lenL, q_lenT, q_abs, q_int, q_intb, q_all, q_any, q_sum, q_tupL, q_tupT, q_lstL, q_lstT, q_max, q_min, q_gcd, q_isi, t_tt, t_tl, t_ti, t_tb, t_tn, t_ts, t_it, t_il, t_ii, t_ib, t_in, t_is, t_bt, t_bl, t_bi, t_bb, t_bn, t_bs, t_st, t_sl, t_si, t_sb, t_sn, t_ss, r_none, r_bool, r_int, r_list, r_tup, f_d, st_m, pl_n, pl_0, pl_1, m_app, m_pop, tof_s, bt_v, sw_c, sw_n, ag_a, List.getElem?_cons_zero, List.getElem?_cons_succ, if_neg (show ¬ (P2.sub = P2.ix) by decide), if_neg (show ¬ (P2.add = P2.ix) by decide), Option.map_some, List.length_map, this]
      rw [evalS, x_opM e_lst0 e2 (mul_rep (n := L) (by omega)) (by decide)]
      rfl
    have hit : evalIt (callF fs G wf (k + 1)) G wf (.rng (.cons (.blt false .len (.cons (.var 0) .nil)) .nil)) (lR f g M.length none none) (mM M (List.replicate L 0)) = some (.its (irng 0 1 f.length), mM M (List.replicate L 0)) := len_rng (by rw [evalE]; rfl) (by omega)
    obtain ⟨ρ', M', e, t, y3, y4, rfl, rfl, h1, h3, h4⟩ := forL_for (f := turnG (callF fs G wf (k + 1)) G wf (.v 3) (lMB1 p o)) (xs := irng 0 1 f.length) (fun j ρ M' => ∃ (t : List Rat) (y3 y4 : Option W), ρ = lR f g M.length y3 y4 ∧ M' = mM M t ∧ t.length = L ∧ Qbs B (v + w + j * g.length) (m + l) t ∧ ∀ x, ev t x = ev (f.take j) x * ev g x)
      (fun ρ M' => ∃ (t : List Rat) (y3 y4 : Option W), ρ = lR f g M.length y3 y4 ∧ M' = mM M t ∧ t.length = L ∧ Qbs B (v + w + f.length * g.length) (m + l) t ∧ ∀ x, ev t x = ev f x * ev g x) (fun j x ρ M' hx hI => by
        obtain ⟨rfl, hj⟩ := irng_at hx
        obtain ⟨t, y3, y4, rfl, rfl, h1, h3, h4⟩ := hI
        have hfj : f[j]? = some f[j] := List.getElem?_eq_getElem hj
        have hjm : j * g.length + g.length ≤ f.length * g.length := by
          have := Nat.mul_le_mul_right g.length (show j + 1 ≤ f.length from hj)
          rw [Nat.add_mul, Nat.one_mul] at this; exact this
        have hj1 : (j + 1) * g.length = j * g.length + g.length := by rw [Nat.add_mul, Nat.one_mul]
        obtain ⟨t1, z4, g1', g3, g4, ge⟩ := lmul_inner (f := f) (g := g) (M0 := M) (told := t) (i := j) (x4 := y4) hp ho hr hB h2 hfj (hf _ (List.getElem_mem hj)) hg h3 h1 (by omega) (by omega) hN (by omega) (by omega)
        have gs : evalSs (callF fs G wf (k + 1)) G wf (lMB1 p o) (lR f g M.length (some (.d (.int (j : Nat)))) y4) (mM M t) = some (.nx (lR f g M.length (some (.d (.int (j : Nat)))) z4) (mM M t1)) := x_cons ge (by rw [evalSs])
        refine ⟨lR f g M.length (some (.d (.int (j : Nat)))) z4, mM M t1, .inl ⟨by rw [x_turn]; exact gs, t1, some (.d (.int (j : Nat))), z4, rfl, rfl, g1', g3.mono (by omega) (Nat.le_refl _), fun x => ?_⟩⟩
        rw [g4, h4, ev_take x f j _ hfj]; grind) (fun ρ M' hI => by
        obtain ⟨t, y3, y4, e1, e2, h1, h3, h4⟩ := hI
        rw [irng_length] at h3 h4
        exact ⟨t, y3, y4, e1, e2, h1, h3, fun x => by rw [h4, List.take_length]⟩) (ρ := lR f g M.length none none) (M := mM M (List.replicate L 0)) ⟨List.replicate L 0, none, none, rfl, rfl, by simp, fun q hq => (by rw [List.eq_of_mem_replicate hq]; exact qb_zero), fun x => by rw [ev_rep, List.take_zero]; have : ev [] x = 0 := rfl; rw [this]; grind⟩
    have hcut : evalE (callF fs G wf (k + 1)) G wf (.call t' (.cons (.var 2) .nil)) (lR f g M.length y3 y4) (mM M t) = some (.d (encP (cutR t)), mM M t) := by
      have htop : (mM M t)[M.length]? = some (.lst (encs t)) := top_get
      exact x_callE (es_cons (w := .m M.length) (M1 := mM M t) (by rw [evalE]; rfl) es_nil) (trim_eq ht' (by rw [derefR_m, deref_m, htop]) (by rw [deref_m, htop]) (by omega) (by omega))
    refine ⟨cutR t, ?_, tr_cut t, fun x => by rw [ev_cut, h4], h3.cut, Nat.le_trans (cutR_len t) (by omega)⟩
    have go : evalSs (callF fs G wf (k + 1)) G wf (lMul t' p o).body [some (.d (encP f)), some (.d (encP g)), none, none, none] M = some (.ret (.d (encP (cutR t))) (mM M t)) := x_cons (x_ifF ht) (x_cons s2 (x_cons (x_for hit e) (x_stop (x_ret hcut))))
    rw [x_fin h rfl (by exact go), show mM M t = M ++ [.lst (encs t)] from rfl, top_take]
end
end EV

/-! EvZ3: _law_padd. -/
namespace EV
open PySem
def lPB1 : Ss := .cons (.asgIx (.var 2) (.var 3) (.op2 false .ix (.var 0) (.var 3))) .nil
def lPB2 (p : Nat) : Ss := .cons (.asgIx (.var 2) (.var 3) (.call p (.cons (.op2 false .ix (.var 2) (.var 3)) (.cons (.op2 false .ix (.var 1) (.var 3)) .nil)))) .nil
def lPadd (t p : Nat) : Fn := ⟨2, 4,
  (.cons (.asg 2 (.op2 true .mul (.lst false (.cons (.tup (.cons (.lit (.int 0)) (.cons (.lit (.int 1)) .nil))) .nil)) (.blt false .max (.cons (.blt false .len (.cons (.var 0) .nil)) (.cons (.blt false .len (.cons (.var 1) .nil)) .nil)))))
  (.cons (.fr (.v 3) (.rng (.cons (.blt false .len (.cons (.var 0) .nil)) .nil)) lPB1)
  (.cons (.fr (.v 3) (.rng (.cons (.blt false .len (.cons (.var 1) .nil)) .nil)) (lPB2 p))
  (.cons (.ret (.call t (.cons (.var 2) .nil)))
  .nil))))⟩
abbrev lPR (f g : List Rat) (n : Nat) (x3 : Option W) : EV.Loc := [some (.d (encP f)), some (.d (encP g)), some (.m n), x3]
section
variable {G : List PyData} {wf : Nat} {M M0 : Mem} {fs : List Fn} {p o c s t' r k N B v m w l i : Nat} {f g told : List Rat} {q a : Rat}
theorem padd_step1 {cf : Nat → List W → Mem → Option (W × Mem)} {j : Nat} (ha : f[j]? = some a) (hj : j < told.length) : evalSs cf G wf lPB1 (lPR f g M0.length (some (.d (.int (j : Nat))))) (mM M0 told) = some (.nx (lPR f g M0.length (some (.d (.int (j : Nat))))) (mM M0 (told.set j a))) :=
  x_cons (s_ixM (e_ixT (f := f) (by rw [evalE]; rfl) (by rw [evalE]; rfl) ha) (by rw [evalE]; rfl) (by rw [evalE]; rfl) hj) (by rw [evalSs])
theorem padd_step2 {j S : Nat} {b d : Rat} (hp : fs[p]? = some (pPlus r)) (hr : Makes fs G wf k r N) (hB : 0 < B) (h2 : B ≤ 256) (hb : g[j]? = some b) (hd : told[j]? = some d) (hdq : Qb B S m d) (hbq : Qb B v m b) (hN : 16 * m + 2 ≤ N) (hv : S + v + 16 * m + 2 < 100000000) :
    evalSs (callF fs G wf (k + 1)) G wf (lPB2 p) (lPR f g M0.length (some (.d (.int (j : Nat))))) (mM M0 told) = some (.nx (lPR f g M0.length (some (.d (.int (j : Nat))))) (mM M0 (told.set j (d + b)))) := by
  have hj : j < told.length := (List.getElem?_eq_some_iff.mp hd).1
  have e1 : evalE (callF fs G wf (k + 1)) G wf (.op2 false .ix (.var 2) (.var 3)) (lPR f g M0.length (some (.d (.int (j : Nat))))) (mM M0 told) = some (.d (enc d), mM M0 told) := e_ixM (by rw [evalE]; rfl) (by rw [evalE]; rfl) hd
  have e2 : evalE (callF fs G wf (k + 1)) G wf (.op2 false .ix (.var 1) (.var 3)) (lPR f g M0.length (some (.d (.int (j : Nat))))) (mM M0 told) = some (.d (enc b), mM M0 told) := e_ixT (f := g) (by rw [evalE]; rfl) (by rw [evalE]; rfl) hb
  have e3 : evalE (callF fs G wf (k + 1)) G wf (.call p (.cons (.op2 false .ix (.var 2) (.var 3)) (.cons (.op2 false .ix (.var 1) (.var 3)) .nil))) (lPR f g M0.length (some (.d (.int (j : Nat))))) (mM M0 told) = some (.d (enc (d + b)), mM M0 told) :=
    x_callE (es_cons e1 (es_cons e2 es_nil)) (plus_enc hp hr hB h2 hdq hbq (by omega) (by omega))
  exact x_cons (s_ixM e3 (by rw [evalE]; rfl) (by rw [evalE]; rfl) hj) (by rw [evalSs])
/-- _law_padd -/
theorem lpadd_eq (h : fs[i]? = some (lPadd t' p)) (ht' : fs[t']? = some lTrim) (hp : fs[p]? = some (pPlus r)) (hr : Makes fs G wf k r N) (hB : 0 < B) (h2 : B ≤ 256) (hf : Qbs B v m f) (hg : Qbs B v m g)
    (hN : 16 * m + 2 ≤ N) (hv : 2 * v + g.length + 16 * m + 2 < 100000000) (hlf : f.length ≤ 100000) (hlg : g.length ≤ 100000) (hw : 1000000 ≤ wf) :
    ∃ t : List Rat, callF fs G wf (k + 2) i [.d (encP f), .d (encP g)] M = some (.d (encP t), M) ∧ Tr t ∧ (∀ x, ev t x = ev f x + ev g x) ∧ Qbs B (v + g.length) m t ∧ t.length ≤ max f.length g.length := by
  generalize hL : max f.length g.length = L
  have s1 : evalS (callF fs G wf (k + 1)) G wf (.asg 2 (.op2 true .mul (.lst false (.cons (.tup (.cons (.lit (.int 0)) (.cons (.lit (.int 1)) .nil))) .nil)) (.blt false .max (.cons (.blt false .len (.cons (.var 0) .nil)) (.cons (.blt false .len (.cons (.var 1) .nil)) .nil))))) [some (.d (encP f)), some (.d (encP g)), none, none] M = some (.nx (lPR f g M.length none) (mM M (List.replicate L 0))) := by
    have e2 : evalE (callF fs G wf (k + 1)) G wf (.blt false .max (.cons (.blt false .len (.cons (.var 0) .nil)) (.cons (.blt false .len (.cons (.var 1) .nil)) .nil))) [some (.d (encP f)), some (.d (encP g)), none, none] M = some (.d (.int (L : Nat)), M) := by
      have : (if (g.length : Int) > f.length then (g.length : Int) else f.length) = (L : Nat) := by split <;> omega
      simp only [evalE, evalEs, evalB, evalIt, evalS, evalSs, evalTg, allB, allI, deref_d, deref_m, derefR_d, derefR_m, derefR_r, db_len, db_abs, db_int, db_all, db_any, db_sum, db_tuple, db_list, db_max, db_min, db_gcd, db_isi, derefs_nil, derefs_cons, plain_nil, plain_d, give_f, give_t, p_add, p_addT, p_addL, p_sub, p_mul, p_fdiv, p_mod, p_pow, p_lt, p_le, p_gt, p_ge, p_ixL, p_ixT, at_0, at_1, at_2, at_n, p_eqI, p_neI, s_nn, s_bb, s_in, s_bn, s_tn, s_ln, s_sn, s_nb, s_ib, s_tb, s_lb, s_sb, p_is, p_isn, q_lenL, q_lenT, q_abs, q_int, q_intb, q_all, q_any, q_sum, q_tupL, q_tupT, q_lstL, q_lstT, q_max, q_min, q_gcd, q_isi, t_tt, t_tl, t_ti, t_tb, t_tn, t_ts, t_it, t_il, t_ii, t_ib, t_in, t_is, t_bt, t_bl, t_bi, t_bb, t_bn, t_bs, t_st, t_sl, t_si, t_sb, t_sn, t_ss, r_none, r_bool, r_int, r_list, r_tup, f_d, st_m, pl_n, pl_0, pl_1, m_app, m_pop, tof_s, bt_v, sw_c, sw_n, ag_a, List.getElem?_cons_zero, List.getElem?_cons_succ, Option.map_some, List.length_map, this]
    rw [evalS, x_opM e_lst0 e2 (mul_rep (n := L) (by omega)) (by decide)]
    rfl
  have hit1 : evalIt (callF fs G wf (k + 1)) G wf (.rng (.cons (.blt false .len (.cons (.var 0) .nil)) .nil)) (lPR f g M.length none) (mM M (List.replicate L 0)) = some (.its (irng 0 1 f.length), mM M (List.replicate L 0)) := len_rng (by rw [evalE]; rfl) (by omega)
  obtain ⟨ρ1, M1, e1, t1, y3, rfl, rfl, a1, a2, a3⟩ := forL_for (f := turnG (callF fs G wf (k + 1)) G wf (.v 3) lPB1) (xs := irng 0 1 f.length) (fun j ρ M' => ∃ (t : List Rat) (y3 : Option W), ρ = lPR f g M.length y3 ∧ M' = mM M t ∧ t.length = L ∧ Qbs B v m t ∧ (∀ n, j ≤ n → n < L → t[n]? = some 0) ∧ ∀ x, ev t x = ev (f.take j) x)
    (fun ρ M' => ∃ (t : List Rat) (y3 : Option W), ρ = lPR f g M.length y3 ∧ M' = mM M t ∧ t.length = L ∧ Qbs B v m t ∧ ∀ x, ev t x = ev f x) (fun j x ρ M' hx hI => by
      obtain ⟨rfl, hj⟩ := irng_at hx
      obtain ⟨t, y3, rfl, rfl, h1, h3, h5, h4⟩ := hI
      have hfj : f[j]? = some f[j] := List.getElem?_eq_getElem hj
      refine ⟨lPR f g M.length (some (.d (.int (j : Nat)))), mM M (t.set j f[j]), .inl ⟨by rw [x_turn]; exact padd_step1 hfj (by omega), t.set j f[j], _, rfl, rfl, by rw [List.length_set]; exact h1, fun q hq => ?_, fun n hn hn2 => ?_, fun x => ?_⟩⟩
      · rcases List.mem_or_eq_of_mem_set hq with h | h
        · exact h3 q h
        · subst h; exact hf _ (List.getElem_mem hj)
      · rw [List.getElem?_set_ne (by omega)]; exact h5 n (by omega) hn2
      · have hs := ev_set x f[j] t j 0 (h5 j (Nat.le_refl _) (by omega))
        rw [Rat.zero_add] at hs
        rw [hs, h4, ev_take x f j _ hfj]) (fun ρ M' hI => by
      obtain ⟨t, y3, e1, e2, h1, h3, _, h4⟩ := hI
      rw [irng_length] at h4
      exact ⟨t, y3, e1, e2, h1, h3, fun x => by rw [h4, List.take_length]⟩) (ρ := lPR f g M.length none) (M := mM M (List.replicate L 0)) ⟨List.replicate L 0, none, rfl, rfl, by simp, fun q hq => (by rw [List.eq_of_mem_replicate hq]; exact qb_zero), fun n _ hn => by rw [List.getElem?_replicate, if_pos hn], fun x => by rw [ev_rep, List.take_zero]; rfl⟩
  have hit2 : evalIt (callF fs G wf (k + 1)) G wf (.rng (.cons (.blt false .len (.cons (.var 1) .nil)) .nil)) (lPR f g M.length y3) (mM M t1) = some (.its (irng 0 1 g.length), mM M t1) := len_rng (by rw [evalE]; rfl) (by omega)
  obtain ⟨ρ2, M2, e2, t2, z3, rfl, rfl, b1, b2, b3⟩ := forL_for (f := turnG (callF fs G wf (k + 1)) G wf (.v 3) (lPB2 p)) (xs := irng 0 1 g.length) (fun j ρ M' => ∃ (t : List Rat) (y3 : Option W), ρ = lPR f g M.length y3 ∧ M' = mM M t ∧ t.length = L ∧ Qbs B (v + j) m t ∧ ∀ x, ev t x = ev f x + ev (g.take j) x)
    (fun ρ M' => ∃ (t : List Rat) (y3 : Option W), ρ = lPR f g M.length y3 ∧ M' = mM M t ∧ t.length = L ∧ Qbs B (v + g.length) m t ∧ ∀ x, ev t x = ev f x + ev g x) (fun j x ρ M' hx hI => by
      obtain ⟨rfl, hj⟩ := irng_at hx
      obtain ⟨t, y3, rfl, rfl, h1, h3, h4⟩ := hI
      have hgj : g[j]? = some g[j] := List.getElem?_eq_getElem hj
      have hbq := hg _ (List.getElem_mem hj)
      have hd : t[j]? = some t[j] := List.getElem?_eq_getElem (by omega)
      have hq := h3 _ (List.getElem_mem (by omega : j < t.length))
      refine ⟨lPR f g M.length (some (.d (.int (j : Nat)))), mM M (t.set j (t[j] + g[j])), .inl ⟨by rw [x_turn]; exact padd_step2 hp hr hB h2 hgj hd hq hbq hN (by omega), t.set j (t[j] + g[j]), _, rfl, rfl, by rw [List.length_set]; exact h1, fun q hq' => ?_, fun x => ?_⟩⟩
      · rcases List.mem_or_eq_of_mem_set hq' with h | h
        · exact (h3 q h).mono (by omega) (Nat.le_refl _)
        · subst h
          exact (hq.add hB (hbq.mono (by omega) (Nat.le_refl _))).mono (by omega) (Nat.le_refl _)
      · rw [ev_set x g[j] t j _ hd, h4, ev_take x g j _ hgj]; grind) (fun ρ M' hI => by
      obtain ⟨t, y3, e1, e2, h1, h3, h4⟩ := hI
      rw [irng_length] at h3 h4
      exact ⟨t, y3, e1, e2, h1, h3, fun x => by rw [h4, List.take_length]⟩) (ρ := lPR f g M.length y3) (M := mM M t1) ⟨t1, y3, rfl, rfl, a1, a2, fun x => by rw [a3, List.take_zero]; have : ev [] x = 0 := rfl; rw [this]; grind⟩
  have hcut : evalE (callF fs G wf (k + 1)) G wf (.call t' (.cons (.var 2) .nil)) (lPR f g M.length z3) (mM M t2) = some (.d (encP (cutR t2)), mM M t2) := by
    have htop : (mM M t2)[M.length]? = some (.lst (encs t2)) := top_get
    exact x_callE (es_cons (w := .m M.length) (M1 := mM M t2) (by rw [evalE]; rfl) es_nil) (trim_eq ht' (by rw [derefR_m, deref_m, htop]) (by rw [deref_m, htop]) (by omega) (by omega))
  refine ⟨cutR t2, ?_, tr_cut t2, fun x => by rw [ev_cut, b3], b2.cut, Nat.le_trans (cutR_len t2) (by omega)⟩
  have go : evalSs (callF fs G wf (k + 1)) G wf (lPadd t' p).body [some (.d (encP f)), some (.d (encP g)), none, none] M = some (.ret (.d (encP (cutR t2))) (mM M t2)) := x_cons s1 (x_cons (x_for hit1 e1) (x_cons (x_for hit2 e2) (x_stop (x_ret hcut))))
  rw [x_fin h rfl (by exact go), show mM M t2 = M ++ [.lst (encs t2)] from rfl, top_take]
end
end EV

/-! EvZ4: _law_put. -/
namespace EV
open PySem
def lPutB (s u : Nat) : Ss := .cons (.asg 2 (.call s (.cons (.call u (.cons (.var 2) (.cons (.var 1) .nil))) (.cons (.ife (.op2 false .ne (.op2 false .ix (.var 3) (.lit (.int 0))) (.lit (.int 0))) (.tup (.cons (.var 3) .nil)) (.tup .nil)) .nil)))) .nil
def lPut (s u : Nat) : Fn := ⟨2, 4,
  (.cons (.asg 2 (.tup .nil))
  (.cons (.fr (.v 3) (.seq (.rev false (.var 0))) (lPutB s u))
  (.cons (.ret (.var 2))
  .nil)))⟩
section
variable {G : List PyData} {wf : Nat} {M : Mem} {fs : List Fn} {z p o c s u r k N B v m w l i S : Nat} {f g : List Rat}
theorem lput_eq (h : fs[i]? = some (lPut s u)) (hs : fs[s]? = some (lPadd c p)) (hu : fs[u]? = some (lMul c p o)) (hc : fs[c]? = some lTrim) (hp : fs[p]? = some (pPlus r)) (ho : fs[o]? = some (pProd r)) (hr : Makes fs G wf k r N) (hB : 0 < B) (h2 : B ≤ 256)
    (hf : Qbs B v m f) (hg : Qbs B w l g) (hS : v + w + f.length * (g.length + 1) * g.length + 1 ≤ S) (hN : 16 * (m + (f.length + 1) * l) + 2 ≤ N) (hv : 2 * (v + (f.length + 2) * S + g.length) + 16 * (m + (f.length + 1) * l) + 2 < 100000000) (hlf : f.length ≤ 100) (hlg : g.length ≤ 100) (hw : 1000000 ≤ wf) :
    ∃ t : List Rat, callF fs G wf (k + 3) i [.d (encP f), .d (encP g)] M = some (.d (encP t), M) ∧ Tr t ∧ (∀ x, ev t x = ev f (ev g x)) ∧ Qbs B (v + f.length * S) (m + f.length * l) t ∧ t.length ≤ f.length * (g.length + 1) := by
  have hsz := sizeLine_eq
  obtain ⟨ρ', M', e, t, y3, rfl, hMM, h1, h3, h4, h5⟩ := forL_for (f := turnG (callF fs G wf (k + 2)) G wf (.v 3) (lPutB s u)) (xs := (encs f).reverse) (fun j ρ M' => ∃ (t : List Rat) (y3 : Option W), ρ = [some (.d (encP f)), some (.d (encP g)), some (.d (encP t)), y3] ∧ M' = M ∧ Tr t ∧ Qbs B (v + j * S) (m + j * l) t ∧ t.length ≤ j * (g.length + 1) ∧ ∀ x, ev t x = ev (f.drop (f.length - j)) (ev g x))
    (fun ρ M' => ∃ (t : List Rat) (y3 : Option W), ρ = [some (.d (encP f)), some (.d (encP g)), some (.d (encP t)), y3] ∧ M' = M ∧ Tr t ∧ Qbs B (v + f.length * S) (m + f.length * l) t ∧ t.length ≤ f.length * (g.length + 1) ∧ ∀ x, ev t x = ev f (ev g x)) (fun j x ρ M' hx hI => by
      obtain ⟨hj, a, ha, rfl, hdr⟩ := rev_at hx
      obtain ⟨t, y3, rfl, rfl, h1, h3, h4, h5⟩ := hI
      have ham := hf a (List.mem_of_getElem? ha)
      have b1 : j * (g.length + 1) * g.length ≤ f.length * (g.length + 1) * g.length := Nat.mul_le_mul_right _ (Nat.mul_le_mul_right _ (by omega))
      have b2 : t.length * g.length ≤ f.length * (g.length + 1) * g.length := Nat.le_trans (Nat.mul_le_mul_right _ h4) b1
      have b3 : (j + 1) * S = j * S + S := by rw [Nat.add_mul, Nat.one_mul]
      have b4 : (j + 1) * S ≤ f.length * S := Nat.mul_le_mul_right _ hj
      have b5 : (j + 1) * l = j * l + l := by rw [Nat.add_mul, Nat.one_mul]
      have b6 : (j + 1) * l ≤ f.length * l := Nat.mul_le_mul_right _ hj
      have b7 : (f.length + 2) * S = f.length * S + 2 * S := by rw [Nat.add_mul]
      have b8 : (f.length + 1) * l = f.length * l + l := by rw [Nat.add_mul, Nat.one_mul]
      have b9 : (j + 1) * (g.length + 1) = j * (g.length + 1) + (g.length + 1) := by rw [Nat.add_mul, Nat.one_mul]
      have b10 : j * (g.length + 1) ≤ 100 * 101 := Nat.mul_le_mul (by omega) (by omega)
      obtain ⟨t1, q1, q2, q3, q4, q5⟩ := lmul_eq (M := M') hu hc hp ho hr hB h2 h3 hg (by omega) (by omega) (by omega) (by omega) hw
      let cs : List Rat := if a = 0 then [] else [a]
      have hcs : Qbs B v m cs := fun q hq => by
        by_cases h0 : a = 0
        · simp [cs, h0] at hq
        · simp [cs, h0] at hq; rw [hq]; exact ham
      have hcl : cs.length ≤ 1 := by by_cases h0 : a = 0 <;> simp [cs, h0]
      have hce : ∀ x, ev cs x = a := fun x => by
        by_cases h0 : a = 0
        · have e0 : cs = [] := if_pos h0
          rw [e0, h0]; rfl
        · have e0 : cs = [a] := if_neg h0
          rw [e0]
          show a + x * 0 = a
          grind
      have Q1 : Qbs B (v + j * S + w + f.length * (g.length + 1) * g.length) (m + (j + 1) * l) t1 := q4.mono (by omega) (by omega)
      have Q2 : Qbs B (v + j * S + w + f.length * (g.length + 1) * g.length) (m + (j + 1) * l) cs := hcs.mono (by omega) (by omega)
      obtain ⟨t2, hsum, r2, r3, r4, r5⟩ := lpadd_eq (M := M') (i := s) hs hc hp hr hB h2 Q1 Q2 (by omega) (by omega) (by omega) (by omega) hw
      have eC : evalE (callF fs G wf (k + 2)) G wf (.ife (.op2 false .ne (.op2 false .ix (.var 3) (.lit (.int 0))) (.lit (.int 0))) (.tup (.cons (.var 3) .nil)) (.tup .nil)) [some (.d (encP f)), some (.d (encP g)), some (.d (encP t)), some (.d (enc a))] M' = some (.d (encP cs), M') := by
        have h6 : evalE (callF fs G wf (k + 2)) G wf (.var 3) [some (.d (encP f)), some (.d (encP g)), some (.d (encP t)), some (.d (enc a))] M' = some (.d (enc a), M') := by rw [evalE]; rfl
        have ht : testOf (evalE (callF fs G wf (k + 2)) G wf (.op2 false .ne (.op2 false .ix (.var 3) (.lit (.int 0))) (.lit (.int 0))) [some (.d (encP f)), some (.d (encP g)), some (.d (encP t)), some (.d (enc a))] M') = some (!decide (a = 0), M') := by
          refine t_bool ?_
          have h7 : evalE (callF fs G wf (k + 2)) G wf (.op2 false .ix (.var 3) (.lit (.int 0))) [some (.d (encP f)), some (.d (encP g)), some (.d (encP t)), some (.d (enc a))] M' = some (.d (.int a.num), M') := by
            rw [evalE, h6]
            rfl
          have h8 : evalE (callF fs G wf (k + 2)) G wf (.lit (.int 0)) [some (.d (encP f)), some (.d (encP g)), some (.d (encP t)), some (.d (enc a))] M' = some (.d (.int 0), M') := by rw [evalE]
          rw [evalE, h7]
          dsimp only
          rw [h8]
          simp only [if_neg (show ¬ (P2.ne = P2.ix) by decide), deref_d, p_neI, give_f, num_zero]
        rw [evalE, ht]
        by_cases h0 : a = 0
        · have e0 : cs = [] := if_pos h0
          rw [decide_eq_true h0, e0]
          exact e_tup es_nil rfl (Nat.zero_le _)
        · have e0 : cs = [a] := if_neg h0
          rw [decide_eq_false h0, e0]
          exact e_tup (es_cons h6 es_nil) rfl (by rw [hsz]; show 1 ≤ _; decide)
      have eM : evalE (callF fs G wf (k + 2)) G wf (.call u (.cons (.var 2) (.cons (.var 1) .nil))) [some (.d (encP f)), some (.d (encP g)), some (.d (encP t)), some (.d (enc a))] M' = some (.d (encP t1), M') :=
        x_callE (es_cons (w := .d (encP t)) (M1 := M') (by rw [evalE]; rfl) (es_cons (w := .d (encP g)) (M1 := M') (by rw [evalE]; rfl) es_nil)) q1
      have eS := x_callE (es_cons eM (es_cons eC es_nil)) hsum
      refine ⟨[some (.d (encP f)), some (.d (encP g)), some (.d (encP t2)), some (.d (enc a))], M', .inl ⟨?_, _, _, rfl, rfl, r2, ?_, ?_, fun x => ?_⟩⟩
      · rw [x_turn]
        refine x_cons (ρ' := [some (.d (encP f)), some (.d (encP g)), some (.d (encP t2)), some (.d (enc a))]) (M' := M') ?_ rfl
        show evalS _ _ _ _ [some (.d (encP f)), some (.d (encP g)), some (.d (encP t)), some (.d (enc a))] _ = _
        rw [evalS, eS]
        rfl
      · exact r4.mono (by omega) (by omega)
      · refine Nat.le_trans r5 ?_
        omega
      · rw [r3, q3, h5, hce, hdr, ev]; grind) (fun ρ M' hI => by
      obtain ⟨t, y3, e1, e2, h1, h3, h4, h5⟩ := hI
      rw [List.length_reverse, List.length_map] at h3 h4 h5
      exact ⟨t, y3, e1, e2, h1, h3, h4, fun x => by rw [h5, Nat.sub_self, List.drop_zero]⟩) (ρ := [some (.d (encP f)), some (.d (encP g)), some (.d (encP [])), none]) (M := M) ⟨[], none, rfl, rfl, fun q hq => (by cases hq), fun q hq => (by cases hq), by simp, fun x => by rw [Nat.sub_zero, List.drop_length]; rfl⟩
  rw [hMM] at e
  have s1 : evalS (callF fs G wf (k + 2)) G wf (.asg 2 (.tup .nil)) [some (.d (encP f)), some (.d (encP g)), none, none] M = some (.nx [some (.d (encP f)), some (.d (encP g)), some (.d (encP [])), none] M) := by
    rw [evalS, e_tup es_nil rfl (Nat.zero_le _)]
    rfl
  exact ⟨t, ret_d h rfl (x_cons s1 (x_cons (x_for (x_rev rfl) e) (x_stop (x_ret (by rw [evalE]; rfl))))), h1, h5, h3, h4⟩
end
end EV

/-! EvZ5: moved, _law_moved, less, power. -/
namespace EV
open PySem
def pMoved (y e1 : Nat) : Fn := ⟨2, 2,
  (.cons (.ret (.ife (.op2 false .ne (.var 1) (.lit (.int 0))) (.call y (.cons (.var 0) (.cons (.tup (.cons (.tup (.cons (.var 1) (.cons (.lit (.int 1)) .nil))) (.cons (.glb e1) .nil))) .nil))) (.var 0)))
  .nil)⟩
def lMoved (y : Nat) : Fn := ⟨2, 2,
  (.cons (.ret (.call y (.cons (.var 0) (.cons (.ife (.op2 false .ne (.var 1) (.lit (.int 0))) (.tup (.cons (.tup (.cons (.var 1) (.cons (.lit (.int 1)) .nil))) (.cons (.tup (.cons (.lit (.int 1)) (.cons (.lit (.int 1)) .nil))) .nil))) (.tup (.cons (.tup (.cons (.lit (.int 0)) (.cons (.lit (.int 1)) .nil))) (.cons (.tup (.cons (.lit (.int 1)) (.cons (.lit (.int 1)) .nil))) .nil)))) .nil))))
  .nil)⟩
theorem enc_int (n : Int) : enc (n : Rat) = pr n 1 := by
  unfold enc
  rfl
theorem qb_int {B v : Nat} {n : Int} (h : sm v n) : Qb B v 0 (n : Rat) := ⟨by show n.natAbs < 2 ^ v * 1; rw [Nat.mul_one]; exact h, by show 1 ∣ _; exact Nat.one_dvd _⟩
theorem ev_lin (n x : Rat) : ev [n, 1] x = n + x := by
  show n + x * (1 + x * 0) = n + x
  grind
section
variable {G : List PyData} {wf : Nat} {M : Mem} {fs : List Fn} {i k y e1 : Nat} {f : List Rat} {n : Int}
theorem moved_eq {t : List Rat} (h : fs[i]? = some (pMoved y e1)) (h1 : G[e1]? = some (pr 1 1)) (hput : n ≠ 0 → callF fs G wf k y [.d (encP f), .d (encP [(n : Rat), 1])] M = some (.d (encP t), M)) (h0 : n = 0 → t = f) :
    callF fs G wf (k + 1) i [.d (encP f), .d (.int n)] M = some (.d (encP t), M) := by
  have hsz := sizeLine_eq
  have ht : testOf (evalE (callF fs G wf k) G wf (.op2 false .ne (.var 1) (.lit (.int 0))) [some (.d (encP f)), some (.d (.int n))] M) = some (!decide (n = 0), M) := by
    simp [evalE, evalEs, evalB, evalIt, evalS, evalSs, evalTg, allB, allI, deref_d, deref_m, derefR_d, derefR_m, derefR_r, db_len, db_abs, db_int, db_all, db_any, db_sum, db_tuple, db_list, db_max, db_min, db_gcd, db_isi, derefs_nil, derefs_cons, plain_nil, plain_d, give_f, give_t, p_add, p_addT, p_addL, p_sub, p_mul, p_fdiv, p_mod, p_pow, p_lt, p_le, p_gt, p_ge, p_ixL, p_ixT, at_0, at_1, at_2, at_n, p_eqI, p_neI, s_nn, s_bb, s_in, s_bn, s_tn, s_ln, s_sn, s_nb, s_ib, s_tb, s_lb, s_sb, p_is, p_isn, q_lenL, q_lenT, q_abs, q_int, q_intb, q_all, q_any, q_sum, q_tupL, q_tupT, q_lstL, q_lstT, q_max, q_min, q_gcd, q_isi, t_tt, t_tl, t_ti, t_tb, t_tn, t_ts, t_it, t_il, t_ii, t_ib, t_in, t_is, t_bt, t_bl, t_bi, t_bb, t_bn, t_bs, t_st, t_sl, t_si, t_sb, t_sn, t_ss, r_none, r_bool, r_int, r_list, r_tup, f_d, st_m, pl_n, pl_0, pl_1, m_app, m_pop, tof_s, bt_v, sw_c, sw_n, ag_a]
  have go : evalE (callF fs G wf k) G wf (.ife (.op2 false .ne (.var 1) (.lit (.int 0))) (.call y (.cons (.var 0) (.cons (.tup (.cons (.tup (.cons (.var 1) (.cons (.lit (.int 1)) .nil))) (.cons (.glb e1) .nil))) .nil))) (.var 0)) [some (.d (encP f)), some (.d (.int n))] M = some (.d (encP t), M) := by
    rw [evalE, ht]
    by_cases hn : n = 0
    · rw [decide_eq_true hn, h0 hn]
      show evalE _ _ _ (.var 0) _ _ = _
      rw [evalE]
      rfl
    · rw [decide_eq_false hn]
      have e2 : evalE (callF fs G wf k) G wf (.tup (.cons (.tup (.cons (.var 1) (.cons (.lit (.int 1)) .nil))) (.cons (.glb e1) .nil))) [some (.d (encP f)), some (.d (.int n))] M = some (.d (encP [(n : Rat), 1]), M) := by
        have e3 : evalE (callF fs G wf k) G wf (.tup (.cons (.var 1) (.cons (.lit (.int 1)) .nil))) [some (.d (encP f)), some (.d (.int n))] M = some (.d (pr n 1), M) :=
          e_tup (es_cons (w := .d (.int n)) (M1 := M) (by rw [evalE]; rfl) (es_cons (w := .d (.int 1)) (M1 := M) (by rw [evalE]) es_nil)) rfl (by rw [hsz]; show 2 ≤ _; decide)
        have e4 : evalE (callF fs G wf k) G wf (.glb e1) [some (.d (encP f)), some (.d (.int n))] M = some (.d (pr 1 1), M) := by rw [evalE, h1]
        have e5 := e_tup (es_cons e3 (es_cons e4 es_nil)) rfl (by rw [hsz]; show 2 ≤ _; decide)
        rw [e5]
        rfl
      exact x_callE (es_cons (w := .d (encP f)) (M1 := M) (by rw [evalE]; rfl) (es_cons e2 es_nil)) (hput hn)
  exact ret_d h rfl (x_stop (x_ret go))
theorem lmoved_eq {t : List Rat} (h : fs[i]? = some (lMoved y)) (hput : callF fs G wf k y [.d (encP f), .d (encP [(n : Rat), 1])] M = some (.d (encP t), M)) :
    callF fs G wf (k + 1) i [.d (encP f), .d (.int n)] M = some (.d (encP t), M) := by
  have hsz := sizeLine_eq
  have ht : testOf (evalE (callF fs G wf k) G wf (.op2 false .ne (.var 1) (.lit (.int 0))) [some (.d (encP f)), some (.d (.int n))] M) = some (!decide (n = 0), M) := by
    simp [evalE, evalEs, evalB, evalIt, evalS, evalSs, evalTg, allB, allI, deref_d, deref_m, derefR_d, derefR_m, derefR_r, db_len, db_abs, db_int, db_all, db_any, db_sum, db_tuple, db_list, db_max, db_min, db_gcd, db_isi, derefs_nil, derefs_cons, plain_nil, plain_d, give_f, give_t, p_add, p_addT, p_addL, p_sub, p_mul, p_fdiv, p_mod, p_pow, p_lt, p_le, p_gt, p_ge, p_ixL, p_ixT, at_0, at_1, at_2, at_n, p_eqI, p_neI, s_nn, s_bb, s_in, s_bn, s_tn, s_ln, s_sn, s_nb, s_ib, s_tb, s_lb, s_sb, p_is, p_isn, q_lenL, q_lenT, q_abs, q_int, q_intb, q_all, q_any, q_sum, q_tupL, q_tupT, q_lstL, q_lstT, q_max, q_min, q_gcd, q_isi, t_tt, t_tl, t_ti, t_tb, t_tn, t_ts, t_it, t_il, t_ii, t_ib, t_in, t_is, t_bt, t_bl, t_bi, t_bb, t_bn, t_bs, t_st, t_sl, t_si, t_sb, t_sn, t_ss, r_none, r_bool, r_int, r_list, r_tup, f_d, st_m, pl_n, pl_0, pl_1, m_app, m_pop, tof_s, bt_v, sw_c, sw_n, ag_a]
  have tp : ∀ (e : E) (u : Int), evalE (callF fs G wf k) G wf e [some (.d (encP f)), some (.d (.int n))] M = some (.d (.int u), M) → evalE (callF fs G wf k) G wf (.tup (.cons (.tup (.cons e (.cons (.lit (.int 1)) .nil))) (.cons (.tup (.cons (.lit (.int 1)) (.cons (.lit (.int 1)) .nil))) .nil))) [some (.d (encP f)), some (.d (.int n))] M = some (.d (encP [(u : Rat), 1]), M) := fun e u hu => by
    have e3 : evalE (callF fs G wf k) G wf (.tup (.cons e (.cons (.lit (.int 1)) .nil))) [some (.d (encP f)), some (.d (.int n))] M = some (.d (pr u 1), M) :=
      e_tup (es_cons hu (es_cons (w := .d (.int 1)) (M1 := M) (by rw [evalE]) es_nil)) rfl (by rw [hsz]; show 2 ≤ _; decide)
    have e4 : evalE (callF fs G wf k) G wf (.tup (.cons (.lit (.int 1)) (.cons (.lit (.int 1)) .nil))) [some (.d (encP f)), some (.d (.int n))] M = some (.d (pr 1 1), M) :=
      e_tup (es_cons (w := .d (.int 1)) (M1 := M) (by rw [evalE]) (es_cons (w := .d (.int 1)) (M1 := M) (by rw [evalE]) es_nil)) rfl (by rw [hsz]; show 2 ≤ _; decide)
    have e5 := e_tup (es_cons e3 (es_cons e4 es_nil)) rfl (by rw [hsz]; show 2 ≤ _; decide)
    rw [e5]
    rfl
  have e2 : evalE (callF fs G wf k) G wf (.ife (.op2 false .ne (.var 1) (.lit (.int 0))) (.tup (.cons (.tup (.cons (.var 1) (.cons (.lit (.int 1)) .nil))) (.cons (.tup (.cons (.lit (.int 1)) (.cons (.lit (.int 1)) .nil))) .nil))) (.tup (.cons (.tup (.cons (.lit (.int 0)) (.cons (.lit (.int 1)) .nil))) (.cons (.tup (.cons (.lit (.int 1)) (.cons (.lit (.int 1)) .nil))) .nil)))) [some (.d (encP f)), some (.d (.int n))] M = some (.d (encP [(n : Rat), 1]), M) := by
    rw [evalE, ht]
    by_cases hn : n = 0
    · rw [decide_eq_true hn, hn]
      subst hn
      exact tp (.lit (.int 0)) 0 (by rw [evalE])
    · rw [decide_eq_false hn]
      exact tp (.var 1) n (by rw [evalE]; rfl)
  exact ret_d h rfl (x_stop (x_ret (x_callE (es_cons (w := .d (encP f)) (M1 := M) (by rw [evalE]; rfl) (es_cons e2 es_nil)) hput)))
end
end EV

/-! EvZ6: is_ratio of any thing, is_poly. -/
namespace EV
open PySem
/-- is_ratio of any thing -/
def isr : PyData → Bool
  | .tuple [x, y] => isR x y
  | _ => false
def nd2 : PyData → Bool
  | .tuple [x, y] => noD x && noD y
  | .dict _ => false
  | _ => true
def pIsPoly (j z : Nat) : Fn := ⟨1, 2,
  (.cons (.ife (.or (.cons (.not (.blt false (.isi .tuple) (.cons (.var 0) .nil))) (.cons (.not (.blt false .all (.cons (.comp false [1] (.v 1) (.seq (.var 0)) (.lit (.bool true)) (.call j (.cons (.var 1) .nil))) .nil))) .nil)))
   (.cons (.ret (.lit (.bool false)))
   .nil)
   .nil)
  (.cons (.ret (.or (.cons (.op2 false .eq (.blt false .len (.cons (.var 0) .nil)) (.lit (.int 0))) (.cons (.op2 false .ne (.op2 false .ix (.var 0) (.neg (.lit (.int 1)))) (.glb z)) .nil))))
  .nil))⟩
/-- is_poly of a tuple of things -/
def isp (xs : List PyData) : Bool := xs.all isr && (xs.isEmpty || (match xs.getLast? with
  | some (.tuple [.int a, .int b]) => !decide (a = 0 ∧ b = 1)
  | _ => false))
section
variable {G : List PyData} {wf : Nat} {M : Mem} {fs : List Fn} {i j u k z : Nat}
theorem isr_eq (h : fs[j]? = some (pIsRatio u)) (hu : fs[u]? = some pIsInt) (x : PyData) (hx : nd2 x = true) : callF fs G wf (k + 2) j [.d x] M = some (.d (.bool (isr x)), M) := by
  by_cases h0 : ∃ a b, x = .tuple [a, b]
  · obtain ⟨a, b, rfl⟩ := h0
    rw [nd2, Bool.and_eq_true] at hx
    exact isr_pair h hu a b hx.1 hx.2
  · have e : isr x = false := by
      unfold isr
      split
      · exact absurd ⟨_, _, rfl⟩ h0
      · rfl
    rw [e]
    refine isr_not h x ?_ fun xs hxs hl => ?_
    · unfold nd2 at hx
      split at hx
      · rfl
      · cases hx
      · cases x <;> first | rfl | (exfalso; rename_i h3; exact h3 _ rfl)
    · subst hxs
      match xs, hl with
      | [a, b], _ => exact h0 ⟨a, b, rfl⟩
theorem allB_map (p : PyData → Bool) : ∀ xs : List PyData, allB (xs.map fun x => .bool (p x)) = some (xs.map p)
  | [] => rfl
  | x :: xs => by
    show (allB (xs.map fun x => .bool (p x))).map (p x :: ·) = _
    rw [allB_map p xs]; rfl
theorem all_comp {xs : List PyData} (h : fs[j]? = some (pIsRatio u)) (hu : fs[u]? = some pIsInt) (hx : ∀ x ∈ xs, nd2 x = true) (hl : xs.length ≤ 1000000) :
    evalE (callF fs G wf (k + 2)) G wf (.blt false .all (.cons (.comp false [1] (.v 1) (.seq (.var 0)) (.lit (.bool true)) (.call j (.cons (.var 1) .nil))) .nil)) [some (.d (.tuple xs)), none] M = some (.d (.bool (xs.all isr)), M) := by
  have hsz := sizeLine_eq
  have hit : evalIt (callF fs G wf (k + 2)) G wf (.seq (.var 0)) [some (.d (.tuple xs)), none] M = some (.its xs, M) := by
    simp only [evalIt, evalE, List.getElem?_cons_zero, items]
  have hc : evalE (callF fs G wf (k + 2)) G wf (.comp false [1] (.v 1) (.seq (.var 0)) (.lit (.bool true)) (.call j (.cons (.var 1) .nil))) [some (.d (.tuple xs)), none] M = some (.d (.list (xs.map fun x => .bool (isr x))), M) := by
    refine x_comp hit (compL_map xs (xs.map fun x => .bool (isr x)) [] (by simp) (by rw [hsz]; simp; omega) fun n x y hn hy acc ha => ?_) rfl
    rw [List.getElem?_map, hn] at hy
    have hy : PyData.bool (isr x) = y := Option.some.inj hy
    subst hy
    refine tc_go (ρ2 := [some (.d (.tuple xs)), some (.d x)]) rfl t_lit ?_ ha
    exact x_callE (ws := [.d x]) (M1 := M) (by simp only [evalE, evalEs, evalB, evalIt, evalS, evalSs, evalTg, allB, allI, deref_d, deref_m, derefR_d, derefR_m, derefR_r, db_len, db_abs, db_int, db_all, db_any, db_sum, db_tuple, db_list, db_max, db_min, db_gcd, db_isi, derefs_nil, derefs_cons, plain_nil, plain_d, give_f, give_t, p_add, p_addT, p_addL, p_sub, p_mul, p_fdiv, p_mod, p_pow, p_lt, p_le, p_gt, p_ge, p_ixL, p_ixT, at_0, at_1, at_2, at_n, p_eqI, p_neI, s_nn, s_bb, s_in, s_bn, s_tn, s_ln, s_sn, s_nb, s_ib, s_tb, s_lb, s_sb, p_is, p_isn, q_lenL, q_lenT, q_abs, q_int, q_intb, q_all, q_any, q_sum, q_tupL, q_tupT, q_lstL, q_lstT, q_max, q_min, q_gcd, q_isi, t_tt, t_tl, t_ti, t_tb, t_tn, t_ts, t_it, t_il, t_ii, t_ib, t_in, t_is, t_bt, t_bl, t_bi, t_bb, t_bn, t_bs, t_st, t_sl, t_si, t_sb, t_sn, t_ss, r_none, r_bool, r_int, r_list, r_tup, f_d, st_m, pl_n, pl_0, pl_1, m_app, m_pop, tof_s, bt_v, sw_c, sw_n, ag_a, List.getElem?_cons_zero, List.getElem?_cons_succ]) (isr_eq h hu x (hx x (List.mem_of_getElem? hn)))
  rw [evalE, es_cons hc es_nil]
  simp only [db_all, derefs_cons, derefs_nil, deref_d, q_all, allB_map, Option.map_some, give_f, List.all_map]
  rfl
theorem at_last {xs : List PyData} : at_ xs (-1) = xs.getLast? := by
  unfold at_
  rw [if_neg (by decide), List.getLast?_eq_getElem?]
  by_cases h : 0 < xs.length
  · rw [if_pos (by omega)]
    congr 1
    omega
  · rw [if_neg (by omega)]
    have : xs.length = 0 := by omega
    rw [List.getElem?_eq_none (by omega)]
theorem isp_eq {xs : List PyData} (h : fs[i]? = some (pIsPoly j z)) (hj : fs[j]? = some (pIsRatio u)) (hu : fs[u]? = some pIsInt) (hz : G[z]? = some (pr 0 1)) (hx : ∀ x ∈ xs, nd2 x = true) (hl : xs.length ≤ 1000000) :
    callF fs G wf (k + 3) i [.d (.tuple xs)] M = some (.d (.bool (isp xs)), M) := by
  have ha := all_comp (G := G) (wf := wf) (M := M) (k := k) hj hu hx hl
  have a1 : evalE (callF fs G wf (k + 2)) G wf (.not (.blt false (.isi .tuple) (.cons (.var 0) .nil))) [some (.d (.tuple xs)), none] M = some (.d (.bool false), M) := by simp [evalE, evalEs, evalB, evalIt, evalS, evalSs, evalTg, allB, allI, deref_d, deref_m, derefR_d, derefR_m, derefR_r, db_len, db_abs, db_int, db_all, db_any, db_sum, db_tuple, db_list, db_max, db_min, db_gcd, db_isi, derefs_nil, derefs_cons, plain_nil, plain_d, give_f, give_t, p_add, p_addT, p_addL, p_sub, p_mul, p_fdiv, p_mod, p_pow, p_lt, p_le, p_gt, p_ge, p_ixL, p_ixT, at_0, at_1, at_2, at_n, p_eqI, p_neI, s_nn, s_bb, s_in, s_bn, s_tn, s_ln, s_sn, s_nb, s_ib, s_tb, s_lb, s_sb, p_is, p_isn, q_lenL, q_lenT, q_abs, q_int, q_intb, q_all, q_any, q_sum, q_tupL, q_tupT, q_lstL, q_lstT, q_max, q_min, q_gcd, q_isi, t_tt, t_tl, t_ti, t_tb, t_tn, t_ts, t_it, t_il, t_ii, t_ib, t_in, t_is, t_bt, t_bl, t_bi, t_bb, t_bn, t_bs, t_st, t_sl, t_si, t_sb, t_sn, t_ss, r_none, r_bool, r_int, r_list, r_tup, f_d, st_m, pl_n, pl_0, pl_1, m_app, m_pop, tof_s, bt_v, sw_c, sw_n, ag_a]
  have ht := t_bool (e_or (b_go a1 (b_one (e_not ha))))
  cases hall : xs.all isr with
  | false =>
    rw [hall] at ht
    have e : isp xs = false := by unfold isp; rw [hall]; rfl
    rw [e]
    exact ret_d h rfl (x_stop (x_ifT ht (x_stop (x_ret (by rw [evalE])))))
  | true =>
    rw [hall] at ht
    have go : evalE (callF fs G wf (k + 2)) G wf (.or (.cons (.op2 false .eq (.blt false .len (.cons (.var 0) .nil)) (.lit (.int 0))) (.cons (.op2 false .ne (.op2 false .ix (.var 0) (.neg (.lit (.int 1)))) (.glb z)) .nil))) [some (.d (.tuple xs)), none] M = some (.d (.bool (isp xs)), M) := by
      refine e_or ?_
      cases hl0 : xs.getLast? with
      | none =>
        have hn := List.getLast?_eq_none_iff.mp hl0
        subst hn
        exact b_stop (c := true) (by simp [evalE, evalEs, evalB, evalIt, evalS, evalSs, evalTg, allB, allI, deref_d, deref_m, derefR_d, derefR_m, derefR_r, db_len, db_abs, db_int, db_all, db_any, db_sum, db_tuple, db_list, db_max, db_min, db_gcd, db_isi, derefs_nil, derefs_cons, plain_nil, plain_d, give_f, give_t, p_add, p_addT, p_addL, p_sub, p_mul, p_fdiv, p_mod, p_pow, p_lt, p_le, p_gt, p_ge, p_ixL, p_ixT, at_0, at_1, at_2, at_n, p_eqI, p_neI, s_nn, s_bb, s_in, s_bn, s_tn, s_ln, s_sn, s_nb, s_ib, s_tb, s_lb, s_sb, p_is, p_isn, q_lenL, q_lenT, q_abs, q_int, q_intb, q_all, q_any, q_sum, q_tupL, q_tupT, q_lstL, q_lstT, q_max, q_min, q_gcd, q_isi, t_tt, t_tl, t_ti, t_tb, t_tn, t_ts, t_it, t_il, t_ii, t_ib, t_in, t_is, t_bt, t_bl, t_bi, t_bb, t_bn, t_bs, t_st, t_sl, t_si, t_sb, t_sn, t_ss, r_none, r_bool, r_int, r_list, r_tup, f_d, st_m, pl_n, pl_0, pl_1, m_app, m_pop, tof_s, bt_v, sw_c, sw_n, ag_a]) (by decide)
      | some y =>
        have hm := List.mem_of_getLast? hl0
        have hy : isr y = true := List.all_eq_true.mp hall y hm
        obtain ⟨a, b, rfl⟩ : ∃ a b, y = .tuple [.int a, .int b] := by
          unfold isr at hy
          split at hy
          · rename_i p q
            cases p <;> cases q <;> first | exact ⟨_, _, rfl⟩ | cases hy
          · cases hy
        have hne : xs.isEmpty = false := by
          cases xs with
          | nil => cases hl0
          | cons _ _ => rfl
        have hlen : ¬ ((xs.length : Nat) : Int) = 0 := by
          cases xs with
          | nil => cases hl0
          | cons _ _ => simp; omega
        have e : isp xs = !decide (a = 0 ∧ b = 1) := by
          unfold isp
          rw [hall, hne, hl0]; rfl
        rw [e]
        refine b_go (M1 := M) ?_ (b_one ?_)
        · simp only [evalE, evalEs, evalB, evalIt, evalS, evalSs, evalTg, allB, allI, deref_d, deref_m, derefR_d, derefR_m, derefR_r, db_len, db_abs, db_int, db_all, db_any, db_sum, db_tuple, db_list, db_max, db_min, db_gcd, db_isi, derefs_nil, derefs_cons, plain_nil, plain_d, give_f, give_t, p_add, p_addT, p_addL, p_sub, p_mul, p_fdiv, p_mod, p_pow, p_lt, p_le, p_gt, p_ge, p_ixL, p_ixT, at_0, at_1, at_2, at_n, p_eqI, p_neI, s_nn, s_bb, s_in, s_bn, s_tn, s_ln, s_sn, s_nb, s_ib, s_tb, s_lb, s_sb, p_is, p_isn, q_lenL, q_lenT, q_abs, q_int, q_intb, q_all, q_any, q_sum, q_tupL, q_tupT, q_lstL, q_lstT, q_max, q_min, q_gcd, q_isi, t_tt, t_tl, t_ti, t_tb, t_tn, t_ts, t_it, t_il, t_ii, t_ib, t_in, t_is, t_bt, t_bl, t_bi, t_bb, t_bn, t_bs, t_st, t_sl, t_si, t_sb, t_sn, t_ss, r_none, r_bool, r_int, r_list, r_tup, f_d, st_m, pl_n, pl_0, pl_1, m_app, m_pop, tof_s, bt_v, sw_c, sw_n, ag_a, List.getElem?_cons_zero, Option.map_some, if_neg (show ¬ (P2.eq = P2.ix) by decide), decide_eq_false hlen]
        · have e1 : evalE (callF fs G wf (k + 2)) G wf (.op2 false .ix (.var 0) (.neg (.lit (.int 1)))) [some (.d (.tuple xs)), none] M = some (.d (pr a b), M) := by
            have n1 : evalE (callF fs G wf (k + 2)) G wf (.neg (.lit (.int 1))) [some (.d (.tuple xs)), none] M = some (.d (.int (-1)), M) := by simp [evalE, evalEs, evalB, evalIt, evalS, evalSs, evalTg, allB, allI, deref_d, deref_m, derefR_d, derefR_m, derefR_r, db_len, db_abs, db_int, db_all, db_any, db_sum, db_tuple, db_list, db_max, db_min, db_gcd, db_isi, derefs_nil, derefs_cons, plain_nil, plain_d, give_f, give_t, p_add, p_addT, p_addL, p_sub, p_mul, p_fdiv, p_mod, p_pow, p_lt, p_le, p_gt, p_ge, p_ixL, p_ixT, at_0, at_1, at_2, at_n, p_eqI, p_neI, s_nn, s_bb, s_in, s_bn, s_tn, s_ln, s_sn, s_nb, s_ib, s_tb, s_lb, s_sb, p_is, p_isn, q_lenL, q_lenT, q_abs, q_int, q_intb, q_all, q_any, q_sum, q_tupL, q_tupT, q_lstL, q_lstT, q_max, q_min, q_gcd, q_isi, t_tt, t_tl, t_ti, t_tb, t_tn, t_ts, t_it, t_il, t_ii, t_ib, t_in, t_is, t_bt, t_bl, t_bi, t_bb, t_bn, t_bs, t_st, t_sl, t_si, t_sb, t_sn, t_ss, r_none, r_bool, r_int, r_list, r_tup, f_d, st_m, pl_n, pl_0, pl_1, m_app, m_pop, tof_s, bt_v, sw_c, sw_n, ag_a]
            have n0 : evalE (callF fs G wf (k + 2)) G wf (.var 0) [some (.d (.tuple xs)), none] M = some (.d (.tuple xs), M) := by rw [evalE]; rfl
            rw [evalE, n0]
            dsimp only
            rw [n1]
            simp only [if_true, derefR_d, deref_d, p_ixT, at_last, hl0, give_f]
          have e2 : evalE (callF fs G wf (k + 2)) G wf (.glb z) [some (.d (.tuple xs)), none] M = some (.d (pr 0 1), M) := by rw [evalE, hz]
          have e3 : prim2 .ne (pr a b) (pr 0 1) = some (.bool (!decide (a = 0 ∧ b = 1))) := by
            have h1 : (peq (pr a b) (pr 0 1)).map PyData.bool = some (.bool (decide (a = 0 ∧ b = 1))) := eq_pr a b 0 1
            show (peq (pr a b) (pr 0 1)).map (fun b => PyData.bool !b) = _
            cases e : peq (pr a b) (pr 0 1) with
            | none => rw [e] at h1; cases h1
            | some c =>
              rw [e] at h1
              have : PyData.bool c = .bool (decide (a = 0 ∧ b = 1)) := Option.some.inj h1
              cases this
              rfl
          rw [evalE, e1]
          dsimp only
          rw [e2]
          simp only [if_neg (show ¬ (P2.ne = P2.ix) by decide), deref_d, e3, give_f]
    exact ret_d h rfl (x_cons (x_ifF ht) (x_stop (x_ret go)))
theorem isp_not {x : PyData} (h : fs[i]? = some (pIsPoly j z)) (hd : noD x = true) (hx : ∀ xs, x ≠ .tuple xs) : callF fs G wf (k + 1) i [.d x] M = some (.d (.bool false), M) := by
  have a1 : evalE (callF fs G wf k) G wf (.not (.blt false (.isi .tuple) (.cons (.var 0) .nil))) [some (.d x), none] M = some (.d (.bool true), M) := by
    cases x <;> first | (simp [evalE, evalEs, evalB, evalIt, evalS, evalSs, evalTg, allB, allI, deref_d, deref_m, derefR_d, derefR_m, derefR_r, db_len, db_abs, db_int, db_all, db_any, db_sum, db_tuple, db_list, db_max, db_min, db_gcd, db_isi, derefs_nil, derefs_cons, plain_nil, plain_d, give_f, give_t, p_add, p_addT, p_addL, p_sub, p_mul, p_fdiv, p_mod, p_pow, p_lt, p_le, p_gt, p_ge, p_ixL, p_ixT, at_0, at_1, at_2, at_n, p_eqI, p_neI, s_nn, s_bb, s_in, s_bn, s_tn, s_ln, s_sn, s_nb, s_ib, s_tb, s_lb, s_sb, p_is, p_isn, q_lenL, q_lenT, q_abs, q_int, q_intb, q_all, q_any, q_sum, q_tupL, q_tupT, q_lstL, q_lstT, q_max, q_min, q_gcd, q_isi, t_tt, t_tl, t_ti, t_tb, t_tn, t_ts, t_it, t_il, t_ii, t_ib, t_in, t_is, t_bt, t_bl, t_bi, t_bb, t_bn, t_bs, t_st, t_sl, t_si, t_sb, t_sn, t_ss, r_none, r_bool, r_int, r_list, r_tup, f_d, st_m, pl_n, pl_0, pl_1, m_app, m_pop, tof_s, bt_v, sw_c, sw_n, ag_a]; done) | exact absurd rfl (hx _) | (cases hd; done)
  exact ret_d h rfl (x_stop (x_ifT (t_bool (e_or (b_stop a1 (by decide)))) (x_stop (x_ret (by rw [evalE])))))
end
end EV

/-! EvZ7: power. -/
namespace EV
open PySem
def powB (u : Nat) : Ss := .cons (.asg 2 (.call u (.cons (.var 2) (.cons (.var 0) .nil)))) .nil
def pPow (e1 u : Nat) : Fn := ⟨2, 4,
  (.cons (.asg 2 (.tup (.cons (.glb e1) .nil)))
  (.cons (.fr (.v 3) (.rng (.cons (.var 1) .nil)) (powB u))
  (.cons (.ret (.var 2))
  .nil)))⟩
theorem qb_one {B v : Nat} : Qb B (v + 1) 0 1 := ⟨by show 1 < 2 ^ (v + 1) * 1; rw [Nat.mul_one, Nat.pow_succ]; have : 0 < 2 ^ v := Nat.pow_pos (by decide); omega, by show 1 ∣ _; exact Nat.one_dvd _⟩
section
variable {G : List PyData} {wf : Nat} {M : Mem} {fs : List Fn} {z p o c u r k N B w l i S n e1 : Nat} {g : List Rat}
theorem power_eq (h : fs[i]? = some (pPow e1 u)) (hu : fs[u]? = some (pMul z p o c)) (hc : fs[c]? = some (pCut z)) (hp : fs[p]? = some (pPlus r)) (ho : fs[o]? = some (pProd r)) (hz : G[z]? = some (pr 0 1)) (h1 : G[e1]? = some (pr 1 1)) (hr : Makes fs G wf k r N) (hB : 0 < B) (h2 : B ≤ 256)
    (hg : Qbs B w l g) (hS : w + (1 + n * g.length) * g.length ≤ S) (hN : 16 * (n * l + l) + 2 ≤ N) (hv : 2 * (1 + (n + 1) * S + g.length) + 16 * (n * l + l) + 2 < 100000000) (hn : n ≤ 100) (hlg : g.length ≤ 100) (hw : 1000000 ≤ wf) :
    ∃ t : List Rat, callF fs G wf (k + 3) i [.d (encP g), .d (.int (n : Nat))] M = some (.d (encP t), M) ∧ Tr t ∧ (∀ x, ev t x = pw (ev g x) n) ∧ Qbs B (1 + n * S) (n * l) t ∧ t.length ≤ 1 + n * g.length := by
  have hsz := sizeLine_eq
  obtain ⟨ρ', M', e, t, y3, rfl, hMM, a1, a3, a4, a5⟩ := forL_for (f := turnG (callF fs G wf (k + 2)) G wf (.v 3) (powB u)) (xs := irng 0 1 n) (fun j ρ M' => ∃ (t : List Rat) (y3 : Option W), ρ = [some (.d (encP g)), some (.d (.int (n : Nat))), some (.d (encP t)), y3] ∧ M' = M ∧ Tr t ∧ Qbs B (1 + j * S) (j * l) t ∧ t.length ≤ 1 + j * g.length ∧ ∀ x, ev t x = pw (ev g x) j)
    (fun ρ M' => ∃ (t : List Rat) (y3 : Option W), ρ = [some (.d (encP g)), some (.d (.int (n : Nat))), some (.d (encP t)), y3] ∧ M' = M ∧ Tr t ∧ Qbs B (1 + n * S) (n * l) t ∧ t.length ≤ 1 + n * g.length ∧ ∀ x, ev t x = pw (ev g x) n) (fun j x ρ M' hx hI => by
      obtain ⟨rfl, hj⟩ := irng_at hx
      obtain ⟨t, y3, rfl, rfl, h1, h3, h4, h5⟩ := hI
      have b1 : j * g.length ≤ n * g.length := Nat.mul_le_mul_right _ (by omega)
      have b2 : t.length * g.length ≤ (1 + n * g.length) * g.length := Nat.mul_le_mul_right _ (by omega)
      have b3 : (j + 1) * S = j * S + S := by rw [Nat.add_mul, Nat.one_mul]
      have b4 : (j + 1) * S ≤ (n + 1) * S := Nat.mul_le_mul_right _ (by omega)
      have b5 : (j + 1) * l = j * l + l := by rw [Nat.add_mul, Nat.one_mul]
      have b6 : j * l ≤ n * l := Nat.mul_le_mul_right _ (by omega)
      have b7 : (j + 1) * g.length = j * g.length + g.length := by rw [Nat.add_mul, Nat.one_mul]
      have b8 : n * g.length ≤ 100 * 100 := Nat.mul_le_mul hn hlg
      obtain ⟨t1, q1, q2, q3, q4, q5⟩ := mul_eq (M := M') hu hc hp ho hz hr hB h2 h3 hg (by omega) (by omega) (by omega) (by omega) hw
      have eM : evalE (callF fs G wf (k + 2)) G wf (.call u (.cons (.var 2) (.cons (.var 0) .nil))) [some (.d (encP g)), some (.d (.int (n : Nat))), some (.d (encP t)), some (.d (.int (j : Nat)))] M' = some (.d (encP t1), M') :=
        x_callE (es_cons (w := .d (encP t)) (M1 := M') (by rw [evalE]; rfl) (es_cons (w := .d (encP g)) (M1 := M') (by rw [evalE]; rfl) es_nil)) q1
      refine ⟨[some (.d (encP g)), some (.d (.int (n : Nat))), some (.d (encP t1)), some (.d (.int (j : Nat)))], M', .inl ⟨?_, _, _, rfl, rfl, q2, q4.mono (by omega) (by omega), by omega, fun x => ?_⟩⟩
      · rw [x_turn]
        refine x_cons (ρ' := [some (.d (encP g)), some (.d (.int (n : Nat))), some (.d (encP t1)), some (.d (.int (j : Nat)))]) (M' := M') ?_ (by rw [evalSs])
        show evalS _ _ _ _ [some (.d (encP g)), some (.d (.int (n : Nat))), some (.d (encP t)), some (.d (.int (j : Nat)))] _ = _
        rw [evalS, eM]
        rfl
      · rw [q3, h5, pw, Rat.mul_comm]) (fun ρ M' hI => by
      rw [irng_length] at hI
      exact hI) (ρ := [some (.d (encP g)), some (.d (.int (n : Nat))), some (.d (encP [1])), none]) (M := M) ⟨[1], none, rfl, rfl, fun q hq => (by cases hq; decide), fun q hq => (by simp at hq; subst hq; rw [Nat.zero_mul, Nat.zero_mul]; exact qb_one), by simp, fun x => (by show (1 : Rat) + x * 0 = 1; grind)⟩
  rw [hMM] at e
  have s1 : evalS (callF fs G wf (k + 2)) G wf (.asg 2 (.tup (.cons (.glb e1) .nil))) [some (.d (encP g)), some (.d (.int (n : Nat))), none, none] M = some (.nx [some (.d (encP g)), some (.d (.int (n : Nat))), some (.d (encP [1])), none] M) := by
    have e4 : evalE (callF fs G wf (k + 2)) G wf (.glb e1) [some (.d (encP g)), some (.d (.int (n : Nat))), none, none] M = some (.d (pr 1 1), M) := by rw [evalE, h1]
    rw [evalS, e_tup (es_cons e4 es_nil) rfl (by rw [hsz]; show 1 ≤ _; decide)]
    rfl
  have hit : evalIt (callF fs G wf (k + 2)) G wf (.rng (.cons (.var 1) .nil)) [some (.d (encP g)), some (.d (.int (n : Nat))), some (.d (encP [1])), none] M = some (.its (irng 0 1 n), M) := by
    have h3 : plain [.d (.int (n : Int))] = some [.int (n : Int)] := by rw [plain_d, plain_nil, Option.map_some]
    exact x_rng (es_cons (w := .d (.int (n : Int))) (M1 := M) (by rw [evalE]; rfl) es_nil) h3 (rng_n (by omega))
  exact ⟨t, ret_d h rfl (x_cons s1 (x_cons (x_for hit e) (x_stop (x_ret (by rw [evalE]; rfl))))), a1, a5, a3, a4⟩
end
end EV

/-! EvZ8: comprehensions that draw. -/
namespace EV
open PySem
theorem compL_inv {f : PyData → List PyData → Mem → Option (List PyData × Mem)} (I : Nat → List PyData → Mem → Prop) : ∀ (xs : List PyData) (n : Nat) (acc : List PyData) (M : Mem), I n acc M →
    (∀ (j : Nat) x acc M, xs[j]? = some x → I (n + j) acc M → ∃ acc' M', f x acc M = some (acc', M') ∧ I (n + j + 1) acc' M') → ∃ acc' M', compL f xs acc M = some (acc', M') ∧ I (n + xs.length) acc' M'
  | [], n, acc, M, hI, _ => ⟨acc, M, rfl, hI⟩
  | x :: xs, n, acc, M, hI, h => by
    obtain ⟨acc1, M1, e1, h1⟩ := h 0 x acc M rfl hI
    obtain ⟨acc2, M2, e2, h2⟩ := compL_inv I xs (n + 1) acc1 M1 h1 (fun j y acc M hy hj => by
      have := h (j + 1) y acc M (by simpa using hy) (by rw [show n + (j + 1) = n + 1 + j by omega]; exact hj)
      rw [show n + (j + 1) + 1 = n + 1 + j + 1 by omega] at this
      exact this)
    exact ⟨acc2, M2, by rw [compL, e1]; exact e2, by rw [List.length_cons, show n + (xs.length + 1) = n + 1 + xs.length by omega]; exact h2⟩
/-- a turn that changes the memory -/
theorem tc_goM {cf : Nat → List W → Mem → Option (W × Mem)} {G : List PyData} {wf : Nat} {own : List Nat} {tg : T} {c elt : E} {ρ ρ2 : EV.Loc} {M M' : Mem} {x y : PyData} {acc : List PyData} (hb : bindT tg x (wipeL ρ own) = some ρ2) (hc : testOf (evalE cf G wf c ρ2 M) = some (true, M)) (he : evalE cf G wf elt ρ2 M = some (.d y, M')) (ha : acc.length < sizeLine) :
    tc cf G wf own tg c elt ρ x acc M = some (acc ++ [y], M') := by
  unfold tc
  rw [hb]
  dsimp only
  rw [hc]
  dsimp only
  rw [he]
  dsimp only
  rw [if_pos ha]
/-- a row of draws: 1 + draw of them, each told by the element -/
theorem qbs_of {B v m : Nat} {f : List Rat} (h : ∀ q ∈ f, Qb B v m q) : Qbs B v m f := h
end EV

/-! EvZ9: drawn polynomials (k02). -/
namespace EV
open PySem
section
variable {fs : List Fn} {G : List PyData} {wf : Nat} {M : Mem} {b : Nat} {ds : List Int}
theorem drawX {d i k t : Nat} {ρ : EV.Loc} {e : E} {m : Int} (hd : fs[d]? = some lDraw) (hρ : ρ[i]? = some (some (.m b))) (hb : b < M.length) (hm : 0 < m) (he : evalE (callF fs G wf (k + 1)) G wf e ρ (M.set b (bx ds t)) = some (.d (.int m), M.set b (bx ds t))) : ∃ r : Int, 0 ≤ r ∧ r < m ∧
    evalE (callF fs G wf (k + 1)) G wf (.call d (.cons (.var i) (.cons e .nil))) ρ (M.set b (bx ds t)) = some (.d (.int r), M.set b (bx ds (t + 1))) := by
  have h0 : BoxAt (M.set b (bx ds t)) b ds t := List.getElem?_set_self hb
  obtain ⟨r, h1, h2, h3⟩ := draw_eq (G := G) (wf := wf) (k := k) hd h0 hm
  refine ⟨r, h1, h2, ?_⟩
  rw [List.set_set] at h3
  have hv : evalE (callF fs G wf (k + 1)) G wf (.var i) ρ (M.set b (bx ds t)) = some (.m b, M.set b (bx ds t)) := by rw [evalE, hρ]
  exact x_callE (es_cons hv (es_cons he es_nil)) h3
theorem qb_drawn {n d : Int} (hn : n.natAbs ≤ 4) (h1 : 1 ≤ d) (h2 : d ≤ 3) : Qb 6 3 1 (Rat.divInt n d) := by
  have e := rat_enc (a := n) (b := d) (by omega)
  obtain ⟨_, _, f3, _, _⟩ := rat_facts (a := n) (b := d) (by omega)
  have hnum : (Rat.divInt n d).num = rn n d := by
    unfold enc at e
    simp only [PyData.tuple.injEq, List.cons.injEq, PyData.int.injEq, and_true] at e
    exact e.1.symm
  obtain ⟨D, rfl⟩ : ∃ D : Nat, d = (D : Int) := ⟨d.toNat, by omega⟩
  have hdv := den_divInt_dvd (x := n) (L := D) (by omega)
  constructor
  · rw [hnum]
    have := (Rat.divInt n D).den_nz
    have h8 : (2 : Nat) ^ 3 = 8 := by decide
    rw [h8]
    omega
  · refine Nat.dvd_trans hdv ?_
    rw [Nat.pow_one]
    have : D = 1 ∨ D = 2 ∨ D = 3 := by omega
    rcases this with rfl | rfl | rfl <;> decide
end
end EV

/-! EvZ10: _law_drawn of k02. -/
namespace EV
open PySem
def ldE (d rr : Nat) : E := .call rr (.cons (.op2 false .sub (.call d (.cons (.var 0) (.cons (.lit (.int 9)) .nil))) (.lit (.int 4))) (.cons (.op2 false .add (.lit (.int 1)) (.call d (.cons (.var 0) (.cons (.lit (.int 3)) .nil)))) .nil))
def ldI (d : Nat) : It := .rng (.cons (.op2 false .add (.lit (.int 1)) (.call d (.cons (.var 0) (.cons (.op2 false .add (.var 1) (.lit (.int 1))) .nil)))) .nil)
def lDrawn (d rr t : Nat) : Fn := ⟨2, 3,
  (.cons (.ife (.op2 false .eq (.call d (.cons (.var 0) (.cons (.lit (.int 8)) .nil))) (.lit (.int 0)))
   (.cons (.ret (.tup .nil))
   .nil)
   .nil)
  (.cons (.ret (.call t (.cons (.comp false [2] (.v 2) (ldI d) (.lit (.bool true)) (ldE d rr)) .nil)))
  .nil))⟩
theorem x_opJ {cf : Nat → List W → Mem → Option (W × Mem)} {G : List PyData} {wf : Nat} {a b : E} {ρ : EV.Loc} {M M1 M2 : Mem} {x y : Int} {p : P2} {z : PyData} (ha : evalE cf G wf a ρ M = some (.d (.int x), M1)) (hb : evalE cf G wf b ρ M1 = some (.d (.int y), M2)) (hp : prim2 p (.int x) (.int y) = some z) (hn : p ≠ .ix) : evalE cf G wf (.op2 false p a b) ρ M = some (.d z, M2) := by
  rw [evalE, ha]
  dsimp only
  rw [hb]
  simp only [if_neg hn, deref_d, hp, give_f]
section
variable {fs : List Fn} {G : List PyData} {wf : Nat} {R : Mem} {ds : List Int} {d rr t' i k N : Nat}
theorem ld_elem {t : Nat} {x2 : Option W} (hd : fs[d]? = some lDraw) (hr : Makes fs G wf (k + 1) rr N) (hN : 20 ≤ N) : ∃ (q : Rat) (u : Nat), Qb 6 3 1 q ∧ evalE (callF fs G wf (k + 1)) G wf (ldE d rr) [some (.m 0), some (.d (.int 2)), x2] (bx ds t :: R) = some (.d (enc q), bx ds u :: R) := by
  obtain ⟨a, a0, a1, ha⟩ := drawX (G := G) (wf := wf) (k := k) (M := bx ds t :: R) (b := 0) (ds := ds) (t := t) (e := .lit (.int 9)) (m := 9) (ρ := [some (.m 0), some (.d (.int 2)), x2]) (i := 0) hd rfl (by simp) (by decide) (by rw [evalE])
  obtain ⟨b, b0, b1, hb⟩ := drawX (G := G) (wf := wf) (k := k) (M := bx ds t :: R) (b := 0) (ds := ds) (t := t + 1) (e := .lit (.int 3)) (m := 3) (ρ := [some (.m 0), some (.d (.int 2)), x2]) (i := 0) hd rfl (by simp) (by decide) (by rw [evalE])
  have e1 : evalE (callF fs G wf (k + 1)) G wf (.op2 false .sub (.call d (.cons (.var 0) (.cons (.lit (.int 9)) .nil))) (.lit (.int 4))) [some (.m 0), some (.d (.int 2)), x2] (bx ds t :: R) = some (.d (.int (a - 4)), bx ds (t + 1) :: R) := x_opJ ha (y := 4) (M2 := bx ds (t + 1) :: R) (by rw [evalE]; rfl) p_sub (by decide)
  have e2 : evalE (callF fs G wf (k + 1)) G wf (.op2 false .add (.lit (.int 1)) (.call d (.cons (.var 0) (.cons (.lit (.int 3)) .nil)))) [some (.m 0), some (.d (.int 2)), x2] (bx ds (t + 1) :: R) = some (.d (.int (1 + b)), bx ds (t + 1 + 1) :: R) := x_opJ (x := 1) (M1 := bx ds (t + 1) :: R) (by rw [evalE]) hb p_add (by decide)
  have hm := hr (a - 4) (1 + b) (bx ds (t + 1 + 1) :: R) (by omega) ((sm_lit 3 (by show (1 + b).natAbs < 8; omega)).mono (by omega))
  rw [rat_enc (by omega)] at hm
  exact ⟨_, t + 1 + 1, qb_drawn (n := a - 4) (d := 1 + b) (by omega) (by omega) (by omega), x_callE (es_cons e1 (es_cons e2 es_nil)) hm⟩
theorem drawn_eq {t : Nat} (h : fs[i]? = some (lDrawn d rr t')) (hd : fs[d]? = some lDraw) (ht' : fs[t']? = some lTrim) (hr : Makes fs G wf (k + 1) rr N) (hN : 20 ≤ N) (hw : 1000000 ≤ wf) :
    ∃ (f : List Rat) (u : Nat), callF fs G wf (k + 2) i [.m 0, .d (.int 2)] (bx ds t :: R) = some (.d (encP f), bx ds u :: R) ∧ Tr f ∧ Qbs 6 3 1 f ∧ f.length ≤ 3 := by
  have fin : ∀ {x : PyData} {u : Nat}, evalSs (callF fs G wf (k + 1)) G wf (lDrawn d rr t').body [some (.m 0), some (.d (.int 2)), none] (bx ds t :: R) = some (.ret (.d x) (bx ds u :: R)) → callF fs G wf (k + 2) i [.m 0, .d (.int 2)] (bx ds t :: R) = some (.d x, bx ds u :: R) := fun hb => by
    rw [x_fin h rfl (by exact hb), List.take_of_length_le (by simp)]
  obtain ⟨a, a0, a1, ha⟩ := drawX (G := G) (wf := wf) (k := k) (M := bx ds t :: R) (b := 0) (ds := ds) (t := t) (e := .lit (.int 8)) (m := 8) (ρ := [some (.m 0), some (.d (.int 2)), none]) (i := 0) hd rfl (by simp) (by decide) (by rw [evalE])
  have hc : testOf (evalE (callF fs G wf (k + 1)) G wf (.op2 false .eq (.call d (.cons (.var 0) (.cons (.lit (.int 8)) .nil))) (.lit (.int 0))) [some (.m 0), some (.d (.int 2)), none] (bx ds t :: R)) = some (decide (a = 0), bx ds (t + 1) :: R) :=
    t_bool (x_opJ ha (y := 0) (M2 := bx ds (t + 1) :: R) (by rw [evalE]; rfl) p_eqI (by decide))
  by_cases h0 : a = 0
  · rw [decide_eq_true h0] at hc
    exact ⟨[], t + 1, fin (x_stop (x_ifT hc (x_stop (x_ret (e_tup es_nil rfl (Nat.zero_le _)))))), fun q hq => (by cases hq), fun q hq => (by cases hq), Nat.zero_le _⟩
  · rw [decide_eq_false h0] at hc
    have hhigh : evalE (callF fs G wf (k + 1)) G wf (.op2 false .add (.var 1) (.lit (.int 1))) [some (.m 0), some (.d (.int 2)), none] (bx ds (t + 1) :: R) = some (.d (.int 3), bx ds (t + 1) :: R) := x_opJ (x := 2) (y := 1) (M1 := bx ds (t + 1) :: R) (by rw [evalE]; rfl) (by rw [evalE]) p_add (by decide)
    obtain ⟨n, n0, n1, hn⟩ := drawX (G := G) (wf := wf) (k := k) (M := bx ds (t + 1) :: R) (b := 0) (ds := ds) (t := t + 1) (e := .op2 false .add (.var 1) (.lit (.int 1))) (ρ := [some (.m 0), some (.d (.int 2)), none]) (i := 0) hd rfl (by simp) (by decide) hhigh
    obtain ⟨L, hL, hL3⟩ : ∃ L : Nat, 1 + n = (L : Int) ∧ L ≤ 3 := ⟨(1 + n).toNat, by omega, by omega⟩
    have hit : evalIt (callF fs G wf (k + 1)) G wf (ldI d) [some (.m 0), some (.d (.int 2)), none] (bx ds (t + 1) :: R) = some (.its (irng 0 1 L), bx ds (t + 1 + 1) :: R) := by
      have e1 : evalE (callF fs G wf (k + 1)) G wf (.op2 false .add (.lit (.int 1)) (.call d (.cons (.var 0) (.cons (.op2 false .add (.var 1) (.lit (.int 1))) .nil)))) [some (.m 0), some (.d (.int 2)), none] (bx ds (t + 1) :: R) = some (.d (.int (L : Int)), bx ds (t + 1 + 1) :: R) := by
        rw [← hL]
        exact x_opJ (x := 1) (M1 := bx ds (t + 1) :: R) (by rw [evalE]) hn p_add (by decide)
      have h3 : plain [.d (.int (L : Int))] = some [.int (L : Int)] := by rw [plain_d, plain_nil, Option.map_some]
      exact x_rng (es_cons e1 es_nil) h3 (rng_n (by omega))
    obtain ⟨acc, M', e, u, f, rfl, rfl, hq, hl⟩ := compL_inv (f := tc (callF fs G wf (k + 1)) G wf [2] (.v 2) (.lit (.bool true)) (ldE d rr) [some (.m 0), some (.d (.int 2)), none]) (fun j acc M => ∃ (u : Nat) (f : List Rat), acc = encs f ∧ M = bx ds u :: R ∧ Qbs 6 3 1 f ∧ f.length = j) (irng 0 1 L) 0 [] (bx ds (t + 1 + 1) :: R) ⟨t + 1 + 1, [], rfl, rfl, fun q hq => (by cases hq), rfl⟩ (fun j x acc M hx hI => by
      obtain ⟨rfl, hj⟩ := irng_at hx
      obtain ⟨u, f, rfl, rfl, hq, hl⟩ := hI
      obtain ⟨q, u2, g1, g2⟩ := ld_elem (ds := ds) (R := R) (t := u) (x2 := some (.d (.int (j : Nat)))) hd hr hN
      refine ⟨encs (f ++ [q]), bx ds u2 :: R, ?_, u2, f ++ [q], rfl, rfl, fun z hz => ?_, by rw [List.length_append, hl]; rfl⟩
      · have := tc_goM (own := [2]) (tg := .v 2) (ρ := [some (.m 0), some (.d (.int 2)), none]) (ρ2 := [some (.m 0), some (.d (.int 2)), some (.d (.int (j : Nat)))]) (x := .int (j : Nat)) (acc := encs f) rfl t_lit g2 (by rw [List.length_map, sizeLine_eq]; omega)
        rw [this, show encs (f ++ [q]) = encs f ++ [enc q] from List.map_append]
      · rcases List.mem_append.mp hz with hz | hz
        · exact hq z hz
        · simp at hz; subst hz; exact g1)
    rw [Nat.zero_add, irng_length] at hl
    have hcomp : evalE (callF fs G wf (k + 1)) G wf (.comp false [2] (.v 2) (ldI d) (.lit (.bool true)) (ldE d rr)) [some (.m 0), some (.d (.int 2)), none] (bx ds (t + 1) :: R) = some (.d (.list (encs f)), bx ds u :: R) := x_comp hit e rfl
    refine ⟨cutR f, u, fin (x_cons (x_ifF hc) (x_stop (x_ret (x_callE (es_cons hcomp es_nil) (trim_eq ht' rfl rfl (by omega) (by omega)))))), tr_cut f, hq.cut, Nat.le_trans (cutR_len f) (by omega)⟩
end
end EV

/-! EvZ11: less. -/
namespace EV
open PySem
def pLess (s u : Nat) : Fn := ⟨2, 2,
  (.cons (.ret (.call s (.cons (.var 0) (.cons (.call u (.cons (.tup (.cons (.neg (.lit (.int 1))) (.cons (.lit (.int 1)) .nil))) (.cons (.var 1) .nil))) .nil))))
  .nil)⟩
theorem enc_m1 : enc (-1) = pr (-1) 1 := rfl
section
variable {G : List PyData} {wf : Nat} {M : Mem} {fs : List Fn} {z p o c s u r k N B v m i : Nat} {f g : List Rat}
theorem less_eq (h : fs[i]? = some (pLess s u)) (hs : fs[s]? = some (pSum p c)) (hu : fs[u]? = some (pMulti z o)) (hc : fs[c]? = some (pCut z)) (hp : fs[p]? = some (pPlus r)) (ho : fs[o]? = some (pProd r)) (hz : G[z]? = some (pr 0 1)) (hr : Makes fs G wf k r N) (hB : 0 < B) (h2 : B ≤ 256)
    (hf : Qbs B v m f) (hg : Qbs B v m g) (hN : 16 * m + 2 ≤ N) (hv : 2 * (v + 1) + 16 * m + 2 < 100000000) (hlf : f.length ≤ 100000) (hlg : g.length ≤ 100000) (hw : 1000000 ≤ wf) :
    callF fs G wf (k + 3) i [.d (encP f), .d (encP g)] M = some (.d (encP (cutR (addR f (g.map ((-1 : Rat) * ·))))), M) := by
  have hsz := sizeLine_eq
  have hq : Qb B 1 0 (-1 : Rat) := (qb_one (B := B) (v := 0)).neg
  have hm := multi_eq (M := M) hu ho hz hr hB h2 hq hg (by omega) (by omega) hlg
  rw [if_neg (by decide)] at hm
  have hg2 : Qbs B (v + 1) m (g.map ((-1 : Rat) * ·)) := (hg.scale hB hq).mono (by omega) (by omega)
  have hsum := sum_eq (M := M) hs hc hp hz hr hB h2 (hf.mono (show v ≤ v + 1 by omega) (Nat.le_refl m)) hg2 hN (by omega) hlf (by rw [List.length_map]; exact hlg) hw
  have e1 : evalE (callF fs G wf (k + 2)) G wf (.tup (.cons (.neg (.lit (.int 1))) (.cons (.lit (.int 1)) .nil))) [some (.d (encP f)), some (.d (encP g))] M = some (.d (enc (-1)), M) := by
    rw [enc_m1]
    exact e_tup (es_cons (w := .d (.int (-1))) (M1 := M) (by simp [evalE, evalEs, evalB, evalIt, evalS, evalSs, evalTg, allB, allI, deref_d, deref_m, derefR_d, derefR_m, derefR_r, db_len, db_abs, db_int, db_all, db_any, db_sum, db_tuple, db_list, db_max, db_min, db_gcd, db_isi, derefs_nil, derefs_cons, plain_nil, plain_d, give_f, give_t, p_add, p_addT, p_addL, p_sub, p_mul, p_fdiv, p_mod, p_pow, p_lt, p_le, p_gt, p_ge, p_ixL, p_ixT, at_0, at_1, at_2, at_n, p_eqI, p_neI, s_nn, s_bb, s_in, s_bn, s_tn, s_ln, s_sn, s_nb, s_ib, s_tb, s_lb, s_sb, p_is, p_isn, q_lenL, q_lenT, q_abs, q_int, q_intb, q_all, q_any, q_sum, q_tupL, q_tupT, q_lstL, q_lstT, q_max, q_min, q_gcd, q_isi, t_tt, t_tl, t_ti, t_tb, t_tn, t_ts, t_it, t_il, t_ii, t_ib, t_in, t_is, t_bt, t_bl, t_bi, t_bb, t_bn, t_bs, t_st, t_sl, t_si, t_sb, t_sn, t_ss, r_none, r_bool, r_int, r_list, r_tup, f_d, st_m, pl_n, pl_0, pl_1, m_app, m_pop, tof_s, bt_v, sw_c, sw_n, ag_a]) (es_cons (w := .d (.int 1)) (M1 := M) (by rw [evalE]) es_nil)) rfl (by rw [hsz]; show 2 ≤ _; decide)
  have e2 : evalE (callF fs G wf (k + 2)) G wf (.call u (.cons (.tup (.cons (.neg (.lit (.int 1))) (.cons (.lit (.int 1)) .nil))) (.cons (.var 1) .nil))) [some (.d (encP f)), some (.d (encP g))] M = some (.d (encP (g.map ((-1 : Rat) * ·))), M) :=
    x_callE (es_cons e1 (es_cons (w := .d (encP g)) (M1 := M) (by rw [evalE]; rfl) es_nil)) hm
  exact ret_d h rfl (x_stop (x_ret (x_callE (es_cons (w := .d (encP f)) (M1 := M) (by rw [evalE]; rfl) (es_cons e2 es_nil)) hsum)))
theorem ev_less (f g : List Rat) (x : Rat) : ev (cutR (addR f (g.map ((-1 : Rat) * ·)))) x = ev f x - ev g x := by
  rw [ev_cut, ev_add, ev_scale]; grind
end
end EV

/-! EvZ12: is_typed. -/
namespace EV
open PySem
def pIsTyped (j ga gb : Nat) : Fn := ⟨1, 1,
  (.cons (.ret (.and (.cons (.call j (.cons (.var 0) .nil)) (.cons (.op2 false .le (.blt false .abs (.cons (.op2 false .ix (.var 0) (.lit (.int 0))) .nil)) (.glb ga)) (.cons (.op2 false .le (.op2 false .ix (.var 0) (.lit (.int 1))) (.glb gb)) .nil)))))
  .nil)⟩
def ist : PyData → Bool
  | .tuple [.int a, .int b] => isR (.int a) (.int b) && (decide (a.natAbs ≤ 1000000) && decide (b ≤ 1000))
  | _ => false
section
variable {G : List PyData} {wf : Nat} {M : Mem} {fs : List Fn} {i j u ga gb k : Nat}
theorem ist_eq (h : fs[i]? = some (pIsTyped j ga gb)) (hj : fs[j]? = some (pIsRatio u)) (hu : fs[u]? = some pIsInt) (h1 : G[ga]? = some (.int 1000000)) (h2 : G[gb]? = some (.int 1000)) (x : PyData) (hx : nd2 x = true) : callF fs G wf (k + 3) i [.d x] M = some (.d (.bool (ist x)), M) := by
  have hr : evalE (callF fs G wf (k + 2)) G wf (.call j (.cons (.var 0) .nil)) [some (.d x)] M = some (.d (.bool (isr x)), M) := x_callE (by simp [evalE, evalEs, evalB, evalIt, evalS, evalSs, evalTg, allB, allI, deref_d, deref_m, derefR_d, derefR_m, derefR_r, db_len, db_abs, db_int, db_all, db_any, db_sum, db_tuple, db_list, db_max, db_min, db_gcd, db_isi, derefs_nil, derefs_cons, plain_nil, plain_d, give_f, give_t, p_add, p_addT, p_addL, p_sub, p_mul, p_fdiv, p_mod, p_pow, p_lt, p_le, p_gt, p_ge, p_ixL, p_ixT, at_0, at_1, at_2, at_n, p_eqI, p_neI, s_nn, s_bb, s_in, s_bn, s_tn, s_ln, s_sn, s_nb, s_ib, s_tb, s_lb, s_sb, p_is, p_isn, q_lenL, q_lenT, q_abs, q_int, q_intb, q_all, q_any, q_sum, q_tupL, q_tupT, q_lstL, q_lstT, q_max, q_min, q_gcd, q_isi, t_tt, t_tl, t_ti, t_tb, t_tn, t_ts, t_it, t_il, t_ii, t_ib, t_in, t_is, t_bt, t_bl, t_bi, t_bb, t_bn, t_bs, t_st, t_sl, t_si, t_sb, t_sn, t_ss, r_none, r_bool, r_int, r_list, r_tup, f_d, st_m, pl_n, pl_0, pl_1, m_app, m_pop, tof_s, bt_v, sw_c, sw_n, ag_a]) (isr_eq hj hu x hx)
  have go : evalSs (callF fs G wf (k + 2)) G wf (pIsTyped j ga gb).body [some (.d x)] M = some (.ret (.d (.bool (ist x))) M) := by
    refine x_stop (x_ret (e_and ?_))
    by_cases h0 : isr x = true
    · obtain ⟨a, b, rfl⟩ : ∃ a b, x = .tuple [.int a, .int b] := by
        unfold isr at h0
        split at h0
        · rename_i p q
          cases p <;> cases q <;> first | exact ⟨_, _, rfl⟩ | cases h0
        · cases h0
      rw [h0] at hr
      have hR : isR (.int a) (.int b) = true := h0
      have ha : (if a < 0 then -a else a) = (a.natAbs : Int) := by split <;> omega
      refine b_go hr ?_
      by_cases c1 : a.natAbs ≤ 1000000
      · have c2 : (a.natAbs : Int) ≤ 1000000 := by omega
        refine b_go (M1 := M) (by simp [evalE, evalEs, evalB, evalIt, evalS, evalSs, evalTg, allB, allI, deref_d, deref_m, derefR_d, derefR_m, derefR_r, db_len, db_abs, db_int, db_all, db_any, db_sum, db_tuple, db_list, db_max, db_min, db_gcd, db_isi, derefs_nil, derefs_cons, plain_nil, plain_d, give_f, give_t, p_add, p_addT, p_addL, p_sub, p_mul, p_fdiv, p_mod, p_pow, p_lt, p_le, p_gt, p_ge, p_ixL, p_ixT, at_0, at_1, at_2, at_n, p_eqI, p_neI, s_nn, s_bb, s_in, s_bn, s_tn, s_ln, s_sn, s_nb, s_ib, s_tb, s_lb, s_sb, p_is, p_isn, q_lenL, q_lenT, q_abs, q_int, q_intb, q_all, q_any, q_sum, q_tupL, q_tupT, q_lstL, q_lstT, q_max, q_min, q_gcd, q_isi, t_tt, t_tl, t_ti, t_tb, t_tn, t_ts, t_it, t_il, t_ii, t_ib, t_in, t_is, t_bt, t_bl, t_bi, t_bb, t_bn, t_bs, t_st, t_sl, t_si, t_sb, t_sn, t_ss, r_none, r_bool, r_int, r_list, r_tup, f_d, st_m, pl_n, pl_0, pl_1, m_app, m_pop, tof_s, bt_v, sw_c, sw_n, ag_a, h1, ha, c2]) (b_one ?_)
        simp [evalE, evalEs, evalB, evalIt, evalS, evalSs, evalTg, allB, allI, deref_d, deref_m, derefR_d, derefR_m, derefR_r, db_len, db_abs, db_int, db_all, db_any, db_sum, db_tuple, db_list, db_max, db_min, db_gcd, db_isi, derefs_nil, derefs_cons, plain_nil, plain_d, give_f, give_t, p_add, p_addT, p_addL, p_sub, p_mul, p_fdiv, p_mod, p_pow, p_lt, p_le, p_gt, p_ge, p_ixL, p_ixT, at_0, at_1, at_2, at_n, p_eqI, p_neI, s_nn, s_bb, s_in, s_bn, s_tn, s_ln, s_sn, s_nb, s_ib, s_tb, s_lb, s_sb, p_is, p_isn, q_lenL, q_lenT, q_abs, q_int, q_intb, q_all, q_any, q_sum, q_tupL, q_tupT, q_lstL, q_lstT, q_max, q_min, q_gcd, q_isi, t_tt, t_tl, t_ti, t_tb, t_tn, t_ts, t_it, t_il, t_ii, t_ib, t_in, t_is, t_bt, t_bl, t_bi, t_bb, t_bn, t_bs, t_st, t_sl, t_si, t_sb, t_sn, t_ss, r_none, r_bool, r_int, r_list, r_tup, f_d, st_m, pl_n, pl_0, pl_1, m_app, m_pop, tof_s, bt_v, sw_c, sw_n, ag_a, h2, ist, hR, c1]
      · have c2 : ¬ (a.natAbs : Int) ≤ 1000000 := by omega
        rw [b_stop (c := false) (M1 := M) (by simp [evalE, evalEs, evalB, evalIt, evalS, evalSs, evalTg, allB, allI, deref_d, deref_m, derefR_d, derefR_m, derefR_r, db_len, db_abs, db_int, db_all, db_any, db_sum, db_tuple, db_list, db_max, db_min, db_gcd, db_isi, derefs_nil, derefs_cons, plain_nil, plain_d, give_f, give_t, p_add, p_addT, p_addL, p_sub, p_mul, p_fdiv, p_mod, p_pow, p_lt, p_le, p_gt, p_ge, p_ixL, p_ixT, at_0, at_1, at_2, at_n, p_eqI, p_neI, s_nn, s_bb, s_in, s_bn, s_tn, s_ln, s_sn, s_nb, s_ib, s_tb, s_lb, s_sb, p_is, p_isn, q_lenL, q_lenT, q_abs, q_int, q_intb, q_all, q_any, q_sum, q_tupL, q_tupT, q_lstL, q_lstT, q_max, q_min, q_gcd, q_isi, t_tt, t_tl, t_ti, t_tb, t_tn, t_ts, t_it, t_il, t_ii, t_ib, t_in, t_is, t_bt, t_bl, t_bi, t_bb, t_bn, t_bs, t_st, t_sl, t_si, t_sb, t_sn, t_ss, r_none, r_bool, r_int, r_list, r_tup, f_d, st_m, pl_n, pl_0, pl_1, m_app, m_pop, tof_s, bt_v, sw_c, sw_n, ag_a, h1, ha, c2]) (by decide)]
        simp [ist, c1]
    · have h' : isr x = false := by simpa using h0
      rw [h'] at hr
      have e : ist x = false := by
        unfold ist
        split
        · rename_i a b
          have : isR (.int a) (.int b) = false := h'
          rw [this]; rfl
        · rfl
      rw [e]
      exact b_stop hr (by decide)
  exact ret_d h rfl (by exact go)
end
end EV

/-! EvZ13: expressions and what they come to: polynomials, ratios, whole numbers; the like ones. -/
namespace EV
open PySem
class FA (fs : List Fn) (i : Nat) (fn : outParam Fn) : Prop where
  h : fs[i]? = some fn
class GA (G : List PyData) (i : Nat) (x : outParam PyData) : Prop where
  h : G[i]? = some x
class MK (fs : List Fn) (G : List PyData) (wf r : Nat) (N : outParam Nat) : Prop where
  h : ∀ k, Makes fs G wf (k + 2) r N
class WF (wf : Nat) : Prop where
  h : 1000000 ≤ wf
/-- e comes to the polynomial whose values are φ -/
def PE (fs : List Fn) (G : List PyData) (wf k : Nat) (ρ : Loc) (M : Mem) (B : Nat) (e : E) (v m L : Nat) (φ : Rat → Rat) : Prop :=
  ∃ t : List Rat, evalE (callF fs G wf (k + 8)) G wf e ρ M = some (.d (encP t), M) ∧ Tr t ∧ Qbs B v m t ∧ t.length ≤ L ∧ ∀ x, ev t x = φ x
def QE (fs : List Fn) (G : List PyData) (wf k : Nat) (ρ : Loc) (M : Mem) (B : Nat) (e : E) (v m : Nat) (q : Rat) : Prop :=
  evalE (callF fs G wf (k + 8)) G wf e ρ M = some (.d (enc q), M) ∧ Qb B v m q
def IE (fs : List Fn) (G : List PyData) (wf k : Nat) (ρ : Loc) (M : Mem) (e : E) (v : Nat) (n : Int) : Prop :=
  evalE (callF fs G wf (k + 8)) G wf e ρ M = some (.d (.int n), M) ∧ sm v n
/-- both come to the same, n deep -/
def SM (fs : List Fn) (G : List PyData) (wf k : Nat) (ρ : Loc) (M : Mem) (n : Nat) (e1 e2 : E) : Prop :=
  ∃ d, evalE (callF fs G wf (k + 8)) G wf e1 ρ M = some (.d d, M) ∧ evalE (callF fs G wf (k + 8)) G wf e2 ρ M = some (.d d, M) ∧ Lk n d
def SMs (fs : List Fn) (G : List PyData) (wf k : Nat) (ρ : Loc) (M : Mem) (n l : Nat) (e1 e2 : Es) : Prop :=
  ∃ ds : List PyData, evalEs (callF fs G wf (k + 8)) G wf e1 ρ M = some (ds.map .d, M) ∧ evalEs (callF fs G wf (k + 8)) G wf e2 ρ M = some (ds.map .d, M) ∧ (∀ x ∈ ds, Lk n x) ∧ ds.length = l
theorem plain_map : ∀ ds : List PyData, plain (ds.map .d) = some ds
  | [] => rfl
  | d :: ds => by
    have := plain_map ds
    rw [List.map_cons, plain_d, this]
    rfl
theorem Lk.mono {n m : Nat} {d : PyData} (h : Lk n d) (hm : n ≤ m) : Lk m d := by
  induction h generalizing m with
  | none => exact .none
  | bool b => exact .bool b
  | int i => exact .int i
  | tup hl _ ih =>
    obtain ⟨m, rfl⟩ : ∃ m', m = m' + 1 := ⟨m - 1, by omega⟩
    exact .tup hl fun j x hj => ih j x hj (by omega)
theorem lk_enc (q : Rat) : Lk 1 (enc q) := .tup (by show 2 < _; decide) fun j x hj => by
  match j, hj with
  | 0, hj => injection hj with e; rw [← e]; exact .int _
  | 1, hj => injection hj with e; rw [← e]; exact .int _
theorem lk_encP (t : List Rat) (h : t.length < 1000000) : Lk 2 (encP t) := .tup (by rw [List.length_map]; exact h) fun j x hj => by
  obtain ⟨q, _, rfl⟩ := List.mem_map.mp (List.mem_of_getElem? hj)
  exact lk_enc q
section
variable {fs : List Fn} {G : List PyData} {wf k : Nat} {ρ : Loc} {M : Mem} {B v m L w l K n : Nat} {φ ψ : Rat → Rat} {e e1 e2 : E} {q q1 q2 : Rat} {a b : Int} {i z s u c p o r N y g1 lk ln : Nat} {es1 es2 : Es}
theorem pe_var {t : List Rat} (h : ρ[i]? = some (some (.d (encP t)))) (h1 : Tr t) (h2 : Qbs B v m t) (h3 : t.length ≤ L) : PE fs G wf k ρ M B (.var i) v m L (ev t) := ⟨t, by rw [evalE, h], h1, h2, h3, fun _ => rfl⟩
theorem pe_nil : PE fs G wf k ρ M B (.tup .nil) v m L (fun _ => 0) := ⟨[], by rw [evalE, evalEs]; rfl, fun q h => by simp at h, fun q h => by simp at h, Nat.zero_le _, fun _ => rfl⟩
theorem qe_var (h : ρ[i]? = some (some (.d (enc q)))) (h1 : Qb B v m q) : QE fs G wf k ρ M B (.var i) v m q := ⟨by rw [evalE, h], h1⟩
theorem ie_var (h : ρ[i]? = some (some (.d (.int a)))) (h1 : sm v a) : IE fs G wf k ρ M (.var i) v a := ⟨by rw [evalE, h], h1⟩
theorem ie_lit (h : a.natAbs < 2 ^ v := by decide) : IE fs G wf k ρ M (.lit (.int a)) v a := ⟨by rw [evalE], h⟩
theorem ie_add (h1 : IE fs G wf k ρ M e1 v a) (h2 : IE fs G wf k ρ M e2 v b) : IE fs G wf k ρ M (.op2 false .add e1 e2) (v + 1) (a + b) := ⟨x_opJ h1.1 h2.1 p_add (by decide), h1.2.add h2.2⟩
theorem ie_sub (h1 : IE fs G wf k ρ M e1 v a) (h2 : IE fs G wf k ρ M e2 v b) : IE fs G wf k ρ M (.op2 false .sub e1 e2) (v + 1) (a - b) := ⟨x_opJ h1.1 h2.1 p_sub (by decide), h1.2.sub h2.2⟩
/-- the ratio n by 1 in a text -/
theorem qe_int (h : IE fs G wf k ρ M e v a) : QE fs G wf k ρ M B (.tup (.cons e (.cons (.lit (.int 1)) .nil))) v 0 (a : Rat) :=
  ⟨by rw [enc_int]; exact e_tup (es_cons h.1 (es_cons (w := .d (.int 1)) (M1 := M) (by rw [evalE]) es_nil)) rfl (by rw [sizeLine_eq]; show 2 ≤ _; decide), qb_int h.2⟩
theorem pe_one : PE fs G wf k ρ M B (.tup (.cons (.tup (.cons (.lit (.int 1)) (.cons (.lit (.int 1)) .nil))) .nil)) 1 0 1 (fun _ => 1) := by
  have e : evalE (callF fs G wf (k + 8)) G wf (.tup (.cons (.lit (.int 1)) (.cons (.lit (.int 1)) .nil))) ρ M = some (.d (pr 1 1), M) :=
    e_tup (es_cons (w := .d (.int 1)) (M1 := M) (by rw [evalE]) (es_cons (w := .d (.int 1)) (M1 := M) (by rw [evalE]) es_nil)) rfl (by rw [sizeLine_eq]; show 2 ≤ _; decide)
  exact ⟨[1], e_tup (es_cons e es_nil) rfl (by rw [sizeLine_eq]; show 1 ≤ _; decide), fun q h => by
    injection h with h
    rw [← h]; decide, fun q h => by
    simp at h
    subst h
    exact qb_one (v := 0), Nat.le_refl _, fun x => by show 1 + x * 0 = 1; grind⟩
theorem args1 (h1 : evalE (callF fs G wf (k + 8)) G wf e1 ρ M = some (.d x, M)) : evalEs (callF fs G wf (k + 8)) G wf (.cons e1 .nil) ρ M = some ([.d x], M) := es_cons h1 es_nil
theorem args2 (h1 : evalE (callF fs G wf (k + 8)) G wf e1 ρ M = some (.d x, M)) (h2 : evalE (callF fs G wf (k + 8)) G wf e2 ρ M = some (.d x2, M)) : evalEs (callF fs G wf (k + 8)) G wf (.cons e1 (.cons e2 .nil)) ρ M = some ([.d x, .d x2], M) := es_cons h1 (es_cons h2 es_nil)
theorem PE.mono (h : PE fs G wf k ρ M B e v m L φ) (h1 : v ≤ w := by decide) (h2 : m ≤ l := by decide) (h3 : L ≤ K := by decide) : PE fs G wf k ρ M B e w l K φ := by
  obtain ⟨t, a1, a2, a3, a4, a5⟩ := h
  exact ⟨t, a1, a2, a3.mono h1 h2, Nat.le_trans a4 h3, a5⟩
theorem PE.as (h : PE fs G wf k ρ M B e v m L φ) (h1 : ∀ x, φ x = ψ x) : PE fs G wf k ρ M B e v m L ψ := by
  obtain ⟨t, a1, a2, a3, a4, a5⟩ := h
  exact ⟨t, a1, a2, a3, a4, fun x => by rw [a5, h1]⟩
theorem QE.mono (h : QE fs G wf k ρ M B e v m q) (h1 : v ≤ w := by decide) (h2 : m ≤ l := by decide) : QE fs G wf k ρ M B e w l q := ⟨h.1, h.2.mono h1 h2⟩
theorem IE.mono (h : IE fs G wf k ρ M e v a) (h1 : v ≤ w := by decide) : IE fs G wf k ρ M e w a := ⟨h.1, h.2.mono h1⟩
/-! ### ratios -/
theorem qe_plus [FA fs i (pPlus r)] [MK fs G wf r N] (h1 : QE fs G wf k ρ M B e1 v m q1) (h2 : QE fs G wf k ρ M B e2 v m q2) (hB : 0 < B := by decide) (hB2 : B ≤ 256 := by decide) (hN : 16 * m + 2 ≤ N := by decide) (hv : 2 * v + 16 * m + 1 < 100000000 := by decide) :
    QE fs G wf k ρ M B (.call i (.cons e1 (.cons e2 .nil))) (v + 1) m (q1 + q2) :=
  ⟨x_callE (args2 h1.1 h2.1) (plus_enc (k := k + 7) (N := N) FA.h (MK.h (k + 5)) hB hB2 h1.2 h2.2 (by omega) (by omega)), h1.2.add hB h2.2⟩
theorem qe_prod [FA fs i (pProd r)] [MK fs G wf r N] (h1 : QE fs G wf k ρ M B e1 v m q1) (h2 : QE fs G wf k ρ M B e2 w l q2) (hB : 0 < B := by decide) (hB2 : B ≤ 256 := by decide) (hN : 8 * m + 8 * l + 2 ≤ N := by decide) (hv : v + w + 8 * m + 8 * l + 2 < 100000000 := by decide) :
    QE fs G wf k ρ M B (.call i (.cons e1 (.cons e2 .nil))) (v + w) (m + l) (q1 * q2) :=
  ⟨x_callE (args2 h1.1 h2.1) (prod_enc (k := k + 7) (N := N) FA.h (MK.h (k + 5)) hB hB2 h1.2 h2.2 (by omega) (by omega)), h1.2.mul hB h2.2⟩
/-! ### polynomials of the program -/
theorem pe_sum [FA fs i (pSum p c)] [FA fs c (pCut z)] [FA fs p (pPlus r)] [GA G z (pr 0 1)] [MK fs G wf r N] [WF wf] (h1 : PE fs G wf k ρ M B e1 v m L φ) (h2 : PE fs G wf k ρ M B e2 v m K ψ) (hB : 0 < B := by decide) (hB2 : B ≤ 256 := by decide) (hN : 16 * m + 2 ≤ N := by decide) (hv : 2 * v + 16 * m + 2 < 100000000 := by decide) (hL : L ≤ 100000 := by decide) (hK : K ≤ 100000 := by decide) :
    PE fs G wf k ρ M B (.call i (.cons e1 (.cons e2 .nil))) (v + 1) m (max L K) (fun x => φ x + ψ x) := by
  obtain ⟨f, a1, a2, a3, a4, a5⟩ := h1
  obtain ⟨g, b1, b2, b3, b4, b5⟩ := h2
  have e := sum_eq (fs := fs) (G := G) (wf := wf) (M := M) (k := k + 6) (i := i) (N := N) FA.h FA.h FA.h GA.h (MK.h (k + 4)) hB hB2 a3 b3 hN hv (by omega) (by omega) WF.h
  exact ⟨_, x_callE (args2 a1 b1) e, tr_cut _, (Qbs.add hB a3 b3).cut, Nat.le_trans (cutR_len _) (by rw [add_len]; omega), fun x => by rw [ev_cut, ev_add, a5, b5]⟩
theorem pe_less [FA fs i (pLess s u)] [FA fs s (pSum p c)] [FA fs u (pMulti z o)] [FA fs c (pCut z)] [FA fs p (pPlus r)] [FA fs o (pProd r)] [GA G z (pr 0 1)] [MK fs G wf r N] [WF wf] (h1 : PE fs G wf k ρ M B e1 v m L φ) (h2 : PE fs G wf k ρ M B e2 v m K ψ) (hB : 0 < B := by decide) (hB2 : B ≤ 256 := by decide) (hN : 16 * m + 2 ≤ N := by decide) (hv : 2 * (v + 1) + 16 * m + 2 < 100000000 := by decide) (hL : L ≤ 100000 := by decide) (hK : K ≤ 100000 := by decide) :
    PE fs G wf k ρ M B (.call i (.cons e1 (.cons e2 .nil))) (v + 2) m (max L K) (fun x => φ x - ψ x) := by
  obtain ⟨f, a1, a2, a3, a4, a5⟩ := h1
  obtain ⟨g, b1, b2, b3, b4, b5⟩ := h2
  have e := less_eq (fs := fs) (G := G) (wf := wf) (M := M) (k := k + 5) (i := i) (N := N) FA.h FA.h FA.h FA.h FA.h FA.h GA.h (MK.h (k + 3)) hB hB2 a3 b3 hN hv (by omega) (by omega) WF.h
  have hq : Qb B 1 0 (-1 : Rat) := (qb_one (B := B) (v := 0)).neg
  have hg2 : Qbs B (v + 1) m (g.map ((-1 : Rat) * ·)) := (b3.scale hB hq).mono (by omega) (by omega)
  exact ⟨_, x_callE (args2 a1 b1) e, tr_cut _, (Qbs.add hB (a3.mono (by omega) (Nat.le_refl _)) hg2).cut, Nat.le_trans (cutR_len _) (by rw [add_len, List.length_map]; omega), fun x => by rw [ev_less, a5, b5]⟩
theorem tr_scale {t : List Rat} (h : q ≠ 0) (ht : Tr t) : Tr (t.map (q * ·)) := fun x hx => by
  rw [List.getLast?_map] at hx
  obtain ⟨y, hy, rfl⟩ := Option.map_eq_some_iff.mp hx
  exact fun h0 => by
    rcases Rat.mul_eq_zero.mp h0 with h0 | h0
    · exact h h0
    · exact ht y hy h0
theorem pe_multi [FA fs i (pMulti z o)] [FA fs o (pProd r)] [GA G z (pr 0 1)] [MK fs G wf r N] [WF wf] (h1 : QE fs G wf k ρ M B e1 w l q) (h2 : PE fs G wf k ρ M B e2 v m L φ) (hB : 0 < B := by decide) (hB2 : B ≤ 256 := by decide) (hN : 8 * l + 8 * m + 2 ≤ N := by decide) (hv : w + v + 8 * l + 8 * m + 2 < 100000000 := by decide) (hL : L ≤ 100000 := by decide) :
    PE fs G wf k ρ M B (.call i (.cons e1 (.cons e2 .nil))) (w + v) (l + m) L (fun x => q * φ x) := by
  obtain ⟨f, a1, a2, a3, a4, a5⟩ := h2
  have e := multi_eq (fs := fs) (G := G) (wf := wf) (M := M) (k := k + 6) (i := i) (N := N) FA.h FA.h GA.h (MK.h (k + 4)) hB hB2 h1.2 a3 hN hv (by omega)
  refine ⟨_, x_callE (args2 h1.1 a1) e, ?_⟩
  by_cases h0 : q = 0
  · rw [if_pos h0]
    exact ⟨fun q h => by simp at h, fun q h => by simp at h, Nat.zero_le _, fun x => by show 0 = _; rw [h0]; grind⟩
  · rw [if_neg h0]
    exact ⟨tr_scale h0 a2, a3.scale hB h1.2, by rw [List.length_map]; exact a4, fun x => by rw [ev_scale, a5]⟩
theorem pe_mul [FA fs i (pMul z p o c)] [FA fs c (pCut z)] [FA fs p (pPlus r)] [FA fs o (pProd r)] [GA G z (pr 0 1)] [MK fs G wf r N] [WF wf] (h1 : PE fs G wf k ρ M B e1 v m L φ) (h2 : PE fs G wf k ρ M B e2 w l K ψ) (hB : 0 < B := by decide) (hB2 : B ≤ 256 := by decide) (hN : 16 * (m + l) + 2 ≤ N := by decide) (hv : 2 * (v + w + L * K + K) + 16 * (m + l) + 2 < 100000000 := by decide) (hL : L ≤ 100000 := by decide) (hK : K ≤ 100000 := by decide) :
    PE fs G wf k ρ M B (.call i (.cons e1 (.cons e2 .nil))) (v + w + L * K) (m + l) (L + K) (fun x => φ x * ψ x) := by
  obtain ⟨f, a1, a2, a3, a4, a5⟩ := h1
  obtain ⟨g, b1, b2, b3, b4, b5⟩ := h2
  have hp : f.length * g.length ≤ L * K := Nat.mul_le_mul a4 b4
  obtain ⟨t, c1, c2, c3, c4, c5⟩ := mul_eq (fs := fs) (G := G) (wf := wf) (M := M) (k := k + 6) (i := i) (N := N) FA.h FA.h FA.h FA.h GA.h (MK.h (k + 4)) hB hB2 a3 b3 hN (by omega) (by omega) (by omega) WF.h
  exact ⟨t, x_callE (args2 a1 b1) c1, c2, c4.mono (by omega) (Nat.le_refl _), by omega, fun x => by rw [c3, a5, b5]⟩
theorem put_bounds {v w m l L K a b S N V : Nat} (ha : a ≤ L) (hb : b ≤ K) (hS : v + w + L * (K + 1) * K + 1 = S) (hN : 16 * (m + (L + 1) * l) + 2 ≤ N) (hv : 2 * (v + (L + 2) * S + K) + 16 * (m + (L + 1) * l) + 2 < V) :
    v + w + a * (b + 1) * b + 1 ≤ S ∧ 16 * (m + (a + 1) * l) + 2 ≤ N ∧ 2 * (v + (a + 2) * S + b) + 16 * (m + (a + 1) * l) + 2 < V ∧ v + a * S ≤ v + L * S ∧ m + a * l ≤ m + L * l ∧ a * (b + 1) ≤ L * (K + 1) := by
  have h1 : a * (b + 1) ≤ L * (K + 1) := Nat.mul_le_mul ha (by omega)
  have h2 : a * (b + 1) * b ≤ L * (K + 1) * K := Nat.mul_le_mul h1 hb
  have h3 : (a + 1) * l ≤ (L + 1) * l := Nat.mul_le_mul_right _ (by omega)
  have h4 : (a + 2) * S ≤ (L + 2) * S := Nat.mul_le_mul_right _ (by omega)
  have h5 : a * S ≤ L * S := Nat.mul_le_mul_right _ ha
  have h6 : a * l ≤ L * l := Nat.mul_le_mul_right _ ha
  exact ⟨by omega, by omega, by omega, by omega, by omega, h1⟩
theorem pe_put [FA fs i (pPut z s u)] [FA fs s (pSum p c)] [FA fs u (pMul z p o c)] [FA fs c (pCut z)] [FA fs p (pPlus r)] [FA fs o (pProd r)] [GA G z (pr 0 1)] [MK fs G wf r N] [WF wf] (h1 : PE fs G wf k ρ M B e1 v m L φ) (h2 : PE fs G wf k ρ M B e2 w l K ψ) (hB : 0 < B := by decide) (hB2 : B ≤ 256 := by decide) (hN : 16 * (m + (L + 1) * l) + 2 ≤ N := by decide) (hv : 2 * (v + (L + 2) * (v + w + L * (K + 1) * K + 1) + K) + 16 * (m + (L + 1) * l) + 2 < 100000000 := by decide) (hL : L ≤ 100 := by decide) (hK : K ≤ 100 := by decide) :
    PE fs G wf k ρ M B (.call i (.cons e1 (.cons e2 .nil))) (v + L * (v + w + L * (K + 1) * K + 1)) (m + L * l) (L * (K + 1)) (fun x => φ (ψ x)) := by
  obtain ⟨f, a1, a2, a3, a4, a5⟩ := h1
  obtain ⟨g, b1, b2, b3, b4, b5⟩ := h2
  obtain ⟨d1, d2, d3, d4, d5, d6⟩ := put_bounds a4 b4 rfl hN hv
  obtain ⟨t, c1, c2, c3, c4, c5⟩ := put_eq (fs := fs) (G := G) (wf := wf) (M := M) (k := k + 5) (i := i) (N := N) FA.h FA.h FA.h FA.h FA.h FA.h GA.h (MK.h (k + 3)) hB hB2 a3 b3 d1 d2 d3 (by omega) (by omega) WF.h
  exact ⟨t, x_callE (args2 a1 b1) c1, c2, c4.mono d4 d5, by omega, fun x => by rw [c3, a5]; exact congrArg φ (b5 x)⟩
theorem pe_lput [FA fs i (lPut s u)] [FA fs s (lPadd c p)] [FA fs u (lMul c p o)] [FA fs c lTrim] [FA fs p (pPlus r)] [FA fs o (pProd r)] [MK fs G wf r N] [WF wf] (h1 : PE fs G wf k ρ M B e1 v m L φ) (h2 : PE fs G wf k ρ M B e2 w l K ψ) (hB : 0 < B := by decide) (hB2 : B ≤ 256 := by decide) (hN : 16 * (m + (L + 1) * l) + 2 ≤ N := by decide) (hv : 2 * (v + (L + 2) * (v + w + L * (K + 1) * K + 1) + K) + 16 * (m + (L + 1) * l) + 2 < 100000000 := by decide) (hL : L ≤ 100 := by decide) (hK : K ≤ 100 := by decide) :
    PE fs G wf k ρ M B (.call i (.cons e1 (.cons e2 .nil))) (v + L * (v + w + L * (K + 1) * K + 1)) (m + L * l) (L * (K + 1)) (fun x => φ (ψ x)) := by
  obtain ⟨f, a1, a2, a3, a4, a5⟩ := h1
  obtain ⟨g, b1, b2, b3, b4, b5⟩ := h2
  obtain ⟨d1, d2, d3, d4, d5, d6⟩ := put_bounds a4 b4 rfl hN hv
  obtain ⟨t, c1, c2, c3, c4, c5⟩ := lput_eq (fs := fs) (G := G) (wf := wf) (M := M) (k := k + 5) (i := i) (N := N) FA.h FA.h FA.h FA.h FA.h FA.h (MK.h (k + 3)) hB hB2 a3 b3 d1 d2 d3 (by omega) (by omega) WF.h
  exact ⟨t, x_callE (args2 a1 b1) c1, c2, c4.mono d4 d5, by omega, fun x => by rw [c3, a5]; exact congrArg φ (b5 x)⟩
theorem qbs_lin (hb : sm v b) : Qbs B (v + 1) 0 [(b : Rat), 1] := fun q hq => by
  simp at hq
  rcases hq with rfl | rfl
  · exact (qb_int hb).mono (by omega) (Nat.le_refl _)
  · exact (qb_one (v := 0)).mono (by omega) (Nat.le_refl _)
theorem pe_mov [FA fs i (pMoved y g1)] [FA fs y (pPut z s u)] [FA fs s (pSum p c)] [FA fs u (pMul z p o c)] [FA fs c (pCut z)] [FA fs p (pPlus r)] [FA fs o (pProd r)] [GA G z (pr 0 1)] [GA G g1 (pr 1 1)] [MK fs G wf r N] [WF wf] (h1 : PE fs G wf k ρ M B e1 v m L φ) (h2 : IE fs G wf k ρ M e2 w a) (hB : 0 < B := by decide) (hB2 : B ≤ 256 := by decide) (hN : 16 * m + 2 ≤ N := by decide) (hv : 2 * (v + (L + 2) * (v + (w + 1) + L * 3 * 2 + 1) + 2) + 16 * m + 2 < 100000000 := by decide) (hL : L ≤ 100 := by decide) :
    PE fs G wf k ρ M B (.call i (.cons e1 (.cons e2 .nil))) (v + L * (v + (w + 1) + L * 3 * 2 + 1)) m (L * 3) (fun x => φ (a + x)) := by
  obtain ⟨f, a1, a2, a3, a4, a5⟩ := h1
  have hb := qbs_lin (B := B) h2.2
  obtain ⟨d1, d2, d3, d4, d5, d6⟩ := put_bounds (l := 0) (m := m) (N := N) a4 (show [(a : Rat), 1].length ≤ 2 from Nat.le_refl _) rfl (by omega) (by simpa using hv)
  obtain ⟨t, c1, c2, c3, c4, c5⟩ := put_eq (fs := fs) (G := G) (wf := wf) (M := M) (k := k + 4) (i := y) (N := N) FA.h FA.h FA.h FA.h FA.h FA.h GA.h (MK.h (k + 2)) hB hB2 a3 hb d1 d2 d3 (by omega) (by show 2 ≤ 100; decide) WF.h
  have c3' : ∀ x, ev t x = φ (a + x) := fun x => by rw [c3, a5, ev_lin]
  by_cases h0 : a = 0
  · have ht : t = f := ev_inj c2 a2 fun x => by
      rw [c3', a5, h0]
      congr 1
      show (0 : Rat) + x = x
      grind
    subst ht
    exact ⟨t, x_callE (args2 a1 h2.1) (moved_eq FA.h GA.h (fun h => absurd h0 h) (fun _ => rfl)), c2, a3.mono (by omega) (Nat.le_refl _), by omega, c3'⟩
  · exact ⟨t, x_callE (args2 a1 h2.1) (moved_eq FA.h GA.h (fun _ => c1) (fun h => absurd h h0)), c2, c4.mono d4 (by omega), Nat.le_trans c5 d6, c3'⟩
theorem pe_lmov [FA fs i (lMoved y)] [FA fs y (lPut s u)] [FA fs s (lPadd c p)] [FA fs u (lMul c p o)] [FA fs c lTrim] [FA fs p (pPlus r)] [FA fs o (pProd r)] [MK fs G wf r N] [WF wf] (h1 : PE fs G wf k ρ M B e1 v m L φ) (h2 : IE fs G wf k ρ M e2 w a) (hB : 0 < B := by decide) (hB2 : B ≤ 256 := by decide) (hN : 16 * m + 2 ≤ N := by decide) (hv : 2 * (v + (L + 2) * (v + (w + 1) + L * 3 * 2 + 1) + 2) + 16 * m + 2 < 100000000 := by decide) (hL : L ≤ 100 := by decide) :
    PE fs G wf k ρ M B (.call i (.cons e1 (.cons e2 .nil))) (v + L * (v + (w + 1) + L * 3 * 2 + 1)) m (L * 3) (fun x => φ (a + x)) := by
  obtain ⟨f, a1, a2, a3, a4, a5⟩ := h1
  have hb := qbs_lin (B := B) h2.2
  obtain ⟨d1, d2, d3, d4, d5, d6⟩ := put_bounds (l := 0) (m := m) (N := N) a4 (show [(a : Rat), 1].length ≤ 2 from Nat.le_refl _) rfl (by omega) (by simpa using hv)
  obtain ⟨t, c1, c2, c3, c4, c5⟩ := lput_eq (fs := fs) (G := G) (wf := wf) (M := M) (k := k + 4) (i := y) (N := N) FA.h FA.h FA.h FA.h FA.h FA.h (MK.h (k + 2)) hB hB2 a3 hb d1 d2 d3 (by omega) (by show 2 ≤ 100; decide) WF.h
  exact ⟨t, x_callE (args2 a1 h2.1) (lmoved_eq FA.h c1), c2, c4.mono d4 (by omega), Nat.le_trans c5 d6, fun x => by rw [c3, a5, ev_lin]⟩
theorem pow_bounds {w L K a n S N V : Nat} (ha : a ≤ K) (hn : n ≤ L) (hS : w + (1 + L * K) * K = S) (hN : 16 * (L * l + l) + 2 ≤ N) (hv : 2 * (1 + (L + 1) * S + K) + 16 * (L * l + l) + 2 < V) :
    w + (1 + n * a) * a ≤ S ∧ 16 * (n * l + l) + 2 ≤ N ∧ 2 * (1 + (n + 1) * S + a) + 16 * (n * l + l) + 2 < V ∧ 1 + n * S ≤ 1 + L * S ∧ n * l ≤ L * l ∧ 1 + n * a ≤ 1 + L * K := by
  have h1 : n * a ≤ L * K := Nat.mul_le_mul hn ha
  have h2 : (1 + n * a) * a ≤ (1 + L * K) * K := Nat.mul_le_mul (by omega) ha
  have h3 : n * l ≤ L * l := Nat.mul_le_mul_right _ hn
  have h4 : (n + 1) * S ≤ (L + 1) * S := Nat.mul_le_mul_right _ (by omega)
  have h5 : n * S ≤ L * S := Nat.mul_le_mul_right _ hn
  exact ⟨by omega, by omega, by omega, by omega, by omega, by omega⟩
theorem pe_pow [FA fs i (pPow g1 u)] [FA fs u (pMul z p o c)] [FA fs c (pCut z)] [FA fs p (pPlus r)] [FA fs o (pProd r)] [GA G z (pr 0 1)] [GA G g1 (pr 1 1)] [MK fs G wf r N] [WF wf] (h1 : PE fs G wf k ρ M B e1 w l K φ) (h2 : evalE (callF fs G wf (k + 8)) G wf e2 ρ M = some (.d (.int (n : Nat)), M)) (hn : n ≤ L) (hB : 0 < B := by decide) (hB2 : B ≤ 256 := by decide) (hN : 16 * (L * l + l) + 2 ≤ N := by decide) (hv : 2 * (1 + (L + 1) * (w + (1 + L * K) * K) + K) + 16 * (L * l + l) + 2 < 100000000 := by decide) (hL : L ≤ 100 := by decide) (hK : K ≤ 100 := by decide) :
    PE fs G wf k ρ M B (.call i (.cons e1 (.cons e2 .nil))) (1 + L * (w + (1 + L * K) * K)) (L * l) (1 + L * K) (fun x => pw (φ x) n) := by
  obtain ⟨f, a1, a2, a3, a4, a5⟩ := h1
  obtain ⟨d1, d2, d3, d4, d5, d6⟩ := pow_bounds a4 hn rfl hN hv
  obtain ⟨t, c1, c2, c3, c4, c5⟩ := power_eq (fs := fs) (G := G) (wf := wf) (M := M) (k := k + 5) (i := i) (N := N) FA.h FA.h FA.h FA.h FA.h GA.h GA.h (MK.h (k + 3)) hB hB2 a3 d1 d2 d3 (by omega) (by omega) WF.h
  exact ⟨t, x_callE (args2 a1 h2) c1, c2, c4.mono d4 d5, by omega, fun x => by rw [c3, a5]⟩
theorem qe_val (e0 : E) [FA fs i (pValE e0 p o)] [FA fs p (pPlus r)] [FA fs o (pProd r)] [MK fs G wf r N] (he0 : ∀ (k : Nat) (ρ : Loc), evalE (callF fs G wf k) G wf e0 ρ M = some (.d (pr 0 1), M)) (h1 : PE fs G wf k ρ M B e1 v m L φ) (h2 : QE fs G wf k ρ M B e2 w l q) (hB : 0 < B := by decide) (hB2 : B ≤ 256 := by decide) (hN : 16 * (m + (L + 1) * l) + 2 ≤ N := by decide) (hv : 2 * (v + (L + 2) * (w + 1)) + 16 * (m + (L + 1) * l) + 2 < 100000000 := by decide) :
    QE fs G wf k ρ M B (.call i (.cons e1 (.cons e2 .nil))) (v + L * (w + 1)) (m + L * l) (φ q) := by
  obtain ⟨f, a1, a2, a3, a4, a5⟩ := h1
  have h3 : (f.length + 1) * l ≤ (L + 1) * l := Nat.mul_le_mul_right _ (by omega)
  have h4 : (f.length + 2) * (w + 1) ≤ (L + 2) * (w + 1) := Nat.mul_le_mul_right _ (by omega)
  have h5 : f.length * (w + 1) ≤ L * (w + 1) := Nat.mul_le_mul_right _ a4
  have h6 : f.length * l ≤ L * l := Nat.mul_le_mul_right _ a4
  obtain ⟨c1, c2⟩ := val_eq (fs := fs) (G := G) (wf := wf) (M := M) (k := k + 6) (i := i) (N := N) FA.h (fun ρ => he0 _ ρ) FA.h FA.h (MK.h (k + 4)) hB hB2 a3 h2.2 (by omega) (by omega)
  rw [← a5]
  exact ⟨x_callE (args2 a1 h2.1) c1, c2.mono (by omega) (by omega)⟩
/-! ### polynomials of the law -/
theorem pe_padd [FA fs i (lPadd c p)] [FA fs c lTrim] [FA fs p (pPlus r)] [MK fs G wf r N] [WF wf] (h1 : PE fs G wf k ρ M B e1 v m L φ) (h2 : PE fs G wf k ρ M B e2 v m K ψ) (hB : 0 < B := by decide) (hB2 : B ≤ 256 := by decide) (hN : 16 * m + 2 ≤ N := by decide) (hv : 2 * v + K + 16 * m + 2 < 100000000 := by decide) (hL : L ≤ 100000 := by decide) (hK : K ≤ 100000 := by decide) :
    PE fs G wf k ρ M B (.call i (.cons e1 (.cons e2 .nil))) (v + K) m (max L K) (fun x => φ x + ψ x) := by
  obtain ⟨f, a1, a2, a3, a4, a5⟩ := h1
  obtain ⟨g, b1, b2, b3, b4, b5⟩ := h2
  obtain ⟨t, c1, c2, c3, c4, c5⟩ := lpadd_eq (fs := fs) (G := G) (wf := wf) (M := M) (k := k + 6) (i := i) (N := N) FA.h FA.h FA.h (MK.h (k + 4)) hB hB2 a3 b3 hN (by omega) (by omega) (by omega) WF.h
  exact ⟨t, x_callE (args2 a1 b1) c1, c2, c4.mono (by omega) (Nat.le_refl _), by omega, fun x => by rw [c3, a5, b5]⟩
theorem pe_pmul [FA fs i (lMul c p o)] [FA fs c lTrim] [FA fs p (pPlus r)] [FA fs o (pProd r)] [MK fs G wf r N] [WF wf] (h1 : PE fs G wf k ρ M B e1 v m L φ) (h2 : PE fs G wf k ρ M B e2 w l K ψ) (hB : 0 < B := by decide) (hB2 : B ≤ 256 := by decide) (hN : 16 * (m + l) + 2 ≤ N := by decide) (hv : 2 * (v + w + L * K + K) + 16 * (m + l) + 2 < 100000000 := by decide) (hL : L ≤ 100000 := by decide) (hK : K ≤ 100000 := by decide) :
    PE fs G wf k ρ M B (.call i (.cons e1 (.cons e2 .nil))) (v + w + L * K) (m + l) (L + K) (fun x => φ x * ψ x) := by
  obtain ⟨f, a1, a2, a3, a4, a5⟩ := h1
  obtain ⟨g, b1, b2, b3, b4, b5⟩ := h2
  have hp : f.length * g.length ≤ L * K := Nat.mul_le_mul a4 b4
  obtain ⟨t, c1, c2, c3, c4, c5⟩ := lmul_eq (fs := fs) (G := G) (wf := wf) (M := M) (k := k + 6) (i := i) (N := N) FA.h FA.h FA.h FA.h (MK.h (k + 4)) hB hB2 a3 b3 hN (by omega) (by omega) (by omega) WF.h
  exact ⟨t, x_callE (args2 a1 b1) c1, c2, c4.mono (by omega) (Nat.le_refl _), by omega, fun x => by rw [c3, a5, b5]⟩
theorem pe_pscale [FA fs i (lScale c o)] [FA fs c lTrim] [FA fs o (pProd r)] [MK fs G wf r N] [WF wf] (h1 : QE fs G wf k ρ M B e1 w l q) (h2 : PE fs G wf k ρ M B e2 v m L φ) (hB : 0 < B := by decide) (hB2 : B ≤ 256 := by decide) (hN : 8 * l + 8 * m + 2 ≤ N := by decide) (hv : w + v + 8 * l + 8 * m + 2 < 100000000 := by decide) (hL : L ≤ 100000 := by decide) :
    PE fs G wf k ρ M B (.call i (.cons e1 (.cons e2 .nil))) (w + v) (l + m) L (fun x => q * φ x) := by
  obtain ⟨f, a1, a2, a3, a4, a5⟩ := h2
  have e := lscale_eq (fs := fs) (G := G) (wf := wf) (M := M) (k := k + 6) (i := i) (N := N) FA.h FA.h FA.h (MK.h (k + 4)) hB hB2 h1.2 a3 hN hv (by omega) WF.h
  exact ⟨_, x_callE (args2 h1.1 a1) e, tr_cut _, (a3.scale hB h1.2).cut, Nat.le_trans (cutR_len _) (by rw [List.length_map]; exact a4), fun x => by rw [ev_cut, ev_scale, a5]⟩
/-! ### the same -/
theorem same_p (h1 : PE fs G wf k ρ M B e1 v m L φ) (h2 : PE fs G wf k ρ M B e2 w l K ψ) (h : ∀ x, φ x = ψ x) (hL : L < 1000000 := by decide) : SM fs G wf k ρ M 2 e1 e2 := by
  obtain ⟨f, a1, a2, a3, a4, a5⟩ := h1
  obtain ⟨g, b1, b2, b3, b4, b5⟩ := h2
  have : f = g := ev_inj a2 b2 fun x => by rw [a5, b5, h]
  subst this
  exact ⟨_, a1, b1, lk_encP f (by omega)⟩
theorem same_q (h1 : QE fs G wf k ρ M B e1 v m q1) (h2 : QE fs G wf k ρ M B e2 w l q2) (h : q1 = q2) : SM fs G wf k ρ M 1 e1 e2 := by
  subst h
  exact ⟨_, h1.1, h2.1, lk_enc _⟩
theorem SM.mono (h : SM fs G wf k ρ M n e1 e2) (hn : n ≤ m) : SM fs G wf k ρ M m e1 e2 := by
  obtain ⟨d, h1, h2, h3⟩ := h
  exact ⟨d, h1, h2, h3.mono hn⟩
theorem sames_nil : SMs fs G wf k ρ M n 0 .nil .nil := ⟨[], es_nil, es_nil, fun x h => by simp at h, rfl⟩
theorem sames_cons (h : SM fs G wf k ρ M n e1 e2) (h2 : SMs fs G wf k ρ M n l es1 es2) : SMs fs G wf k ρ M n (l + 1) (.cons e1 es1) (.cons e2 es2) := by
  obtain ⟨d, a1, a2, a3⟩ := h
  obtain ⟨ds, b1, b2, b3, b4⟩ := h2
  exact ⟨d :: ds, es_cons a1 b1, es_cons a2 b2, fun x hx => by
    rcases List.mem_cons.mp hx with rfl | hx
    · exact a3
    · exact b3 x hx, by rw [List.length_cons, b4]⟩
theorem same_tup (h : SMs fs G wf k ρ M n l es1 es2) (hl : l < 1000000 := by decide) : SM fs G wf k ρ M (n + 1) (.tup es1) (.tup es2) := by
  obtain ⟨ds, b1, b2, b3, b4⟩ := h
  have h3 := plain_map ds
  have h5 : ds.length ≤ sizeLine := by rw [sizeLine_eq]; omega
  exact ⟨_, e_tup b1 h3 h5, e_tup b2 h3 h5, .tup (by omega) fun j x hx => b3 x (List.mem_of_getElem? hx)⟩
theorem like_sm [FA fs i (lLike i)] (h : SM fs G wf k ρ M n e1 e2) (hn : n ≤ k + 7 := by omega) : evalE (callF fs G wf (k + 8)) G wf (.call i (.cons e1 (.cons e2 .nil))) ρ M = some (.d (.bool true), M) := by
  obtain ⟨d, a1, a2, a3⟩ := h
  exact x_callE (args2 a1 a2) (like_refl FA.h M n (k + 7) d a3 hn)
/-- «if not like: return False» goes on -/
theorem x_like [FA fs i (lLike i)] {a : Ss} (h : SM fs G wf k ρ M n e1 e2) (hn : n ≤ k + 7 := by omega) : evalS (callF fs G wf (k + 8)) G wf (.ife (.not (.call i (.cons e1 (.cons e2 .nil)))) a .nil) ρ M = some (.nx ρ M) :=
  x_ifF (t_bool (c := false) (e_not (like_sm h hn)))
end
end EV

/-! EvZ14: is_poly, is_typed_poly of any thing. -/
namespace EV
open PySem
def pIsTypedP (y t gd : Nat) : Fn := ⟨1, 2,
  (.cons (.ret (.and (.cons (.call y (.cons (.var 0) .nil)) (.cons (.op2 false .le (.blt false .len (.cons (.var 0) .nil)) (.op2 false .add (.glb gd) (.lit (.int 1)))) (.cons (.blt false .all (.cons (.comp false [1] (.v 1) (.seq (.var 0)) (.lit (.bool true)) (.call t (.cons (.var 1) .nil))) .nil)) .nil)))))
  .nil)⟩
def nd3 : PyData → Bool
  | .tuple xs => xs.all nd2
  | .dict _ => false
  | _ => true
def isP : PyData → Bool
  | .tuple xs => isp xs
  | _ => false
def isTP (D : Int) : PyData → Bool
  | .tuple xs => isp xs && (decide ((xs.length : Int) ≤ D + 1) && xs.all ist)
  | _ => false
section
variable {G : List PyData} {wf : Nat} {M : Mem} {fs : List Fn} {i j u k z y t gd ga gb : Nat} {D : Int}
theorem isP_eq (h : fs[i]? = some (pIsPoly j z)) (hj : fs[j]? = some (pIsRatio u)) (hu : fs[u]? = some pIsInt) (hz : G[z]? = some (pr 0 1)) (x : PyData) (hx : nd3 x = true) (hl : ∀ xs, x = .tuple xs → xs.length ≤ 1000000) : callF fs G wf (k + 3) i [.d x] M = some (.d (.bool (isP x)), M) := by
  cases x with
  | tuple xs => exact isp_eq h hj hu hz (fun x hm => List.all_eq_true.mp hx x hm) (hl xs rfl)
  | dict _ => cases hx
  | _ => exact isp_not h rfl (fun xs h => by cases h)
theorem all_compG {xs : List PyData} {p : PyData → Bool} {cf : Nat → List W → Mem → Option (W × Mem)} (hp : ∀ x ∈ xs, cf j [.d x] M = some (.d (.bool (p x)), M)) (hl : xs.length ≤ 1000000) :
    evalE cf G wf (.blt false .all (.cons (.comp false [1] (.v 1) (.seq (.var 0)) (.lit (.bool true)) (.call j (.cons (.var 1) .nil))) .nil)) [some (.d (.tuple xs)), none] M = some (.d (.bool (xs.all p)), M) := by
  have hsz := sizeLine_eq
  have hit : evalIt cf G wf (.seq (.var 0)) [some (.d (.tuple xs)), none] M = some (.its xs, M) := by
    simp only [evalIt, evalE, List.getElem?_cons_zero, items]
  have hc : evalE cf G wf (.comp false [1] (.v 1) (.seq (.var 0)) (.lit (.bool true)) (.call j (.cons (.var 1) .nil))) [some (.d (.tuple xs)), none] M = some (.d (.list (xs.map fun x => .bool (p x))), M) := by
    refine x_comp hit (compL_map xs (xs.map fun x => .bool (p x)) [] (by simp) (by rw [hsz]; simp; omega) fun n x y hn hy acc ha => ?_) rfl
    rw [List.getElem?_map, hn] at hy
    have hy : PyData.bool (p x) = y := Option.some.inj hy
    subst hy
    refine tc_go (ρ2 := [some (.d (.tuple xs)), some (.d x)]) rfl t_lit ?_ ha
    exact x_callE (ws := [.d x]) (M1 := M) (by simp only [evalE, evalEs, evalB, evalIt, evalS, evalSs, evalTg, allB, allI, deref_d, deref_m, derefR_d, derefR_m, derefR_r, db_len, db_abs, db_int, db_all, db_any, db_sum, db_tuple, db_list, db_max, db_min, db_gcd, db_isi, derefs_nil, derefs_cons, plain_nil, plain_d, give_f, give_t, p_add, p_addT, p_addL, p_sub, p_mul, p_fdiv, p_mod, p_pow, p_lt, p_le, p_gt, p_ge, p_ixL, p_ixT, at_0, at_1, at_2, at_n, p_eqI, p_neI, s_nn, s_bb, s_in, s_bn, s_tn, s_ln, s_sn, s_nb, s_ib, s_tb, s_lb, s_sb, p_is, p_isn, q_lenL, q_lenT, q_abs, q_int, q_intb, q_all, q_any, q_sum, q_tupL, q_tupT, q_lstL, q_lstT, q_max, q_min, q_gcd, q_isi, t_tt, t_tl, t_ti, t_tb, t_tn, t_ts, t_it, t_il, t_ii, t_ib, t_in, t_is, t_bt, t_bl, t_bi, t_bb, t_bn, t_bs, t_st, t_sl, t_si, t_sb, t_sn, t_ss, r_none, r_bool, r_int, r_list, r_tup, f_d, st_m, pl_n, pl_0, pl_1, m_app, m_pop, tof_s, bt_v, sw_c, sw_n, ag_a, List.getElem?_cons_zero, List.getElem?_cons_succ]) (hp x (List.mem_of_getElem? hn))
  rw [evalE, es_cons hc es_nil]
  simp only [db_all, derefs_cons, derefs_nil, deref_d, q_all, allB_map, Option.map_some, give_f, List.all_map]
  rfl
theorem isTP_eq (h : fs[i]? = some (pIsTypedP y t gd)) (hy : fs[y]? = some (pIsPoly j z)) (ht : fs[t]? = some (pIsTyped j ga gb)) (hj : fs[j]? = some (pIsRatio u)) (hu : fs[u]? = some pIsInt) (hz : G[z]? = some (pr 0 1)) (h1 : G[ga]? = some (.int 1000000)) (h2 : G[gb]? = some (.int 1000)) (hd : G[gd]? = some (.int D))
    (x : PyData) (hx : nd3 x = true) (hl : ∀ xs, x = .tuple xs → xs.length ≤ 1000000) : callF fs G wf (k + 4) i [.d x] M = some (.d (.bool (isTP D x)), M) := by
  have hP : evalE (callF fs G wf (k + 3)) G wf (.call y (.cons (.var 0) .nil)) [some (.d x), none] M = some (.d (.bool (isP x)), M) :=
    x_callE (es_cons (w := .d x) (M1 := M) (by rw [evalE]; rfl) es_nil) (isP_eq hy hj hu hz x hx hl)
  refine ret_d h rfl (x_stop (x_ret (e_and ?_)))
  cases hp : isP x with
  | false =>
    rw [hp] at hP
    have e : isTP D x = false := by
      cases x with
      | tuple xs =>
        have : isp xs = false := hp
        show (isp xs && _) = false
        rw [this]; rfl
      | _ => rfl
    rw [e]
    exact b_stop hP (by decide)
  | true =>
    rw [hp] at hP
    cases x with
    | tuple xs =>
      have hp' : isp xs = true := hp
      have e : isTP D (.tuple xs) = (decide ((xs.length : Int) ≤ D + 1) && xs.all ist) := by
        show (isp xs && _) = _
        rw [hp']; rfl
      rw [e]
      have a0 : evalE (callF fs G wf (k + 3)) G wf (.blt false .len (.cons (.var 0) .nil)) [some (.d (.tuple xs)), none] M = some (.d (.int (xs.length : Int)), M) := by simp [evalE, evalEs, evalB, evalIt, evalS, evalSs, evalTg, allB, allI, deref_d, deref_m, derefR_d, derefR_m, derefR_r, db_len, db_abs, db_int, db_all, db_any, db_sum, db_tuple, db_list, db_max, db_min, db_gcd, db_isi, derefs_nil, derefs_cons, plain_nil, plain_d, give_f, give_t, p_add, p_addT, p_addL, p_sub, p_mul, p_fdiv, p_mod, p_pow, p_lt, p_le, p_gt, p_ge, p_ixL, p_ixT, at_0, at_1, at_2, at_n, p_eqI, p_neI, s_nn, s_bb, s_in, s_bn, s_tn, s_ln, s_sn, s_nb, s_ib, s_tb, s_lb, s_sb, p_is, p_isn, q_lenL, q_lenT, q_abs, q_int, q_intb, q_all, q_any, q_sum, q_tupL, q_tupT, q_lstL, q_lstT, q_max, q_min, q_gcd, q_isi, t_tt, t_tl, t_ti, t_tb, t_tn, t_ts, t_it, t_il, t_ii, t_ib, t_in, t_is, t_bt, t_bl, t_bi, t_bb, t_bn, t_bs, t_st, t_sl, t_si, t_sb, t_sn, t_ss, r_none, r_bool, r_int, r_list, r_tup, f_d, st_m, pl_n, pl_0, pl_1, m_app, m_pop, tof_s, bt_v, sw_c, sw_n, ag_a]
      have a1 : evalE (callF fs G wf (k + 3)) G wf (.op2 false .add (.glb gd) (.lit (.int 1))) [some (.d (.tuple xs)), none] M = some (.d (.int (D + 1)), M) :=
        x_opJ (x := D) (y := 1) (M1 := M) (by rw [evalE, hd]) (by rw [evalE]) p_add (by decide)
      have a2 : evalE (callF fs G wf (k + 3)) G wf (.op2 false .le (.blt false .len (.cons (.var 0) .nil)) (.op2 false .add (.glb gd) (.lit (.int 1)))) [some (.d (.tuple xs)), none] M = some (.d (.bool (decide ((xs.length : Int) ≤ D + 1))), M) :=
        x_opJ a0 a1 p_le (by decide)
      have a3 := all_compG (G := G) (wf := wf) (M := M) (j := t) (xs := xs) (p := ist) (cf := callF fs G wf (k + 3)) (fun x hm => ist_eq ht hj hu h1 h2 x (List.all_eq_true.mp hx x hm)) (hl xs rfl)
      refine b_go hP ?_
      cases hc : decide ((xs.length : Int) ≤ D + 1) with
      | false =>
        rw [hc] at a2
        exact b_stop (c := false) a2 (by decide)
      | true =>
        rw [hc] at a2
        exact b_go a2 (b_one a3)
    | _ => cases hp
end
end EV

/-! EvZ15: single steps; polynomials are polynomials. -/
namespace EV
open PySem
section
variable {cf : Nat → List W → Mem → Option (W × Mem)} {G : List PyData} {wf : Nat} {ρ : Loc} {M M1 M2 M3 : Mem} {a b e lo hi : E} {es : Es} {x y z : PyData} {p : P2}
theorem x_isn {u v : Bool} (ha : evalE cf G wf a ρ M = some (.d (.bool u), M1)) : evalE cf G wf (.op2 false .isn a (.lit (.bool v))) ρ M = some (.d (.bool (!(u == v))), M1) := by
  simp [evalE, evalEs, evalB, evalIt, evalS, evalSs, evalTg, allB, allI, deref_d, deref_m, derefR_d, derefR_m, derefR_r, db_len, db_abs, db_int, db_all, db_any, db_sum, db_tuple, db_list, db_max, db_min, db_gcd, db_isi, derefs_nil, derefs_cons, plain_nil, plain_d, give_f, give_t, p_add, p_addT, p_addL, p_sub, p_mul, p_fdiv, p_mod, p_pow, p_lt, p_le, p_gt, p_ge, p_ixL, p_ixT, at_0, at_1, at_2, at_n, p_eqI, p_neI, s_nn, s_bb, s_in, s_bn, s_tn, s_ln, s_sn, s_nb, s_ib, s_tb, s_lb, s_sb, p_is, p_isn, q_lenL, q_lenT, q_abs, q_int, q_intb, q_all, q_any, q_sum, q_tupL, q_tupT, q_lstL, q_lstT, q_max, q_min, q_gcd, q_isi, t_tt, t_tl, t_ti, t_tb, t_tn, t_ts, t_it, t_il, t_ii, t_ib, t_in, t_is, t_bt, t_bl, t_bi, t_bb, t_bn, t_bs, t_st, t_sl, t_si, t_sb, t_sn, t_ss, r_none, r_bool, r_int, r_list, r_tup, f_d, st_m, pl_n, pl_0, pl_1, m_app, m_pop, tof_s, bt_v, sw_c, sw_n, ag_a, ha]
theorem x_is {u v : Bool} (ha : evalE cf G wf a ρ M = some (.d (.bool u), M1)) : evalE cf G wf (.op2 false .is a (.lit (.bool v))) ρ M = some (.d (.bool (u == v)), M1) := by
  simp [evalE, evalEs, evalB, evalIt, evalS, evalSs, evalTg, allB, allI, deref_d, deref_m, derefR_d, derefR_m, derefR_r, db_len, db_abs, db_int, db_all, db_any, db_sum, db_tuple, db_list, db_max, db_min, db_gcd, db_isi, derefs_nil, derefs_cons, plain_nil, plain_d, give_f, give_t, p_add, p_addT, p_addL, p_sub, p_mul, p_fdiv, p_mod, p_pow, p_lt, p_le, p_gt, p_ge, p_ixL, p_ixT, at_0, at_1, at_2, at_n, p_eqI, p_neI, s_nn, s_bb, s_in, s_bn, s_tn, s_ln, s_sn, s_nb, s_ib, s_tb, s_lb, s_sb, p_is, p_isn, q_lenL, q_lenT, q_abs, q_int, q_intb, q_all, q_any, q_sum, q_tupL, q_tupT, q_lstL, q_lstT, q_max, q_min, q_gcd, q_isi, t_tt, t_tl, t_ti, t_tb, t_tn, t_ts, t_it, t_il, t_ii, t_ib, t_in, t_is, t_bt, t_bl, t_bi, t_bb, t_bn, t_bs, t_st, t_sl, t_si, t_sb, t_sn, t_ss, r_none, r_bool, r_int, r_list, r_tup, f_d, st_m, pl_n, pl_0, pl_1, m_app, m_pop, tof_s, bt_v, sw_c, sw_n, ag_a, ha]
theorem x_opG (ha : evalE cf G wf a ρ M = some (.d x, M1)) (hb : evalE cf G wf b ρ M1 = some (.d y, M2)) (hp : prim2 p x y = some z) (hn : p ≠ .ix) : evalE cf G wf (.op2 false p a b) ρ M = some (.d z, M2) := by
  rw [evalE, ha]
  dsimp only
  rw [hb]
  simp only [if_neg hn, deref_d, hp, give_f]
theorem x_ixG {xs : List PyData} {i : Int} (ha : evalE cf G wf a ρ M = some (.d (.tuple xs), M1)) (hb : evalE cf G wf b ρ M1 = some (.d (.int i), M2)) (hx : at_ xs i = some x) : evalE cf G wf (.op2 false .ix a b) ρ M = some (.d x, M2) := by
  rw [evalE, ha]
  dsimp only
  rw [hb]
  simp only [if_true, derefR_d, deref_d, p_ixT, hx, give_f]
theorem e_lit : evalE cf G wf (.lit x) ρ M = some (.d x, M) := by rw [evalE]
theorem e_var {i : Nat} {w : W} (h : ρ[i]? = some (some w)) : evalE cf G wf (.var i) ρ M = some (w, M) := by rw [evalE, h]
theorem e_glb {i : Nat} (h : G[i]? = some x) : evalE cf G wf (.glb i) ρ M = some (.d x, M) := by rw [evalE, h]
theorem e_lstF {ws : List W} {xs : List PyData} (h : evalEs cf G wf es ρ M = some (ws, M1)) (hp : plain ws = some xs) (hl : xs.length ≤ sizeLine) : evalE cf G wf (.lst false es) ρ M = some (.d (.list xs), M1) := by
  rw [evalE, h]
  simp only [hp, if_pos hl, give_f]
theorem ne_of_eq {c : Bool} (h : prim2 .eq x y = some (.bool c)) : prim2 .ne x y = some (.bool (!c)) := by
  have h1 : (peq x y).map PyData.bool = some (.bool c) := h
  show (peq x y).map (fun b => PyData.bool !b) = _
  cases e : peq x y with
  | none => rw [e] at h1; cases h1
  | some d =>
    rw [e] at h1
    have : PyData.bool d = .bool c := Option.some.inj h1
    cases this
    rfl
theorem x_ifeT {c : E} {r : Option (W × Mem)} (h : testOf (evalE cf G wf c ρ M) = some (true, M1)) (h2 : evalE cf G wf a ρ M1 = r) : evalE cf G wf (.ife c a b) ρ M = r := by rw [evalE, h]; exact h2
theorem x_ifeF {c : E} {r : Option (W × Mem)} (h : testOf (evalE cf G wf c ρ M) = some (false, M1)) (h2 : evalE cf G wf b ρ M1 = r) : evalE cf G wf (.ife c a b) ρ M = r := by rw [evalE, h]; exact h2
/-- the first n of a tuple -/
theorem x_take {xs : List PyData} {n : Nat} (ha : evalE cf G wf a ρ M = some (.d (.tuple xs), M1)) (hh : evalE cf G wf hi ρ M1 = some (.d (.int (n : Nat)), M2)) : evalE cf G wf (.slc false false true a (.lit .none) hi) ρ M = some (.d (.tuple (xs.take n)), M2) := by
  have hc : primSl (.tuple xs) none (some ((n : Nat) : Int)) = some (.tuple (xs.take n)) := by
    show some (PyData.tuple (cutL xs none (some ((n : Nat) : Int)))) = _
    unfold cutL
    rw [HT.sIx_none, HT.sIx_nat, List.drop_zero, Nat.sub_zero]
    congr 2
    rw [List.take_eq_take_iff]
    omega
  have h1 : bnd false PyData.none = some none := rfl
  have h2 : bnd true (.int ((n : Nat) : Int)) = some (some ((n : Nat) : Int)) := rfl
  rw [evalE, ha]
  dsimp only
  rw [e_lit]
  dsimp only
  rw [hh]
  simp only [deref_d, h1, h2, hc, give_f]
/-- from the n-th on -/
theorem x_drop {xs : List PyData} {n : Nat} (ha : evalE cf G wf a ρ M = some (.d (.tuple xs), M1)) (hh : evalE cf G wf lo ρ M1 = some (.d (.int (n : Nat)), M2)) : evalE cf G wf (.slc false true false a lo (.lit .none)) ρ M = some (.d (.tuple (xs.drop n)), M2) := by
  have hc : primSl (.tuple xs) (some ((n : Nat) : Int)) none = some (.tuple (xs.drop n)) := by
    show some (PyData.tuple (cutL xs (some ((n : Nat) : Int)) none)) = _
    unfold cutL
    rw [HT.sIx_none, HT.sIx_nat]
    congr 2
    by_cases h : n ≤ xs.length
    · rw [Nat.min_eq_left h, List.take_of_length_le (by rw [List.length_drop]; omega)]
    · rw [List.drop_eq_nil_of_le (by omega), List.drop_eq_nil_of_le (by omega)]
      exact List.take_nil
  have h1 : bnd false PyData.none = some none := rfl
  have h2 : bnd true (.int ((n : Nat) : Int)) = some (some ((n : Nat) : Int)) := rfl
  rw [evalE, ha]
  dsimp only
  rw [hh]
  dsimp only
  rw [e_lit]
  simp only [deref_d, h1, h2, hc, give_f]
end
theorem qb_num {n d : Int} {v : Nat} (hn : n.natAbs < 2 ^ v) (h1 : 0 < d) : (Rat.divInt n d).num.natAbs < 2 ^ v * (Rat.divInt n d).den := by
  have e := rat_enc (a := n) (b := d) (by omega)
  obtain ⟨_, _, f3, _, _⟩ := rat_facts (a := n) (b := d) (by omega)
  have hnum : (Rat.divInt n d).num = rn n d := by
    unfold enc at e
    simp only [PyData.tuple.injEq, List.cons.injEq, PyData.int.injEq, and_true] at e
    exact e.1.symm
  rw [hnum]
  have h2 : 2 ^ v * 1 ≤ 2 ^ v * (Rat.divInt n d).den := Nat.mul_le_mul_left _ (Rat.divInt n d).den_pos
  omega
theorem isr_enc (q : Rat) : isr (enc q) = true := by
  show (decide ((1 : Int) ≤ (q.den : Int)) && decide (Nat.gcd q.num.natAbs (q.den : Int).natAbs = 1)) = true
  have h1 : (1 : Int) ≤ (q.den : Int) := by have := q.den_pos; omega
  have h2 : Nat.gcd q.num.natAbs (q.den : Int).natAbs = 1 := q.reduced
  rw [decide_eq_true h1, decide_eq_true h2]
  rfl
theorem isp_encs {t : List Rat} (h : Tr t) : isp (encs t) = true := by
  unfold isp
  have h1 : (encs t).all isr = true := List.all_eq_true.mpr fun x hx => by
    obtain ⟨q, _, rfl⟩ := List.mem_map.mp hx
    exact isr_enc q
  rw [h1, Bool.true_and]
  cases hl : t.getLast? with
  | none =>
    rw [List.getLast?_eq_none_iff.mp hl]; rfl
  | some q =>
    have h2 : (encs t).getLast? = some (enc q) := by rw [List.getLast?_map, hl]; rfl
    rw [h2]
    have h3 := h q hl
    have h4 : ¬ q.num = 0 := fun h0 => h3 (by
      have := num_zero q
      rw [decide_eq_true h0] at this
      exact of_decide_eq_true this.symm)
    show (_ || !decide (q.num = 0 ∧ (q.den : Int) = 1)) = true
    rw [decide_eq_false (fun hh => h4 hh.1)]
    simp
theorem nd2_enc (q : Rat) : nd2 (enc q) = true := rfl
theorem nd3_encP (t : List Rat) : nd3 (encP t) = true := List.all_eq_true.mpr fun x hx => by
  obtain ⟨q, _, rfl⟩ := List.mem_map.mp hx
  exact nd2_enc q
theorem isP_enc {t : List Rat} (h : Tr t) : isP (encP t) = true := isp_encs h
theorem isTP_not {D : Int} {x : PyData} (h : isP x = false) : isTP D x = false := by
  cases x with
  | tuple xs =>
    have : isp xs = false := h
    show (isp xs && _) = false
    rw [this]; rfl
  | _ => rfl
theorem ist_enc {q : Rat} (h1 : q.num.natAbs ≤ 1000000) (h2 : q.den ≤ 1000) : ist (enc q) = true := by
  have h0 := isr_enc q
  have h0 : isR (.int q.num) (.int (q.den : Int)) = true := h0
  show (isR (.int q.num) (.int (q.den : Int)) && (decide (q.num.natAbs ≤ 1000000) && decide ((q.den : Int) ≤ 1000))) = true
  rw [h0, decide_eq_true h1, decide_eq_true (by omega)]
  rfl
theorem isTP_enc {D : Int} {t : List Rat} (h : Tr t) (hD : (t.length : Int) ≤ D + 1) (hq : ∀ q ∈ t, q.num.natAbs ≤ 1000000 ∧ q.den ≤ 1000) : isTP D (encP t) = true := by
  show (isp (encs t) && (decide (((encs t).length : Int) ≤ D + 1) && (encs t).all ist)) = true
  rw [isp_encs h, List.length_map, decide_eq_true hD, List.all_eq_true.mpr fun x hx => by
    obtain ⟨q, hm, rfl⟩ := List.mem_map.mp hx
    exact ist_enc (hq q hm).1 (hq q hm).2]
  rfl
section
variable {fs : List Fn} {G : List PyData} {wf k : Nat} {ρ : Loc} {M M1 : Mem} {e : E} {x : PyData} {i j u z y t gd ga gb : Nat} {D : Int}
theorem e_isP [FA fs i (pIsPoly j z)] [FA fs j (pIsRatio u)] [FA fs u pIsInt] [GA G z (pr 0 1)] (h : evalE (callF fs G wf (k + 8)) G wf e ρ M = some (.d x, M1)) (hx : nd3 x = true) (hl : ∀ xs, x = .tuple xs → xs.length ≤ 1000000) : evalE (callF fs G wf (k + 8)) G wf (.call i (.cons e .nil)) ρ M = some (.d (.bool (isP x)), M1) :=
  x_callE (es_cons h es_nil) (isP_eq (k := k + 5) FA.h FA.h FA.h GA.h x hx hl)
theorem e_isTP [FA fs i (pIsTypedP y t gd)] [FA fs y (pIsPoly j z)] [FA fs t (pIsTyped j ga gb)] [FA fs j (pIsRatio u)] [FA fs u pIsInt] [GA G z (pr 0 1)] [GA G ga (.int 1000000)] [GA G gb (.int 1000)] [GA G gd (.int D)] (h : evalE (callF fs G wf (k + 8)) G wf e ρ M = some (.d x, M1)) (hx : nd3 x = true) (hl : ∀ xs, x = .tuple xs → xs.length ≤ 1000000) : evalE (callF fs G wf (k + 8)) G wf (.call i (.cons e .nil)) ρ M = some (.d (.bool (isTP D x)), M1) :=
  x_callE (es_cons h es_nil) (isTP_eq (k := k + 4) FA.h FA.h FA.h FA.h FA.h GA.h GA.h GA.h GA.h x hx hl)
end
end EV

/-! EvZ16: polynomials through values: Newton's form, its uniqueness; sums. No program here. -/
namespace EV
def bc : Nat → Rat → Rat
  | 0, _ => 1
  | j + 1, x => (1 / ((j : Rat) + 1)) * (bc j x * (-(j : Rat) + x))
theorem inv_pos (j : Nat) : (1 / ((j : Rat) + 1)) * ((j : Rat) + 1) = 1 := by
  have h : (j : Rat) + 1 ≠ 0 := by
    have h1 : (0 : Rat) ≤ (j : Rat) := Rat.natCast_nonneg
    grind
  rw [Rat.div_def, Rat.one_mul, Rat.inv_mul_cancel _ h]
theorem bc_up (x : Rat) : ∀ j : Nat, bc (j + 1) (x + 1) * ((j : Rat) + 1) = (x + 1) * bc j x
  | 0 => by
    show (1 / (((0 : Nat) : Rat) + 1)) * (1 * (-((0 : Nat) : Rat) + (x + 1))) * (((0 : Nat) : Rat) + 1) = (x + 1) * 1
    have := inv_pos 0
    grind
  | j + 1 => by
    have ih := bc_up x j
    have h1 := inv_pos j
    have h2 := inv_pos (j + 1)
    show (1 / (((j + 1 : Nat) : Rat) + 1)) * (bc (j + 1) (x + 1) * (-((j + 1 : Nat) : Rat) + (x + 1))) * (((j + 1 : Nat) : Rat) + 1) = (x + 1) * ((1 / ((j : Rat) + 1)) * (bc j x * (-(j : Rat) + x)))
    have h3 : ((j + 1 : Nat) : Rat) = (j : Rat) + 1 := by rw [Rat.natCast_add]; rfl
    generalize hc : (1 / (((j + 1 : Nat) : Rat) + 1)) = c at *
    generalize hd : (1 / ((j : Rat) + 1)) = d at *
    generalize hu : bc (j + 1) (x + 1) = u at *
    generalize hw : bc j x = w at *
    rw [h3] at *
    generalize (j : Rat) = y at *
    have e1 : c * (u * (-(y + 1) + (x + 1))) * (y + 1 + 1) = (c * (y + 1 + 1)) * (u * (x - y)) := by grind
    have e2 : u = d * ((x + 1) * w) := by
      have : u * (y + 1) * d = (x + 1) * w * d := by rw [ih]
      have : u * (d * (y + 1)) = (x + 1) * w * d := by grind
      rw [h1] at this
      grind
    rw [e1, h2, e2]
    grind
theorem bc_step (x : Rat) (j : Nat) : bc (j + 1) (x + 1) - bc (j + 1) x = bc j x := by
  have h1 := bc_up x j
  have h2 := inv_pos j
  have h3 : bc (j + 1) x = (1 / ((j : Rat) + 1)) * (bc j x * (-(j : Rat) + x)) := rfl
  generalize bc (j + 1) (x + 1) = u at *
  rw [h3]
  generalize (1 / ((j : Rat) + 1)) = d at *
  generalize bc j x = w at *
  generalize (j : Rat) = y at *
  have e2 : u = d * ((x + 1) * w) := by
    have : u * (y + 1) * d = (x + 1) * w * d := by rw [h1]
    have : u * (d * (y + 1)) = (x + 1) * w * d := by grind
    rw [h2] at this
    grind
  have e3 : u - d * (w * (-y + x)) = (d * (y + 1)) * w := by rw [e2]; grind
  rw [e3, h2]
  grind
theorem bc_zero : ∀ j : Nat, bc (j + 1) 0 = 0
  | 0 => by
    show (1 / (((0 : Nat) : Rat) + 1)) * (1 * (-((0 : Nat) : Rat) + 0)) = 0
    have : ((0 : Nat) : Rat) = 0 := rfl
    rw [this]
    grind
  | j + 1 => by
    show (1 / (((j + 1 : Nat) : Rat) + 1)) * (bc (j + 1) 0 * (-((j + 1 : Nat) : Rat) + 0)) = 0
    rw [bc_zero j]
    grind
def df (g : Nat → Rat) : Nat → Rat := fun n => g (n + 1) - g n
def dfs : Nat → (Nat → Rat) → Nat → Rat
  | 0, g => g
  | j + 1, g => dfs j (df g)
theorem dfs_df : ∀ (j : Nat) (g : Nat → Rat), dfs (j + 1) g = df (dfs j g)
  | 0, _ => rfl
  | j + 1, g => by
    show dfs (j + 1) (df g) = _
    rw [dfs_df j (df g)]
    rfl
def nw : Nat → (Nat → Rat) → Rat → Rat
  | 0, _, _ => 0
  | k + 1, g, x => nw k g x + dfs k g 0 * bc k x
theorem nw_step (g : Nat → Rat) (x : Rat) : ∀ k : Nat, nw (k + 1) g (x + 1) - nw (k + 1) g x = nw k (df g) x
  | 0 => by
    show 0 + g 0 * 1 - (0 + g 0 * 1) = 0
    grind
  | k + 1 => by
    have ih := nw_step g x k
    have h := bc_step x k
    have e1 : nw (k + 1 + 1) g (x + 1) = nw (k + 1) g (x + 1) + dfs (k + 1) g 0 * bc (k + 1) (x + 1) := rfl
    have e2 : nw (k + 1 + 1) g x = nw (k + 1) g x + dfs (k + 1) g 0 * bc (k + 1) x := rfl
    have e3 : nw (k + 1) (df g) x = nw k (df g) x + dfs (k + 1) g 0 * bc k x := rfl
    rw [e1, e2, e3, ← ih, ← h]
    grind
theorem nw_zero (g : Nat → Rat) : ∀ k : Nat, nw (k + 1) g 0 = g 0
  | 0 => by
    show 0 + g 0 * 1 = g 0
    grind
  | k + 1 => by
    have e1 : nw (k + 1 + 1) g 0 = nw (k + 1) g 0 + dfs (k + 1) g 0 * bc (k + 1) 0 := rfl
    rw [e1, nw_zero g k, bc_zero k]
    grind
theorem nw_at : ∀ (n k : Nat) (g : Nat → Rat), n < k → nw k g (n : Rat) = g n
  | 0, k, g, h => by
    obtain ⟨k, rfl⟩ : ∃ k', k = k' + 1 := ⟨k - 1, by omega⟩
    exact nw_zero g k
  | n + 1, k, g, h => by
    obtain ⟨k, rfl⟩ : ∃ k', k = k' + 1 := ⟨k - 1, by omega⟩
    have h1 := nw_step g (n : Rat) k
    rw [nw_at n k (df g) (by omega), nw_at n (k + 1) g (by omega)] at h1
    have h3 : ((n + 1 : Nat) : Rat) = (n : Rat) + 1 := by rw [Rat.natCast_add]; rfl
    rw [h3]
    have h2 : df g n = g (n + 1) - g n := rfl
    rw [h2] at h1
    grind
theorem bcL : ∀ k : Nat, ∃ s : List Rat, s.length = k + 1 ∧ ∀ x, ev s x = bc k x
  | 0 => ⟨[1], rfl, fun x => by show 1 + x * 0 = 1; grind⟩
  | k + 1 => by
    obtain ⟨s, h1, h2⟩ := bcL k
    refine ⟨(addR (s.map (-(k : Rat) * ·)) (0 :: s)).map ((1 / ((k : Rat) + 1)) * ·), by rw [List.length_map, add_len, List.length_map, List.length_cons]; omega, fun x => ?_⟩
    rw [ev_scale, ev_add, ev_scale]
    show (1 / ((k : Rat) + 1)) * (-(k : Rat) * ev s x + (0 + x * ev s x)) = (1 / ((k : Rat) + 1)) * (bc k x * (-(k : Rat) + x))
    rw [h2]
    grind
theorem nwL (g : Nat → Rat) : ∀ k : Nat, ∃ s : List Rat, s.length ≤ k ∧ ∀ x, ev s x = nw k g x
  | 0 => ⟨[], Nat.le_refl _, fun x => rfl⟩
  | k + 1 => by
    obtain ⟨s, h1, h2⟩ := nwL g k
    obtain ⟨b, h3, h4⟩ := bcL k
    refine ⟨addR s (b.map (dfs k g 0 * ·)), by rw [add_len, List.length_map]; omega, fun x => ?_⟩
    rw [ev_add, ev_scale, h2, h4]
    rfl
theorem shL : ∀ s : List Rat, ∃ r : List Rat, r.length = s.length ∧ ∀ x, ev r x = ev s (x + 1)
  | [] => ⟨[], rfl, fun _ => rfl⟩
  | c :: s => by
    obtain ⟨r, h1, h2⟩ := shL s
    refine ⟨addR (c :: r) r, by rw [add_len, List.length_cons, List.length_cons]; omega, fun x => ?_⟩
    rw [ev_add]
    show c + x * ev r x + ev r x = c + (x + 1) * ev s (x + 1)
    rw [h2]
    grind
theorem dfL : ∀ s : List Rat, ∃ r : List Rat, r.length ≤ s.length - 1 ∧ ∀ x, ev r x = ev s (x + 1) - ev s x
  | [] => ⟨[], Nat.le_refl _, fun x => by show (0 : Rat) = 0 - 0; grind⟩
  | [c] => ⟨[], Nat.le_refl _, fun x => by show (0 : Rat) = c + (x + 1) * 0 - (c + x * 0); grind⟩
  | c :: d :: s => by
    obtain ⟨r, h1, h2⟩ := dfL (d :: s)
    obtain ⟨q, h3, h4⟩ := shL (d :: s)
    refine ⟨addR (0 :: r) q, by rw [add_len, List.length_cons, h3]; simp only [List.length_cons] at *; omega, fun x => ?_⟩
    rw [ev_add]
    show 0 + x * ev r x + ev q x = c + (x + 1) * ev (d :: s) (x + 1) - (c + x * ev (d :: s) x)
    rw [h2, h4]
    grind
/-- a polynomial that is nought at all of 0, 1, .. is nought -/
theorem ev_naught {s : List Rat} (h : ∀ n : Nat, ev s (n : Rat) = 0) (x : Rat) : ev s x = 0 :=
  ev_all0 s x (ev_zero s 0 fun n _ => h n)
/-- the same steps, the same at 0 -/
theorem same_steps {s r : List Rat} (h : ∀ x : Rat, ev s (x + 1) - ev s x = ev r (x + 1) - ev r x) (h0 : ev s 0 = ev r 0) (x : Rat) : ev s x = ev r x := by
  have h1 : ∀ n : Nat, ev (dif s r) (n : Rat) = 0 := by
    intro n
    rw [ev_dif]
    induction n with
    | zero =>
      have : ((0 : Nat) : Rat) = 0 := rfl
      rw [this, h0]
      grind
    | succ n ih =>
      have h3 : ((n + 1 : Nat) : Rat) = (n : Rat) + 1 := by rw [Rat.natCast_add]; rfl
      rw [h3]
      have := h (n : Rat)
      grind
  have := ev_naught h1 x
  rw [ev_dif] at this
  grind
theorem newton : ∀ (k : Nat) (s : List Rat), s.length ≤ k → ∀ x, ev s x = nw k (fun n => ev s (n : Rat)) x
  | 0, s, h, x => by
    have : s = [] := List.length_eq_zero_iff.mp (by omega)
    subst this
    rfl
  | k + 1, s, h, x => by
    obtain ⟨r, r1, r2⟩ := dfL s
    obtain ⟨q, q1, q2⟩ := nwL (fun n => ev s (n : Rat)) (k + 1)
    rw [← q2]
    refine same_steps (fun y => ?_) ?_ x
    · rw [q2, q2, nw_step, ← r2, newton k r (by omega) y]
      congr 1
      funext n
      show ev r (n : Rat) = ev s ((n + 1 : Nat) : Rat) - ev s (n : Rat)
      have h3 : ((n + 1 : Nat) : Rat) = (n : Rat) + 1 := by rw [Rat.natCast_add]; rfl
      rw [r2, h3]
    · rw [q2]
      exact (nw_zero (fun n => ev s (n : Rat)) k).symm
def sumN (g : Nat → Rat) : Nat → Rat
  | 0 => 0
  | n + 1 => sumN g n + g n
/-- Newton's form through the partial sums of a polynomial's values: its steps are that polynomial -/
theorem nw_sum {s : List Rat} {k : Nat} (h : s.length ≤ k) (x : Rat) : nw (k + 1) (sumN fun n => ev s (n : Rat)) (x + 1) - nw (k + 1) (sumN fun n => ev s (n : Rat)) x = ev s x := by
  rw [nw_step, newton k s h x]
  congr 1
  funext n
  show sumN _ n + ev s (n : Rat) - sumN _ n = _
  grind
theorem tr_len {t s : List Rat} (ht : Tr t) (h : ∀ x, ev t x = ev s x) : t.length ≤ s.length := by
  have : t = cutR s := ev_inj ht (tr_cut s) fun x => by rw [h, ev_cut]
  rw [this]
  exact cutR_len s
end EV

/-! EvZ17: minus, through. -/
namespace EV
open PySem
def pMinus (r : Nat) : Fn := ⟨2, 2,
  (.cons (.ret (.call r (.cons (.op2 false .sub (.op2 false .mul (.op2 false .ix (.var 0) (.lit (.int 0))) (.op2 false .ix (.var 1) (.lit (.int 1)))) (.op2 false .mul (.op2 false .ix (.var 1) (.lit (.int 0))) (.op2 false .ix (.var 0) (.lit (.int 1))))) (.cons (.op2 false .mul (.op2 false .ix (.var 0) (.lit (.int 1))) (.op2 false .ix (.var 1) (.lit (.int 1)))) .nil))))
  .nil)⟩
def thL (mi : Nat) : E := .comp false [5, 6] (.tv [5, 6]) (.zip (.var 1) (.slc false true false (.var 1) (.lit (.int 1)) (.lit .none))) (.lit (.bool true)) (.call mi (.cons (.var 6) (.cons (.var 5) .nil)))
def thB (s u o mi e1 : Nat) : Ss :=
   (.cons (.asg 2 (.call s (.cons (.var 2) (.cons (.call o (.cons (.op2 false .ix (.var 1) (.lit (.int 0))) (.cons (.var 3) .nil))) .nil))))
   (.cons (.asg 1 (thL mi))
   (.cons (.asg 3 (.call o (.cons (.tup (.cons (.lit (.int 1)) (.cons (.op2 false .add (.var 4) (.lit (.int 1))) .nil))) (.cons (.call u (.cons (.var 3) (.cons (.tup (.cons (.tup (.cons (.neg (.var 4)) (.cons (.lit (.int 1)) .nil))) (.cons (.glb e1) .nil))) .nil))) .nil))))
   .nil)))
def pThru (s u o mi e1 : Nat) : Fn := ⟨1, 7,
  (.cons (.asg 1 (.blt false .list (.cons (.var 0) .nil)))
  (.cons (.asg 2 (.tup .nil))
  (.cons (.asg 3 (.tup (.cons (.glb e1) .nil)))
  (.cons (.fr (.v 4) (.rng (.cons (.blt false .len (.cons (.var 0) .nil)) .nil)) (thB s u o mi e1))
  (.cons (.ret (.var 2))
  .nil)))))⟩
section
variable {G : List PyData} {wf : Nat} {M : Mem} {fs : List Fn} {B v w m l : Nat} {p q : Rat}
theorem minus_enc {i r k N : Nat} (h : fs[i]? = some (pMinus r)) (hr : Makes fs G wf k r N) (hB : 0 < B) (h2 : B ≤ 256) (hp : Qb B v m p) (hq : Qb B w l q) (hN : 8 * m + 8 * l + 2 ≤ N) (hv : v + w + 8 * m + 8 * l + 1 < 100000000) :
    callF fs G wf (k + 1) i [.d (enc p), .d (enc q)] M = some (.d (enc (p - q)), M) := by
  have hpd := p.den_nz
  have hqd := q.den_nz
  have sp := hp.sd hB h2
  have sq := hq.sd hB h2
  have m1 := (hp.sn hB h2).ok sq (by omega)
  have m2 := (hq.sn hB h2).ok sp (by omega)
  have m3 := sp.ok sq (by omega)
  have hpos : (0 : Int) < (p.den : Int) * q.den := Int.mul_pos (by omega) (by omega)
  have e := hr (p.num * q.den - q.num * p.den) (p.den * q.den) M hpos ((sp.mul sq).mono (by omega))
  have e2 : Rat.divInt (p.num * q.den - q.num * p.den) (p.den * q.den) = p - q := by
    rw [← Rat.divInt_sub_divInt _ _ (by omega) (by omega), Rat.num_divInt_den, Rat.num_divInt_den]
  rw [rat_enc (by omega), e2] at e
  refine ret_d h rfl (x_stop (x_ret (x_callE (ws := [.d (.int (p.num * q.den - q.num * p.den)), .d (.int (p.den * q.den))]) (M1 := M) ?_ e)))
  simp [evalE, evalEs, evalB, evalIt, evalS, evalSs, evalTg, allB, allI, deref_d, deref_m, derefR_d, derefR_m, derefR_r, db_len, db_abs, db_int, db_all, db_any, db_sum, db_tuple, db_list, db_max, db_min, db_gcd, db_isi, derefs_nil, derefs_cons, plain_nil, plain_d, give_f, give_t, p_add, p_addT, p_addL, p_sub, p_mul, p_fdiv, p_mod, p_pow, p_lt, p_le, p_gt, p_ge, p_ixL, p_ixT, at_0, at_1, at_2, at_n, p_eqI, p_neI, s_nn, s_bb, s_in, s_bn, s_tn, s_ln, s_sn, s_nb, s_ib, s_tb, s_lb, s_sb, p_is, p_isn, q_lenL, q_lenT, q_abs, q_int, q_intb, q_all, q_any, q_sum, q_tupL, q_tupT, q_lstL, q_lstT, q_max, q_min, q_gcd, q_isi, t_tt, t_tl, t_ti, t_tb, t_tn, t_ts, t_it, t_il, t_ii, t_ib, t_in, t_is, t_bt, t_bl, t_bi, t_bb, t_bn, t_bs, t_st, t_sl, t_si, t_sb, t_sn, t_ss, r_none, r_bool, r_int, r_list, r_tup, f_d, st_m, pl_n, pl_0, pl_1, m_app, m_pop, tof_s, bt_v, sw_c, sw_n, ag_a, enc, m1, m2, m3]
end
theorem zips_at : ∀ {xs ys : List PyData} {j : Nat} {z : PyData}, (zips xs ys)[j]? = some z → ∃ x y, xs[j]? = some x ∧ ys[j]? = some y ∧ z = .tuple [x, y]
  | [], _, _, _, h => by cases h
  | _ :: _, [], _, _, h => by cases h
  | x :: xs, y :: ys, 0, z, h => ⟨x, y, rfl, rfl, (Option.some.inj h).symm⟩
  | x :: xs, y :: ys, j + 1, z, h => zips_at (xs := xs) (ys := ys) (j := j) h
theorem zips_len : ∀ (xs ys : List PyData), (zips xs ys).length = min xs.length ys.length
  | [], ys => by show 0 = _; simp
  | x :: xs, [] => rfl
  | x :: xs, y :: ys => by
    show (zips xs ys).length + 1 = _
    rw [zips_len xs ys, List.length_cons, List.length_cons]
    omega
section
variable {cf : Nat → List W → Mem → Option (W × Mem)} {G : List PyData} {wf : Nat} {ρ : Loc} {M M1 M2 M3 : Mem} {a b lo hi : E}
theorem x_dropL {xs : List PyData} {n : Nat} (ha : evalE cf G wf a ρ M = some (.d (.list xs), M1)) (hh : evalE cf G wf lo ρ M1 = some (.d (.int (n : Nat)), M2)) : evalE cf G wf (.slc false true false a lo (.lit .none)) ρ M = some (.d (.list (xs.drop n)), M2) := by
  have hc : primSl (.list xs) (some ((n : Nat) : Int)) none = some (.list (xs.drop n)) := by
    show some (PyData.list (cutL xs (some ((n : Nat) : Int)) none)) = _
    unfold cutL
    rw [HT.sIx_none, HT.sIx_nat]
    congr 2
    by_cases h : n ≤ xs.length
    · rw [Nat.min_eq_left h, List.take_of_length_le (by rw [List.length_drop]; omega)]
    · rw [List.drop_eq_nil_of_le (by omega), List.drop_eq_nil_of_le (by omega)]
      exact List.take_nil
  have h1 : bnd false PyData.none = some none := rfl
  have h2 : bnd true (.int ((n : Nat) : Int)) = some (some ((n : Nat) : Int)) := rfl
  rw [evalE, ha]
  dsimp only
  rw [hh]
  dsimp only
  rw [e_lit]
  simp only [deref_d, h1, h2, hc, give_f]
theorem x_ixL {xs : List PyData} {i : Int} {x : PyData} (ha : evalE cf G wf a ρ M = some (.d (.list xs), M1)) (hb : evalE cf G wf b ρ M1 = some (.d (.int i), M2)) (hx : at_ xs i = some x) : evalE cf G wf (.op2 false .ix a b) ρ M = some (.d x, M2) := by
  rw [evalE, ha]
  dsimp only
  rw [hb]
  simp only [if_true, derefR_d, deref_d, p_ixL, hx, give_f]
theorem x_asg {e : E} {i : Nat} {w : W} (h : evalE cf G wf e ρ M = some (w, M1)) : evalS cf G wf (.asg i e) ρ M = some (.nx (ρ.set i (some w)) M1) := by
  rw [evalS, h]
theorem x_neg {n : Int} (ha : evalE cf G wf a ρ M = some (.d (.int n), M1)) : evalE cf G wf (.neg a) ρ M = some (.d (.int (-n)), M1) := by
  simp [evalE, evalEs, evalB, evalIt, evalS, evalSs, evalTg, allB, allI, deref_d, deref_m, derefR_d, derefR_m, derefR_r, db_len, db_abs, db_int, db_all, db_any, db_sum, db_tuple, db_list, db_max, db_min, db_gcd, db_isi, derefs_nil, derefs_cons, plain_nil, plain_d, give_f, give_t, p_add, p_addT, p_addL, p_sub, p_mul, p_fdiv, p_mod, p_pow, p_lt, p_le, p_gt, p_ge, p_ixL, p_ixT, at_0, at_1, at_2, at_n, p_eqI, p_neI, s_nn, s_bb, s_in, s_bn, s_tn, s_ln, s_sn, s_nb, s_ib, s_tb, s_lb, s_sb, p_is, p_isn, q_lenL, q_lenT, q_abs, q_int, q_intb, q_all, q_any, q_sum, q_tupL, q_tupT, q_lstL, q_lstT, q_max, q_min, q_gcd, q_isi, t_tt, t_tl, t_ti, t_tb, t_tn, t_ts, t_it, t_il, t_ii, t_ib, t_in, t_is, t_bt, t_bl, t_bi, t_bb, t_bn, t_bs, t_st, t_sl, t_si, t_sb, t_sn, t_ss, r_none, r_bool, r_int, r_list, r_tup, f_d, st_m, pl_n, pl_0, pl_1, m_app, m_pop, tof_s, bt_v, sw_c, sw_n, ag_a, ha]
end
/-- 1 by j + 1 -/
def iv (j : Nat) : Rat := ⟨1, j + 1, by omega, Nat.gcd_one_left _⟩
theorem enc_iv (j : Nat) : enc (iv j) = pr 1 ((j + 1 : Nat) : Int) := rfl
theorem iv_eq (j : Nat) : iv j = 1 / ((j : Rat) + 1) := by
  have h1 := den_num (iv j)
  have h2 : (((iv j).den : Nat) : Rat) = (j : Rat) + 1 := by
    show ((j + 1 : Nat) : Rat) = _
    rw [Rat.natCast_add]; rfl
  have h3 : (((iv j).num : Int) : Rat) = 1 := rfl
  rw [h2, h3] at h1
  have h4 := inv_pos j
  generalize 1 / ((j : Rat) + 1) = d at *
  generalize iv j = u at *
  generalize (j : Rat) = y at *
  have : (y + 1) * u * d = d := by rw [h1]; grind
  have e : (y + 1) * u * d = u * (d * (y + 1)) := by grind
  rw [e, h4] at this
  grind
def rw' (g : Nat → Rat) (j n : Nat) : List Rat := (List.range n).map (dfs j g)
theorem rw_at {g : Nat → Rat} {j n i : Nat} (h : i < n) : (rw' g j n)[i]? = some (dfs j g i) := by
  unfold rw'
  rw [List.getElem?_map, List.getElem?_range h]
  rfl
theorem rw_len (g : Nat → Rat) (j n : Nat) : (rw' g j n).length = n := by
  unfold rw'
  rw [List.length_map, List.length_range]
section
variable {G : List PyData} {wf : Nat} {M : Mem} {fs : List Fn} {B v m L k i s u o mi e1 c z p a r N : Nat} {g : Nat → Rat}
theorem thL_eq [FA fs mi (pMinus r)] [MK fs G wf r N] {n j : Nat} {x0 x2 x3 x4 : Option W} (hg : Qbs B (v + j) m (rw' g j n)) (hB : 0 < B) (hB2 : B ≤ 256) (hN : 16 * m + 2 ≤ N) (hv : 2 * (v + j) + 16 * m + 2 < 100000000) (hn : n ≤ 100000) :
    evalE (callF fs G wf (k + 8)) G wf (thL mi) [x0, some (.d (.list (encs (rw' g j n)))), x2, x3, x4, none, none] M = some (.d (.list (encs (rw' g (j + 1) (n - 1)))), M) ∧ Qbs B (v + (j + 1)) m (rw' g (j + 1) (n - 1)) := by
  have hsz := sizeLine_eq
  have a1 : evalE (callF fs G wf (k + 8)) G wf (.var 1) [x0, some (.d (.list (encs (rw' g j n)))), x2, x3, x4, none, none] M = some (.d (.list (encs (rw' g j n))), M) := e_var rfl
  have a2 : evalE (callF fs G wf (k + 8)) G wf (.slc false true false (.var 1) (.lit (.int 1)) (.lit .none)) [x0, some (.d (.list (encs (rw' g j n)))), x2, x3, x4, none, none] M = some (.d (.list ((encs (rw' g j n)).drop 1)), M) := x_dropL (n := 1) a1 e_lit
  have hit : evalIt (callF fs G wf (k + 8)) G wf (.zip (.var 1) (.slc false true false (.var 1) (.lit (.int 1)) (.lit .none))) [x0, some (.d (.list (encs (rw' g j n)))), x2, x3, x4, none, none] M = some (.its (zips (encs (rw' g j n)) ((encs (rw' g j n)).drop 1)), M) := by
    rw [evalIt, a1]
    dsimp only
    rw [a2]
    rfl
  have hlen : (zips (encs (rw' g j n)) ((encs (rw' g j n)).drop 1)).length = n - 1 := by
    rw [zips_len, List.length_drop, List.length_map, rw_len]
    omega
  refine ⟨x_comp hit (compL_map _ (encs (rw' g (j + 1) (n - 1))) [] (by rw [hlen, List.length_map, rw_len]) (by rw [hsz, List.length_map, rw_len]; simp; omega) fun i x y hx hy acc ha => ?_) rfl, fun q hq => ?_⟩
  · have hi : i < n - 1 := by rw [← hlen]; exact (List.getElem?_eq_some_iff.mp hx).1
    obtain ⟨x1, x2', h1, h2, rfl⟩ := zips_at hx
    rw [List.getElem?_drop, List.getElem?_map, rw_at (by omega)] at h2
    rw [List.getElem?_map, rw_at (by omega)] at h1
    rw [List.getElem?_map, rw_at hi] at hy
    have h1 : enc (dfs j g i) = x1 := Option.some.inj h1
    have h2 : enc (dfs j g (1 + i)) = x2' := Option.some.inj h2
    have hy : enc (dfs (j + 1) g i) = y := Option.some.inj hy
    subst h1 h2 hy
    have e3 : dfs (j + 1) g i = dfs j g (1 + i) - dfs j g i := by rw [dfs_df, Nat.add_comm 1 i]; rfl
    have q1 := hg _ (List.mem_of_getElem? (rw_at (g := g) (j := j) (n := n) (i := i) (by omega)))
    have q2 := hg _ (List.mem_of_getElem? (rw_at (g := g) (j := j) (n := n) (i := 1 + i) (by omega)))
    have e4 := minus_enc (fs := fs) (G := G) (wf := wf) (M := M) (i := mi) (k := k + 7) (N := N) FA.h (MK.h (k + 5)) hB hB2 q2 q1 (by omega) (by omega)
    rw [e3]
    refine tc_go (ρ2 := [x0, some (.d (.list (encs (rw' g j n)))), x2, x3, x4, some (.d (enc (dfs j g i))), some (.d (enc (dfs j g (1 + i))))]) rfl t_lit ?_ ha
    exact x_callE (es_cons (e_var rfl) (es_cons (e_var rfl) es_nil)) e4
  · obtain ⟨i, hi⟩ := List.getElem?_of_mem hq
    have hi2 : i < n - 1 := by
      have := (List.getElem?_eq_some_iff.mp hi).1
      rw [rw_len] at this
      exact this
    rw [rw_at hi2] at hi
    have hi : dfs (j + 1) g i = q := Option.some.inj hi
    have e3 : dfs (j + 1) g i = dfs j g (i + 1) - dfs j g i := by rw [dfs_df]; rfl
    rw [← hi, e3]
    exact (hg _ (List.mem_of_getElem? (rw_at (g := g) (j := j) (n := n) (i := i + 1) (by omega)))).sub hB (hg _ (List.mem_of_getElem? (rw_at (g := g) (j := j) (n := n) (i := i) (by omega))))
theorem through_eq [FA fs i (pThru s u o mi e1)] [FA fs s (pSum p c)] [FA fs u (pMul z p a c)] [FA fs o (pMulti z a)] [FA fs mi (pMinus r)] [FA fs c (pCut z)] [FA fs p (pPlus r)] [FA fs a (pProd r)] [GA G z (pr 0 1)] [GA G e1 (pr 1 1)] [MK fs G wf r N] [WF wf]
    (hg : Qbs B v m (rw' g 0 L)) (hd : ∀ j, j < L → (j + 1) ∣ B ^ 3) (hL : L ≤ 100) (hB : 0 < B) (hB2 : B ≤ 256) (hN : 16 * (m + 3 * L) + 2 ≤ N) (hv : v + m + L ≤ 100000) :
    ∃ t : List Rat, callF fs G wf (k + 9) i [.d (encP (rw' g 0 L))] M = some (.d (encP t), M) ∧ Tr t ∧ Qbs B (v + 400 * L + 10) (m + 3 * L) t ∧ t.length ≤ L ∧ ∀ x, ev t x = nw L g x := by
  have hsz := sizeLine_eq
  obtain ⟨ρ', M', e, t, s, x4, rfl, hM, h1, h2, h3⟩ := forL_for (f := turnG (callF fs G wf (k + 8)) G wf (.v 4) (thB s u o mi e1)) (xs := irng 0 1 L) (fun j ρ M' => ∃ (t s : List Rat) (x4 : Option W), ρ = [some (.d (encP (rw' g 0 L))), some (.d (.list (encs (rw' g j (L - j))))), some (.d (encP t)), some (.d (encP s)), x4, none, none] ∧ M' = M ∧
      Tr t ∧ Qbs B (v + 400 * j + 10) (m + 3 * j) t ∧ (∀ x, ev t x = nw j g x) ∧ Tr s ∧ Qbs B (1 + 300 * j) (3 * j) s ∧ (∀ x, ev s x = bc j x) ∧ Qbs B (v + j) m (rw' g j (L - j)))
    (fun ρ M' => ∃ (t s : List Rat) (x4 : Option W), ρ = [some (.d (encP (rw' g 0 L))), some (.d (.list (encs (rw' g L (L - L))))), some (.d (encP t)), some (.d (encP s)), x4, none, none] ∧ M' = M ∧ Tr t ∧ Qbs B (v + 400 * L + 10) (m + 3 * L) t ∧ ∀ x, ev t x = nw L g x) (fun j x ρ M' hx hI => by
      obtain ⟨rfl, hj⟩ := irng_at hx
      obtain ⟨t, s', x4, rfl, rfl, t1, t2, t3, s1, s2, s3, hr⟩ := hI
      rw [x_turn]
      have tl : t.length ≤ j := by
        obtain ⟨b, b1, b2⟩ := nwL g j
        exact Nat.le_trans (tr_len t1 fun x => by rw [t3, b2]) b1
      have sl : s'.length ≤ j + 1 := by
        obtain ⟨b, b1, b2⟩ := bcL j
        have := tr_len (s := b) s1 fun x => by rw [s3, b2]
        omega
      let ρ0 : Loc := [some (.d (encP (rw' g 0 L))), some (.d (.list (encs (rw' g j (L - j))))), some (.d (encP t)), some (.d (encP s')), some (.d (.int (j : Nat))), none, none]
      have r0 : QE fs G wf k ρ0 M' B (.op2 false .ix (.var 1) (.lit (.int 0))) (v + j) m (dfs j g 0) := by
        have h0 := rw_at (g := g) (j := j) (n := L - j) (i := 0) (by omega)
        refine ⟨x_ixL (e_var rfl) e_lit (by rw [show (0 : Int) = ((0 : Nat) : Int) from rfl, at_n, List.getElem?_map, h0]; rfl), hr _ (List.mem_of_getElem? h0)⟩
      have p3 : PE fs G wf k ρ0 M' B (.var 3) (1 + 300 * j) (3 * j) (j + 1) (bc j) := ⟨s', e_var rfl, s1, s2, sl, s3⟩
      have p2 : PE fs G wf k ρ0 M' B (.var 2) (v + 400 * j + 10) (m + 3 * j) j (nw j g) := ⟨t, e_var rfl, t1, t2, tl, t3⟩
      have q1 := (pe_multi (i := o) (z := z) (o := a) (r := r) (N := N) r0 p3 (hB := hB) (hB2 := hB2) (hN := by omega) (hv := by omega) (hL := by omega)).mono (w := v + 400 * j + 10) (l := m + 3 * j) (K := j + 1) (h1 := by omega) (h2 := by omega) (h3 := by omega)
      obtain ⟨t', c1, c2, c3, c4, c5⟩ := pe_sum (i := s) (p := p) (c := c) (z := z) (r := r) (N := N) p2 q1 (hB := hB) (hB2 := hB2) (hN := by omega) (hv := by omega) (hL := by omega) (hK := by omega)
      let ρ1 : Loc := [some (.d (encP (rw' g 0 L))), some (.d (.list (encs (rw' g j (L - j))))), some (.d (encP t')), some (.d (encP s')), some (.d (.int (j : Nat))), none, none]
      obtain ⟨d1, d2⟩ := thL_eq (fs := fs) (G := G) (wf := wf) (r := r) (k := k) (M := M') (mi := mi) (x0 := some (.d (encP (rw' g 0 L)))) (x2 := some (.d (encP t'))) (x3 := some (.d (encP s'))) (x4 := some (.d (.int (j : Nat)))) hr hB hB2 (N := N) (by omega) (by omega) (by omega)
      rw [show L - j - 1 = L - (j + 1) by omega] at d1 d2
      let ρ2 : Loc := [some (.d (encP (rw' g 0 L))), some (.d (.list (encs (rw' g (j + 1) (L - (j + 1)))))), some (.d (encP t')), some (.d (encP s')), some (.d (.int (j : Nat))), none, none]
      have p3' : PE fs G wf k ρ2 M' B (.var 3) (1 + 300 * j) (3 * j) (j + 1) (bc j) := ⟨s', e_var rfl, s1, s2, sl, s3⟩
      have lin : PE fs G wf k ρ2 M' B (.tup (.cons (.tup (.cons (.neg (.var 4)) (.cons (.lit (.int 1)) .nil))) (.cons (.glb e1) .nil))) 8 0 2 (fun x => ((-(j : Int) : Int) : Rat) + x) := by
        have i4 : evalE (callF fs G wf (k + 8)) G wf (.neg (.var 4)) ρ2 M' = some (.d (.int (-(j : Int))), M') := x_neg (e_var rfl)
        have hs : sm 7 (-(j : Int)) := by show (-(j : Int)).natAbs < 128; omega
        obtain ⟨h1, _⟩ := qe_int (B := B) ⟨i4, hs⟩
        have h2 : evalE (callF fs G wf (k + 8)) G wf (.glb e1) ρ2 M' = some (.d (pr 1 1), M') := e_glb GA.h
        refine ⟨[((-(j : Int) : Int) : Rat), 1], e_tup (es_cons h1 (es_cons h2 es_nil)) rfl (by rw [hsz]; show 2 ≤ _; decide), fun q hq => ?_, qbs_lin hs, Nat.le_refl _, fun x => ev_lin _ _⟩
        simp at hq
        rw [← hq]; decide
      have fac : QE fs G wf k ρ2 M' B (.tup (.cons (.lit (.int 1)) (.cons (.op2 false .add (.var 4) (.lit (.int 1))) .nil))) 1 3 (iv j) := by
        have i5 : evalE (callF fs G wf (k + 8)) G wf (.op2 false .add (.var 4) (.lit (.int 1))) ρ2 M' = some (.d (.int ((j + 1 : Nat) : Int)), M') := x_opG (x := .int (j : Nat)) (y := .int 1) (M1 := M') (e_var rfl) e_lit p_add (by decide)
        refine ⟨by rw [enc_iv]; exact e_tup (es_cons e_lit (es_cons i5 es_nil)) rfl (by rw [hsz]; show 2 ≤ _; decide), ?_, hd j hj⟩
        show 1 < 2 ^ 1 * (j + 1)
        omega
      obtain ⟨s2', f1, f2, f3, f4, f5⟩ := pe_multi (i := o) (z := z) (o := a) (r := r) (N := N) fac (pe_mul (i := u) (z := z) (p := p) (o := a) (c := c) (r := r) (N := N) p3' lin (hB := hB) (hB2 := hB2) (hN := by omega) (hv := by omega) (hL := by omega) (hK := by omega)) (hB := hB) (hB2 := hB2) (hN := by omega) (hv := by omega) (hL := by omega)
      refine ⟨_, _, .inl ⟨x_cons (ρ' := ρ1) (M' := M') (x_asg c1) (x_cons (ρ' := ρ2) (M' := M') (x_asg d1) (x_cons (x_asg f1) (by rw [evalSs]; rfl))), t', s2', some (.d (.int (j : Nat))), rfl, rfl, c2, c3.mono (by omega) (by omega), fun x => ?_, f2, f3.mono (by omega) (by omega), fun x => ?_, ?_⟩⟩
      · rw [c5]; rfl
      · rw [f5]
        show iv j * (bc j x * (((-(j : Int) : Int) : Rat) + x)) = 1 / ((j : Rat) + 1) * (bc j x * (-(j : Rat) + x))
        rw [iv_eq, Rat.intCast_neg]
        rfl
      · exact d2) (fun ρ M' hI => by
      rw [irng_length] at hI
      obtain ⟨t, s', x4, rfl, rfl, t1, t2, t3, s1, s2, s3, hr⟩ := hI
      exact ⟨t, s', x4, rfl, rfl, t1, t2, t3⟩) (ρ := [some (.d (encP (rw' g 0 L))), some (.d (.list (encs (rw' g 0 (L - 0))))), some (.d (encP [])), some (.d (encP [1])), none, none, none]) (M := M) ⟨[], [1], none, rfl, rfl, fun q h => (by cases h), fun q h => (by cases h), fun x => rfl, fun q h => by
        injection h with h
        rw [← h]; decide, fun q h => by
        simp at h
        subst h
        exact qb_one (v := 0), fun x => by show 1 + x * 0 = 1; grind, hg⟩
  rw [hM] at e
  have tl : t.length ≤ L := by
    obtain ⟨b, b1, b2⟩ := nwL g L
    exact Nat.le_trans (tr_len h1 fun x => by rw [h3, b2]) b1
  have l1 : evalE (callF fs G wf (k + 8)) G wf (.blt false .list (.cons (.var 0) .nil)) [some (.d (encP (rw' g 0 L))), none, none, none, none, none, none] M = some (.d (.list (encs (rw' g 0 L))), M) := by simp [evalE, evalEs, evalB, evalIt, evalS, evalSs, evalTg, allB, allI, deref_d, deref_m, derefR_d, derefR_m, derefR_r, db_len, db_abs, db_int, db_all, db_any, db_sum, db_tuple, db_list, db_max, db_min, db_gcd, db_isi, derefs_nil, derefs_cons, plain_nil, plain_d, give_f, give_t, p_add, p_addT, p_addL, p_sub, p_mul, p_fdiv, p_mod, p_pow, p_lt, p_le, p_gt, p_ge, p_ixL, p_ixT, at_0, at_1, at_2, at_n, p_eqI, p_neI, s_nn, s_bb, s_in, s_bn, s_tn, s_ln, s_sn, s_nb, s_ib, s_tb, s_lb, s_sb, p_is, p_isn, q_lenL, q_lenT, q_abs, q_int, q_intb, q_all, q_any, q_sum, q_tupL, q_tupT, q_lstL, q_lstT, q_max, q_min, q_gcd, q_isi, t_tt, t_tl, t_ti, t_tb, t_tn, t_ts, t_it, t_il, t_ii, t_ib, t_in, t_is, t_bt, t_bl, t_bi, t_bb, t_bn, t_bs, t_st, t_sl, t_si, t_sb, t_sn, t_ss, r_none, r_bool, r_int, r_list, r_tup, f_d, st_m, pl_n, pl_0, pl_1, m_app, m_pop, tof_s, bt_v, sw_c, sw_n, ag_a]
  have l3 : ∀ ρ : Loc, evalE (callF fs G wf (k + 8)) G wf (.tup (.cons (.glb e1) .nil)) ρ M = some (.d (encP [1]), M) := fun ρ => e_tup (es_cons (e_glb GA.h) es_nil) rfl (by rw [hsz]; show 1 ≤ _; decide)
  have hr : evalIt (callF fs G wf (k + 8)) G wf (.rng (.cons (.blt false .len (.cons (.var 0) .nil)) .nil)) [some (.d (encP (rw' g 0 L))), some (.d (.list (encs (rw' g 0 L)))), some (.d (encP [])), some (.d (encP [1])), none, none, none] M = some (.its (irng 0 1 L), M) := by
    have := len_rng (cf := callF fs G wf (k + 8)) (G := G) (wf := wf) (M := M) (f := rw' g 0 L) (e := .var 0) (ρ := [some (.d (encP (rw' g 0 L))), some (.d (.list (encs (rw' g 0 L)))), some (.d (encP [])), some (.d (encP [1])), none, none, none]) (e_var rfl) (by rw [rw_len]; omega)
    rw [rw_len] at this
    exact this
  refine ⟨t, ?_, h1, h2, tl, h3⟩
  exact ret_d (k := k + 8) FA.h rfl (x_cons (x_asg l1) (x_cons (x_asg (w := .d (encP [])) (M1 := M) (e_tup es_nil rfl (Nat.zero_le _))) (x_cons (x_asg (l3 _)) (x_cons (x_for hr e) (x_stop (x_ret (e_var rfl)))))))
end
end EV

/-! EvZ18: poly_sum; polynomials by digits. -/
namespace EV
open PySem
section
variable {cf : Nat → List W → Mem → Option (W × Mem)} {G : List PyData} {wf : Nat} {ρ : Loc} {M M1 M2 M3 : Mem} {a b : E}
theorem x_ixMG {n : Nat} {xs : List PyData} {i : Int} {x : PyData} (ha : evalE cf G wf a ρ M = some (.m n, M1)) (hb : evalE cf G wf b ρ M1 = some (.d (.int i), M2)) (hM : M2[n]? = some (.lst xs)) (hx : at_ xs i = some x) : evalE cf G wf (.op2 false .ix a b) ρ M = some (.d x, M2) := by
  rw [evalE, ha]
  dsimp only
  rw [hb]
  simp only [if_true, derefR_m, deref_m, hM, deref_d, p_ixL, hx, give_f]
theorem x_app {n : Nat} {xs : List PyData} {x : PyData} (ha : evalE cf G wf a ρ M = some (.m n, M)) (hM0 : M[n]? = some (.lst xs)) (hb : evalE cf G wf b ρ M = some (.d x, M)) (hl : xs.length < sizeLine) : evalS cf G wf (.expr (.meth .append a (.cons b .nil))) ρ M = some (.nx ρ (M.set n (.lst (xs ++ [x])))) := by
  rw [evalS, evalE, ha]
  simp only [deref_m, hM0]
  rw [es_cons hb es_nil]
  simp only [m_app, hM0, if_pos hl]
theorem x_tupM {n : Nat} {xs : List PyData} (ha : evalE cf G wf a ρ M = some (.m n, M)) (hM : M[n]? = some (.lst xs)) : evalE cf G wf (.blt false .tuple (.cons a .nil)) ρ M = some (.d (.tuple xs), M) := by
  rw [evalE, es_cons ha es_nil]
  simp only [db_tuple, derefs_cons, derefs_nil, deref_m, hM, q_tupL, give_f]
theorem x_lstM {es : Es} {ws : List W} {xs : List PyData} (h : evalEs cf G wf es ρ M = some (ws, M1)) (hp : plain ws = some xs) (hl : xs.length ≤ sizeLine) : evalE cf G wf (.lst true es) ρ M = some (.m M1.length, M1 ++ [.lst xs]) := by
  rw [evalE, h]
  simp only [hp, if_pos hl, give_t]
end
def psB (p vl : Nat) : Ss := .cons (.expr (.meth .append (.var 1) (.cons (.call p (.cons (.op2 false .ix (.var 1) (.neg (.lit (.int 1)))) (.cons (.call vl (.cons (.var 0) (.cons (.tup (.cons (.var 2) (.cons (.lit (.int 1)) .nil))) .nil))) .nil))) .nil))) .nil
def pPSum (z p vl th : Nat) : Fn := ⟨1, 3,
  (.cons (.asg 1 (.lst true (.cons (.glb z) .nil)))
  (.cons (.fr (.v 2) (.rng (.cons (.blt false .len (.cons (.var 0) .nil)) .nil)) (psB p vl))
  (.cons (.ret (.call th (.cons (.blt false .tuple (.cons (.var 1) .nil)) .nil)))
  .nil)))⟩
theorem rw_succ (g : Nat → Rat) (n : Nat) : rw' g 0 (n + 1) = rw' g 0 n ++ [g n] := by
  unfold rw'
  rw [List.range_succ, List.map_append]
  rfl
section
variable {G : List PyData} {wf : Nat} {M : Mem} {fs : List Fn} {B v m L k i s u o mi e1 c z z2 p a r N vl th : Nat} {f : List Rat}
theorem psum_eq [FA fs i (pPSum z2 p vl th)] [FA fs vl (pValE (.glb z) p a)] [FA fs th (pThru s u o mi e1)] [FA fs s (pSum p c)] [FA fs u (pMul z p a c)] [FA fs o (pMulti z a)] [FA fs mi (pMinus r)] [FA fs c (pCut z)] [FA fs p (pPlus r)] [FA fs a (pProd r)] [GA G z (pr 0 1)] [GA G z2 (pr 0 1)] [GA G e1 (pr 1 1)] [MK fs G wf r N] [WF wf]
    (hf : Qbs B v m f) (hd : ∀ j, j < f.length + 1 → (j + 1) ∣ B ^ 3) (hL : f.length ≤ 20) (hB : 0 < B) (hB2 : B ≤ 256) (hN : 16 * (m + 3 * (f.length + 1)) + 2 ≤ N) (hv : v + m ≤ 90000) :
    ∃ t : List Rat, callF fs G wf (k + 10) i [.d (encP f)] M = some (.d (encP t), M) ∧ Tr t ∧ Qbs B (v + 500 * (f.length + 1)) (m + 3 * (f.length + 1)) t ∧ t.length ≤ f.length + 1 ∧ (∀ x, ev t (x + 1) - ev t x = ev f x) ∧ ev t 0 = 0 := by
  have hsz := sizeLine_eq
  let g := sumN fun n => ev f (n : Rat)
  obtain ⟨ρ', M', e, x2, rfl, rfl, hq⟩ := forL_for (f := turnG (callF fs G wf (k + 9)) G wf (.v 2) (psB p vl)) (xs := irng 0 1 f.length) (fun j ρ M' => ∃ (x2 : Option W), ρ = [some (.d (encP f)), some (.m M.length), x2] ∧ M' = mM M (rw' g 0 (j + 1)) ∧ Qbs B (v + 8 * f.length + j) m (rw' g 0 (j + 1)))
    (fun ρ M' => ∃ (x2 : Option W), ρ = [some (.d (encP f)), some (.m M.length), x2] ∧ M' = mM M (rw' g 0 (f.length + 1)) ∧ Qbs B (v + 8 * f.length + f.length) m (rw' g 0 (f.length + 1))) (fun j x ρ M' hx hI => by
      obtain ⟨rfl, hj⟩ := irng_at hx
      obtain ⟨x2, rfl, rfl, hq⟩ := hI
      rw [x_turn]
      let ρ0 : Loc := [some (.d (encP f)), some (.m M.length), some (.d (.int (j : Nat)))]
      have htop : (mM M (rw' g 0 (j + 1)))[M.length]? = some (.lst (encs (rw' g 0 (j + 1)))) := top_get
      have hj1 := rw_at (g := g) (j := 0) (n := j + 1) (i := j) (by omega)
      have hlast : at_ (encs (rw' g 0 (j + 1))) (-1) = some (enc (g j)) := by
        rw [at_last, rw_succ, show encs (rw' g 0 j ++ [g j]) = encs (rw' g 0 j) ++ [enc (g j)] from List.map_append]
        simp
      have i1 : QE fs G wf (k + 1) ρ0 (mM M (rw' g 0 (j + 1))) B (.op2 false .ix (.var 1) (.neg (.lit (.int 1)))) (v + 8 * f.length + j) m (g j) :=
        ⟨x_ixMG (e_var rfl) (x_neg e_lit) htop hlast, hq _ (List.mem_of_getElem? hj1)⟩
      have hs : sm 7 (j : Int) := by show (j : Int).natAbs < 128; omega
      have pf : PE fs G wf (k + 1) ρ0 (mM M (rw' g 0 (j + 1))) B (.var 0) v m f.length (ev (cutR f)) → True := fun _ => trivial
      have hval := val_eq (fs := fs) (G := G) (wf := wf) (M := mM M (rw' g 0 (j + 1))) (k := k + 7) (i := vl) (N := N) (e0 := .glb z) FA.h (fun ρ => e_glb GA.h) FA.h FA.h (MK.h (k + 5)) hB hB2 hf (qb_int (B := B) hs) (by omega) (by omega)
      have i2 : QE fs G wf (k + 1) ρ0 (mM M (rw' g 0 (j + 1))) B (.call vl (.cons (.var 0) (.cons (.tup (.cons (.var 2) (.cons (.lit (.int 1)) .nil))) .nil))) (v + 8 * f.length + j) m (ev f (j : Nat)) := by
        refine ⟨x_callE (args2 (e_var rfl) (qe_int (B := B) (ie_var (a := (j : Int)) rfl hs)).1) hval.1, ?_⟩
        exact hval.2.mono (by omega) (by omega)
      have i3 := qe_plus (i := p) (r := r) (N := N) i1 i2 (hB := hB) (hB2 := hB2) (hN := by omega) (hv := by omega)
      have hset : (mM M (rw' g 0 (j + 1))).set M.length (.lst (encs (rw' g 0 (j + 1)) ++ [enc (g j + ev f (j : Nat))])) = mM M (rw' g 0 (j + 1 + 1)) := by
        rw [show mM M (rw' g 0 (j + 1)) = M ++ [.lst (encs (rw' g 0 (j + 1)))] from rfl, top_set, rw_succ g (j + 1)]
        show _ = M ++ [.lst (encs (rw' g 0 (j + 1) ++ [g (j + 1)]))]
        rw [show encs (rw' g 0 (j + 1) ++ [g (j + 1)]) = encs (rw' g 0 (j + 1)) ++ [enc (g (j + 1))] from List.map_append]
        rfl
      have st := x_app (a := .var 1) (e_var rfl) htop i3.1 (by rw [hsz, List.length_map, rw_len]; omega)
      rw [hset] at st
      refine ⟨_, _, .inl ⟨x_cons st (by rw [evalSs]), _, rfl, rfl, fun q hq2 => ?_⟩⟩
      rw [rw_succ g (j + 1)] at hq2
      rcases List.mem_append.mp hq2 with hq2 | hq2
      · exact (hq q hq2).mono (by omega) (Nat.le_refl _)
      · simp at hq2
        subst hq2
        exact i3.2.mono (by omega) (Nat.le_refl _)) (fun ρ M' hI => by
      rw [irng_length] at hI
      exact hI) (ρ := [some (.d (encP f)), some (.m M.length), none]) (M := mM M (rw' g 0 (0 + 1))) ⟨none, rfl, rfl, fun q hq => by
        have : q = 0 := by
          simp [rw', dfs] at hq
          rw [hq]; rfl
        subst this
        exact qb_zero⟩
  obtain ⟨t, c1, c2, c3, c4, c5⟩ := through_eq (fs := fs) (G := G) (wf := wf) (M := mM M (rw' g 0 (f.length + 1))) (k := k) (i := th) (N := N) (L := f.length + 1) hq hd (by omega) hB hB2 hN (by omega)
  have htop : (mM M (rw' g 0 (f.length + 1)))[M.length]? = some (.lst (encs (rw' g 0 (f.length + 1)))) := top_get
  have a1 : evalE (callF fs G wf (k + 9)) G wf (.lst true (.cons (.glb z2) .nil)) [some (.d (encP f)), none, none] M = some (.m M.length, mM M (rw' g 0 (0 + 1))) :=
    x_lstM (xs := [pr 0 1]) (es_cons (e_glb GA.h) es_nil) rfl (by rw [hsz]; show 1 ≤ _; decide)
  have hr := len_rng (cf := callF fs G wf (k + 9)) (G := G) (wf := wf) (M := mM M (rw' g 0 (0 + 1))) (f := f) (e := .var 0) (ρ := [some (.d (encP f)), some (.m M.length), none]) (e_var rfl) (by omega)
  have fin := x_fin (fs := fs) (G := G) (wf := wf) (k := k + 9) (i := i) (ws := [.d (encP f)]) (M := M) (x := encP t) (M1 := mM M (rw' g 0 (f.length + 1))) (FA.h (fs := fs) (i := i) (fn := pPSum z2 p vl th)) rfl
    (x_cons (x_asg a1) (x_cons (x_for hr e) (x_stop (x_ret (x_callE (es_cons (x_tupM (e_var rfl) htop) es_nil) c1)))))
  rw [show (mM M (rw' g 0 (f.length + 1))).take M.length = M from top_take] at fin
  refine ⟨t, fin, c2, c3.mono (by omega) (by omega), c4, fun x => ?_, ?_⟩
  · rw [c5, c5]
    exact nw_sum (Nat.le_refl _) x
  · rw [c5]
    exact nw_zero g f.length
end
/-! ### _law_poly -/
def lpI (d : Nat) : It := .rng (.cons (.op2 false .add (.lit (.int 1)) (.call d (.cons (.var 0) (.cons (.op2 false .add (.var 1) (.lit (.int 1))) .nil)))) .nil)
def lpE (d : Nat) : E := .tup (.cons (.op2 false .sub (.call d (.cons (.var 0) (.cons (.op2 false .add (.op2 false .mul (.lit (.int 2)) (.var 2)) (.lit (.int 1))) .nil))) (.var 2)) (.cons (.lit (.int 1)) .nil))
def lPoly (d t : Nat) : Fn := ⟨3, 4,
  (.cons (.ret (.call t (.cons (.comp false [3] (.v 3) (lpI d) (.lit (.bool true)) (lpE d)) .nil)))
  .nil)⟩
section
variable {fs : List Fn} {G : List PyData} {wf : Nat} {R : Mem} {ds : List Int} {d t' i k N B v hi s : Nat}
theorem lpoly_eq {t : Nat} [FA fs i (lPoly d t')] [FA fs d lDraw] [FA fs t' lTrim] [WF wf] (hhi : hi ≤ 100) (hs : s < 2 ^ v) (hs2 : s ≤ 1000) :
    ∃ (f : List Rat) (u : Nat), callF fs G wf (k + 2) i [.m 0, .d (.int (hi : Nat)), .d (.int (s : Nat))] (bx ds t :: R) = some (.d (encP f), bx ds u :: R) ∧ Tr f ∧ Qbs B v 0 f ∧ f.length ≤ hi + 1 := by
  have hw : 1000000 ≤ wf := WF.h
  have fin : ∀ {x : PyData} {u : Nat}, evalSs (callF fs G wf (k + 1)) G wf (lPoly d t').body [some (.m 0), some (.d (.int (hi : Nat))), some (.d (.int (s : Nat))), none] (bx ds t :: R) = some (.ret (.d x) (bx ds u :: R)) → callF fs G wf (k + 2) i [.m 0, .d (.int (hi : Nat)), .d (.int (s : Nat))] (bx ds t :: R) = some (.d x, bx ds u :: R) := fun hb => by
    rw [x_fin FA.h rfl (by exact hb), List.take_of_length_le (by simp)]
  have e1 : evalE (callF fs G wf (k + 1)) G wf (.op2 false .add (.var 1) (.lit (.int 1))) [some (.m 0), some (.d (.int (hi : Nat))), some (.d (.int (s : Nat))), none] (bx ds t :: R) = some (.d (.int ((hi : Int) + 1)), bx ds t :: R) := x_opJ (e_var rfl) e_lit p_add (by decide)
  obtain ⟨n, n0, n1, hn⟩ := drawX (fs := fs) (G := G) (wf := wf) (k := k) (d := d) (M := bx ds t :: R) (b := 0) (ds := ds) (t := t) (e := .op2 false .add (.var 1) (.lit (.int 1))) (ρ := [some (.m 0), some (.d (.int (hi : Nat))), some (.d (.int (s : Nat))), none]) (i := 0) FA.h rfl (by simp) (by omega) e1
  obtain ⟨L, hL, hL3⟩ : ∃ L : Nat, 1 + n = (L : Int) ∧ L ≤ hi + 1 := ⟨(1 + n).toNat, by omega, by omega⟩
  have hit : evalIt (callF fs G wf (k + 1)) G wf (lpI d) [some (.m 0), some (.d (.int (hi : Nat))), some (.d (.int (s : Nat))), none] (bx ds t :: R) = some (.its (irng 0 1 L), bx ds (t + 1) :: R) := by
    have e1 : evalE (callF fs G wf (k + 1)) G wf (.op2 false .add (.lit (.int 1)) (.call d (.cons (.var 0) (.cons (.op2 false .add (.var 1) (.lit (.int 1))) .nil)))) [some (.m 0), some (.d (.int (hi : Nat))), some (.d (.int (s : Nat))), none] (bx ds t :: R) = some (.d (.int (L : Int)), bx ds (t + 1) :: R) := by
      rw [← hL]
      exact x_opJ (x := 1) (M1 := bx ds t :: R) (by rw [evalE]) hn p_add (by decide)
    have h3 : plain [.d (.int (L : Int))] = some [.int (L : Int)] := by rw [plain_d, plain_nil, Option.map_some]
    exact x_rng (es_cons e1 es_nil) h3 (rng_n (by omega))
  obtain ⟨acc, M', e, u, f, rfl, rfl, hq, hl⟩ := compL_inv (f := tc (callF fs G wf (k + 1)) G wf [3] (.v 3) (.lit (.bool true)) (lpE d) [some (.m 0), some (.d (.int (hi : Nat))), some (.d (.int (s : Nat))), none]) (fun j acc M => ∃ (u : Nat) (f : List Rat), acc = encs f ∧ M = bx ds u :: R ∧ Qbs B v 0 f ∧ f.length = j) (irng 0 1 L) 0 [] (bx ds (t + 1) :: R) ⟨t + 1, [], rfl, rfl, fun q hq => (by cases hq), rfl⟩ (fun j x acc M hx hI => by
    obtain ⟨rfl, hj⟩ := irng_at hx
    obtain ⟨u, f, rfl, rfl, hq, hl⟩ := hI
    let ρ2 : Loc := [some (.m 0), some (.d (.int (hi : Nat))), some (.d (.int (s : Nat))), some (.d (.int (j : Nat)))]
    have em : evalE (callF fs G wf (k + 1)) G wf (.op2 false .add (.op2 false .mul (.lit (.int 2)) (.var 2)) (.lit (.int 1))) ρ2 (bx ds u :: R) = some (.d (.int (2 * (s : Int) + 1)), bx ds u :: R) := by
      refine x_opJ (x_opJ (x := 2) (y := (s : Int)) e_lit (e_var rfl) (z := .int (2 * (s : Int))) ?_ (by decide)) e_lit p_add (by decide)
      rw [p_mul, if_pos ok2]
    obtain ⟨c, c0, c1, hc⟩ := drawX (fs := fs) (G := G) (wf := wf) (k := k) (d := d) (M := bx ds u :: R) (b := 0) (ds := ds) (t := u) (e := .op2 false .add (.op2 false .mul (.lit (.int 2)) (.var 2)) (.lit (.int 1))) (ρ := ρ2) (i := 0) FA.h rfl (by simp) (by omega) em
    have e2 : evalE (callF fs G wf (k + 1)) G wf (.op2 false .sub (.call d (.cons (.var 0) (.cons (.op2 false .add (.op2 false .mul (.lit (.int 2)) (.var 2)) (.lit (.int 1))) .nil))) (.var 2)) ρ2 (bx ds u :: R) = some (.d (.int (c - s)), bx ds (u + 1) :: R) := x_opJ hc (y := (s : Int)) (M2 := bx ds (u + 1) :: R) (e_var rfl) p_sub (by decide)
    have e3 : evalE (callF fs G wf (k + 1)) G wf (lpE d) ρ2 (bx ds u :: R) = some (.d (enc ((c - s : Int) : Rat)), bx ds (u + 1) :: R) := by
      rw [enc_int]
      exact e_tup (es_cons e2 (es_cons (w := .d (.int 1)) (M1 := bx ds (u + 1) :: R) e_lit es_nil)) rfl (by rw [sizeLine_eq]; show 2 ≤ _; decide)
    refine ⟨encs (f ++ [((c - s : Int) : Rat)]), bx ds (u + 1) :: R, ?_, u + 1, f ++ [((c - s : Int) : Rat)], rfl, rfl, fun z hz => ?_, by rw [List.length_append, hl]; rfl⟩
    · have := tc_goM (own := [3]) (tg := .v 3) (ρ := [some (.m 0), some (.d (.int (hi : Nat))), some (.d (.int (s : Nat))), none]) (ρ2 := ρ2) (x := .int (j : Nat)) (acc := encs f) rfl t_lit e3 (by rw [List.length_map, sizeLine_eq]; omega)
      rw [this, show encs (f ++ [((c - s : Int) : Rat)]) = encs f ++ [enc ((c - s : Int) : Rat)] from List.map_append]
    · rcases List.mem_append.mp hz with hz | hz
      · exact hq z hz
      · rw [List.mem_singleton] at hz
        subst hz
        exact qb_int (show (c - (s : Int)).natAbs < 2 ^ v by omega))
  rw [Nat.zero_add, irng_length] at hl
  have hcomp : evalE (callF fs G wf (k + 1)) G wf (.comp false [3] (.v 3) (lpI d) (.lit (.bool true)) (lpE d)) [some (.m 0), some (.d (.int (hi : Nat))), some (.d (.int (s : Nat))), none] (bx ds t :: R) = some (.d (.list (encs f)), bx ds u :: R) := x_comp hit e rfl
  refine ⟨cutR f, u, fin (x_stop (x_ret (x_callE (es_cons hcomp es_nil) (trim_eq FA.h rfl rfl (by omega) (by omega))))), tr_cut f, hq.cut, Nat.le_trans (cutR_len f) (by omega)⟩
end
end EV

/-! EvZ19: more single steps. -/
namespace EV
open PySem
section
variable {cf : Nat → List W → Mem → Option (W × Mem)} {G : List PyData} {wf : Nat} {ρ ρ2 : Loc} {M M1 M2 M3 : Mem} {a b e c elt : E} {own : List Nat} {tg : T} {x : PyData} {acc : List PyData}
theorem e_len {xs : List PyData} (h : evalE cf G wf e ρ M = some (.d (.tuple xs), M1)) : evalE cf G wf (.blt false .len (.cons e .nil)) ρ M = some (.d (.int (xs.length : Nat)), M1) := by
  rw [evalE, es_cons h es_nil]
  simp only [db_len, derefR_d, Option.map_some, q_lenT, give_f]
theorem e_lenL {xs : List PyData} (h : evalE cf G wf e ρ M = some (.d (.list xs), M1)) : evalE cf G wf (.blt false .len (.cons e .nil)) ρ M = some (.d (.int (xs.length : Nat)), M1) := by
  rw [evalE, es_cons h es_nil]
  simp only [db_len, derefR_d, Option.map_some, q_lenL, give_f]
theorem e_tupL {xs : List PyData} (h : evalE cf G wf e ρ M = some (.d (.list xs), M1)) : evalE cf G wf (.blt false .tuple (.cons e .nil)) ρ M = some (.d (.tuple xs), M1) := by
  rw [evalE, es_cons h es_nil]
  simp only [db_tuple, derefs_cons, derefs_nil, deref_d, q_tupL, give_f]
theorem e_isiT {xs : List PyData} (h : evalE cf G wf e ρ M = some (.d (.tuple xs), M1)) : evalE cf G wf (.blt false (.isi .tuple) (.cons e .nil)) ρ M = some (.d (.bool true), M1) := by
  rw [evalE, es_cons h es_nil]
  simp only [db_isi, derefs_cons, derefs_nil, deref_d, q_isi, t_tt, Option.map_some, give_f]
theorem e_mul {i j : Int} (ha : evalE cf G wf a ρ M = some (.d (.int i), M1)) (hb : evalE cf G wf b ρ M1 = some (.d (.int j), M2)) (h : mulOk i j = true) : evalE cf G wf (.op2 false .mul a b) ρ M = some (.d (.int (i * j)), M2) :=
  x_opG ha hb (by rw [p_mul, if_pos h]) (by decide)
theorem tc_no (hb : bindT tg x (wipeL ρ own) = some ρ2) (hc : testOf (evalE cf G wf c ρ2 M) = some (false, M)) : tc cf G wf own tg c elt ρ x acc M = some (acc, M) := by
  unfold tc
  rw [hb]
  dsimp only
  rw [hc]
theorem x_rngE {n : Nat} (h : evalE cf G wf e ρ M = some (.d (.int (n : Nat)), M1)) (hn : n < 1000000) : evalIt cf G wf (.rng (.cons e .nil)) ρ M = some (.its (irng 0 1 n), M1) := by
  have h3 : plain [.d (.int (n : Int))] = some [.int (n : Int)] := by rw [plain_d, plain_nil, Option.map_some]
  exact x_rng (es_cons h es_nil) h3 (rng_n hn)
end
theorem ne_enc (q : Rat) : prim2 .ne (enc q) (enc q) = some (.bool false) := by
  have := ne_of_eq (eq_pr q.num q.den q.num q.den)
  rw [decide_eq_true ⟨rfl, rfl⟩] at this
  exact this
theorem rw_take {g : Nat → Rat} {j n L : Nat} (h : n ≤ L) : (encs (rw' g j L)).take n = encs (rw' g j n) := by
  unfold rw'
  rw [← List.map_take, ← List.map_take, List.take_range, Nat.min_eq_left h]
theorem pw_int (y : Int) : ∀ k : Nat, ((y ^ k : Int) : Rat) = pw (y : Rat) k
  | 0 => by rw [Int.pow_zero]; rfl
  | k + 1 => by
    rw [Int.pow_succ, Rat.intCast_mul, pw_int y k]
    show pw (y : Rat) k * (y : Rat) = (y : Rat) * pw (y : Rat) k
    grind
theorem ev_app (x : Rat) : ∀ (f g : List Rat), ev (f ++ g) x = ev f x + pw x f.length * ev g x
  | [], g => by show ev g x = 0 + 1 * ev g x; grind
  | c :: f, g => by
    show c + x * ev (f ++ g) x = c + x * ev f x + x * pw x f.length * ev g x
    rw [ev_app x f g]
    grind
theorem sm_pow {y : Int} {n : Nat} (h : sm n y) : ∀ k : Nat, sm (1 + k * n) (y ^ k)
  | 0 => by rw [Int.pow_zero, Nat.zero_mul]; show (1 : Nat) < 2 ^ 1; decide
  | k + 1 => by
    rw [Int.pow_succ]
    exact ((sm_pow h k).mul h).mono (by rw [Nat.add_mul, Nat.one_mul]; omega)
section
variable {fs : List Fn} {G : List PyData} {wf k : Nat} {ρ : Loc} {M : Mem} {B v m L : Nat} {φ : Rat → Rat} {e e1 e2 : E} {q q1 q2 : Rat} {a : Int}
/-- equal ratios, without their sizes -/
theorem same_e (h1 : evalE (callF fs G wf (k + 8)) G wf e1 ρ M = some (.d (enc q1), M)) (h2 : evalE (callF fs G wf (k + 8)) G wf e2 ρ M = some (.d (enc q2), M)) (h : q1 = q2) : SM fs G wf k ρ M 1 e1 e2 := by
  subst h
  exact ⟨_, h1, h2, lk_enc _⟩
theorem e_int1 (h : evalE (callF fs G wf (k + 8)) G wf e ρ M = some (.d (.int a), M)) : evalE (callF fs G wf (k + 8)) G wf (.tup (.cons e (.cons (.lit (.int 1)) .nil))) ρ M = some (.d (enc (a : Rat)), M) := by
  rw [enc_int]
  exact e_tup (es_cons h (es_cons e_lit es_nil)) rfl (by rw [EV.sizeLine_eq]; show 2 ≤ _; decide)
theorem pe_list {t : List Rat} (h : evalE (callF fs G wf (k + 8)) G wf e ρ M = some (.d (encP t), M)) (h1 : Tr t) (h2 : Qbs B v m t) (h3 : t.length ≤ L) : PE fs G wf k ρ M B e v m L (ev t) := ⟨t, h, h1, h2, h3, fun _ => rfl⟩
/-- with the length of any polynomial of the same values -/
theorem PE.len (h : PE fs G wf k ρ M B e v m L φ) (s : List Rat) (hs : ∀ x, ev s x = φ x) {K : Nat} (hK : s.length ≤ K) : PE fs G wf k ρ M B e v m K φ := by
  obtain ⟨t, a1, a2, a3, a4, a5⟩ := h
  exact ⟨t, a1, a2, a3, Nat.le_trans (tr_len a2 fun x => by rw [a5, hs]) hK, a5⟩
end
end EV

/-! EvZ20: rows of polynomials; without what is nought at the end; comprehensions that make polynomials. -/
namespace EV
open PySem
/-! ### what is left without the last ones of a kind -/
def cutG {α : Type} (z : α → Bool) : List α → List α
  | [] => []
  | x :: xs => if (cutG z xs).isEmpty = true ∧ z x = true then [] else x :: cutG z xs
section
variable {α : Type} {z : α → Bool}
theorem cutG_len : ∀ f : List α, (cutG z f).length ≤ f.length
  | [] => Nat.le_refl _
  | x :: xs => by
    rw [cutG]
    have := cutG_len xs
    split
    · exact Nat.zero_le _
    · simp only [List.length_cons]; omega
theorem cutG_take : ∀ f : List α, f.take (cutG z f).length = cutG z f
  | [] => rfl
  | x :: xs => by
    rw [cutG]
    split
    · rfl
    · rw [List.length_cons, List.take_succ_cons, cutG_take xs]
theorem cutG_zero : ∀ (f : List α) (i : Nat) (q : α), (cutG z f).length ≤ i → f[i]? = some q → z q = true
  | [], i, q, _, h => by simp at h
  | x :: xs, i, q, hi, h => by
    rw [cutG] at hi
    split at hi
    · rename_i hc
      cases i with
      | zero => cases h; exact hc.2
      | succ i => exact cutG_zero xs i q (by rw [List.isEmpty_iff.mp hc.1]; exact Nat.zero_le _) (by simpa using h)
    · cases i with
      | zero => simp at hi
      | succ i => exact cutG_zero xs i q (by simpa using hi) (by simpa using h)
theorem cutG_last : ∀ (f : List α) (n : Nat), (cutG z f).length = n + 1 → ∃ q, f[n]? = some q ∧ z q = false
  | [], n, h => by simp [cutG] at h
  | x :: xs, n, h => by
    rw [cutG] at h
    split at h
    · simp at h
    · rename_i hc
      rw [List.length_cons] at h
      cases n with
      | zero =>
        have : cutG z xs = [] := List.length_eq_zero_iff.mp (by omega)
        refine ⟨x, rfl, ?_⟩
        cases hz : z x with
        | false => rfl
        | true => exact absurd ⟨by rw [this]; rfl, hz⟩ hc
      | succ n =>
        obtain ⟨q, h1, h2⟩ := cutG_last xs n (by omega)
        exact ⟨q, by simpa using h1, h2⟩
theorem cutG_end (f : List α) (q : α) (h : (cutG z f).getLast? = some q) : z q = false := by
  rw [List.getLast?_eq_getElem?] at h
  cases hn : (cutG z f).length with
  | zero => rw [hn] at h; rw [List.length_eq_zero_iff.mp hn] at h; cases h
  | succ n =>
    obtain ⟨p, h1, h2⟩ := cutG_last f n hn
    rw [hn, Nat.add_sub_cancel] at h
    have h3 : (cutG z f)[n]? = f[n]? := by
      rw [← cutG_take f, List.getElem?_take, if_pos (by omega)]
    rw [h3, h1] at h
    cases h
    exact h2
theorem cut_loopN {f : List α} {cf : Nat → List W → Mem → Option (W × Mem)} {G : List PyData} {wf : Nat} {M : Mem} {C : E} {b : Ss} {st : Nat → Loc} (t0 : testOf (evalE cf G wf C (st 0) M) = some (false, M)) (t1 : ∀ (e : Nat) (q : α), f[e]? = some q → testOf (evalE cf G wf C (st (e + 1)) M) = some (z q, M))
    (hb : ∀ e : Nat, evalSs cf G wf b (st (e + 1)) M = some (.nx (st e) M)) : ∀ (n e : Nat), (cutG z f).length ≤ e → e ≤ f.length → e < n →
    whileL (fun ρ M => testOf (evalE cf G wf C ρ M)) (fun ρ M => evalSs cf G wf b ρ M) n (st e) M = some (.nx (st (cutG z f).length) M)
  | 0, e, _, _, h => by omega
  | n + 1, e, h1, h2, h3 => by
    unfold whileL
    cases e with
    | zero =>
      have e0 : (cutG z f).length = 0 := by omega
      rw [t0, e0]
    | succ e =>
      have hq : f[e]? = some f[e] := List.getElem?_eq_getElem (by omega)
      rw [t1 e _ hq]
      by_cases hc : (cutG z f).length = e + 1
      · obtain ⟨q, g1, g2⟩ := cutG_last f e hc
        rw [hq] at g1
        cases g1
        rw [g2, hc]
      · have := cutG_zero (z := z) f e _ (by omega) hq
        rw [this]
        dsimp only
        rw [hb]
        exact cut_loopN t0 t1 hb n e (by omega) (by omega) (by omega)
end
/-! ### rows -/
abbrev encPs (ts : List (List Rat)) : List PyData := ts.map encP
abbrev encO (ts : List (List Rat)) : PyData := .tuple (encPs ts)
abbrev topR (ts : List (List Rat)) : List (List Rat) := cutG List.isEmpty ts
/-- no nought at the end -/
def OT (ts : List (List Rat)) : Prop := ∀ t, ts.getLast? = some t → t ≠ []
theorem topR_take (ts : List (List Rat)) : ts.take (topR ts).length = topR ts := cutG_take ts
theorem topR_len (ts : List (List Rat)) : (topR ts).length ≤ ts.length := cutG_len ts
theorem topR_zero (ts : List (List Rat)) (i : Nat) (q : List Rat) (h : (topR ts).length ≤ i) (h2 : ts[i]? = some q) : q.isEmpty = true := cutG_zero (z := List.isEmpty) ts i q h h2
theorem ot_top (ts : List (List Rat)) : OT (topR ts) := fun t h h0 => by
  have := cutG_end ts t h
  rw [h0] at this
  cases this
structure Rw (B v m L : Nat) (t : List Rat) : Prop where
  tr : Tr t
  qb : Qbs B v m t
  ln : t.length ≤ L
theorem Rw.mono {B v m L w l K : Nat} {t : List Rat} (h : Rw B v m L t) (h1 : v ≤ w) (h2 : m ≤ l) (h3 : L ≤ K) : Rw B w l K t := ⟨h.tr, h.qb.mono h1 h2, Nat.le_trans h.ln h3⟩
theorem rw_nil {B v m L : Nat} : Rw B v m L [] := ⟨fun q h => (by cases h), fun q h => (by cases h), Nat.zero_le _⟩
abbrev Rws (B v m L : Nat) (ts : List (List Rat)) : Prop := ∀ t ∈ ts, Rw B v m L t
theorem Rws.top {B v m L : Nat} {ts : List (List Rat)} (h : Rws B v m L ts) : Rws B v m L (topR ts) := fun t ht => h t (by
  rw [← topR_take ts] at ht
  exact List.mem_of_mem_take ht)
abbrev co (ts : List (List Rat)) (i : Nat) : List Rat := ts.getD i []
theorem co_at {ts : List (List Rat)} {i : Nat} {t : List Rat} (h : ts[i]? = some t) : co ts i = t := by
  rw [co, List.getD_eq_getElem?_getD, h]
  rfl
theorem co_out {ts : List (List Rat)} {i : Nat} (h : ts.length ≤ i) : co ts i = [] := by
  rw [co, List.getD_eq_getElem?_getD, List.getElem?_eq_none h]
  rfl
theorem co_rw {B v m L : Nat} {ts : List (List Rat)} (h : Rws B v m L ts) (i : Nat) : Rw B v m L (co ts i) := by
  by_cases hi : i < ts.length
  · have := List.getElem?_eq_getElem hi
    rw [co_at this]
    exact h _ (List.getElem_mem hi)
  · rw [co_out (by omega)]
    exact rw_nil
theorem ev_nil (x : Rat) : ev [] x = 0 := rfl
theorem co_top (ts : List (List Rat)) (i : Nat) : co (topR ts) i = co ts i := by
  by_cases h : i < (topR ts).length
  · have h1 := List.getElem?_eq_getElem h
    have h3 : (topR ts)[i]? = ts[i]? := by
      rw [← topR_take ts, List.getElem?_take, if_pos h]
    rw [co, co, List.getD_eq_getElem?_getD, List.getD_eq_getElem?_getD, h3]
  · rw [co_out (by omega)]
    by_cases h2 : i < ts.length
    · have h1 := List.getElem?_eq_getElem h2
      have := topR_zero ts i _ (by omega) h1
      rw [co_at h1]
      exact (List.isEmpty_iff.mp this).symm
    · rw [co_out (by omega)]
theorem co_set {ts : List (List Rat)} {k : Nat} {d : List Rat} (hk : k < ts.length) (i : Nat) : co (ts.set k d) i = if i = k then d else co ts i := by
  rw [co, co, List.getD_eq_getElem?_getD, List.getElem?_set, List.getD_eq_getElem?_getD]
  by_cases h : k = i
  · subst h
    rw [if_pos rfl, if_pos hk, if_pos rfl]
    rfl
  · rw [if_neg h, if_neg (fun e => h e.symm)]
theorem co_rep (n i : Nat) : co (List.replicate n []) i = [] := by
  by_cases h : i < n
  · exact co_at (List.getElem?_replicate_of_lt h)
  · exact co_out (by rw [List.length_replicate]; omega)
/-! ### sums -/
theorem sumN_congr {f g : Nat → Rat} : ∀ n : Nat, (∀ i, i < n → f i = g i) → sumN f n = sumN g n
  | 0, _ => rfl
  | n + 1, h => by
    show sumN f n + f n = sumN g n + g n
    rw [sumN_congr n fun i hi => h i (by omega), h n (by omega)]
theorem sumN_zero {f : Nat → Rat} : ∀ n : Nat, (∀ i, i < n → f i = 0) → sumN f n = 0
  | 0, _ => rfl
  | n + 1, h => by
    show sumN f n + f n = 0
    rw [sumN_zero n fun i hi => h i (by omega), h n (by omega)]
    grind
theorem sumN_add (f g : Nat → Rat) : ∀ n : Nat, sumN (fun i => f i + g i) n = sumN f n + sumN g n
  | 0 => by show (0 : Rat) = 0 + 0; grind
  | n + 1 => by
    show sumN (fun i => f i + g i) n + (f n + g n) = sumN f n + f n + (sumN g n + g n)
    rw [sumN_add f g n]
    grind
theorem sumN_sub (f g : Nat → Rat) : ∀ n : Nat, sumN (fun i => f i - g i) n = sumN f n - sumN g n
  | 0 => by show (0 : Rat) = 0 - 0; grind
  | n + 1 => by
    show sumN (fun i => f i - g i) n + (f n - g n) = sumN f n + f n - (sumN g n + g n)
    rw [sumN_sub f g n]
    grind
theorem sumN_mul (c : Rat) (f : Nat → Rat) : ∀ n : Nat, sumN (fun i => c * f i) n = c * sumN f n
  | 0 => by show (0 : Rat) = c * 0; grind
  | n + 1 => by
    show sumN (fun i => c * f i) n + c * f n = c * (sumN f n + f n)
    rw [sumN_mul c f n]
    grind
theorem sumN_more {f : Nat → Rat} {m : Nat} : ∀ n : Nat, m ≤ n → (∀ i, m ≤ i → f i = 0) → sumN f n = sumN f m
  | 0, h, _ => by rw [show m = 0 by omega]
  | n + 1, h, h0 => by
    by_cases e : m = n + 1
    · rw [e]
    · show sumN f n + f n = _
      rw [sumN_more n (by omega) h0, h0 n (by omega)]
      grind
theorem sumN_one {f : Nat → Rat} {k : Nat} : ∀ n : Nat, k < n → (∀ i, i ≠ k → f i = 0) → sumN f n = f k
  | 0, h, _ => by omega
  | n + 1, h, h0 => by
    show sumN f n + f n = _
    by_cases e : k = n
    · subst e
      rw [sumN_zero k fun i hi => h0 i (by omega)]
      grind
    · rw [sumN_one n (by omega) h0, h0 n (by omega)]
      grind
/-- the sum of the polynomials' values at x, weighted by w -/
def sw (ts : List (List Rat)) (w : Nat → Rat) (x : Rat) : Rat := sumN (fun i => ev (co ts i) x * w i) ts.length
theorem sw_ge {ts : List (List Rat)} {n : Nat} (h : ts.length ≤ n) (w : Nat → Rat) (x : Rat) : sumN (fun i => ev (co ts i) x * w i) n = sw ts w x :=
  sumN_more n h fun i hi => by rw [co_out hi, ev_nil]; grind
/-- from the coefficients -/
theorem sw_of {ts : List (List Rat)} {c : Nat → Rat} {n : Nat} {x : Rat} (h : ts.length ≤ n) (hc : ∀ i, i < n → ev (co ts i) x = c i) (w : Nat → Rat) : sw ts w x = sumN (fun i => c i * w i) n := by
  rw [← sw_ge h w x]
  exact sumN_congr n fun i hi => by rw [hc i hi]
theorem sw_top (ts : List (List Rat)) (w : Nat → Rat) (x : Rat) : sw (topR ts) w x = sw ts w x := by
  rw [← sw_ge (topR_len ts) w x]
  exact sumN_congr _ fun i _ => by rw [co_top]
theorem sw_add {ts as bs : List (List Rat)} {x : Rat} (h : ∀ i, ev (co ts i) x = ev (co as i) x + ev (co bs i) x) (w : Nat → Rat) : sw ts w x = sw as w x + sw bs w x := by
  have h1 : as.length ≤ ts.length + as.length + bs.length := by omega
  have h2 : bs.length ≤ ts.length + as.length + bs.length := by omega
  rw [sw_of (n := ts.length + as.length + bs.length) (by omega) (fun i _ => h i) w, ← sw_ge h1 w x, ← sw_ge h2 w x, ← sumN_add]
  exact sumN_congr _ fun i _ => by grind
theorem sw_sub {ts as bs : List (List Rat)} {x : Rat} (h : ∀ i, ev (co ts i) x = ev (co as i) x - ev (co bs i) x) (w : Nat → Rat) : sw ts w x = sw as w x - sw bs w x := by
  have h1 : as.length ≤ ts.length + as.length + bs.length := by omega
  have h2 : bs.length ≤ ts.length + as.length + bs.length := by omega
  rw [sw_of (n := ts.length + as.length + bs.length) (by omega) (fun i _ => h i) w, ← sw_ge h1 w x, ← sw_ge h2 w x, ← sumN_sub]
  exact sumN_congr _ fun i _ => by grind
theorem sw_mul {ts as : List (List Rat)} {x c : Rat} (h : ∀ i, ev (co ts i) x = c * ev (co as i) x) (w : Nat → Rat) : sw ts w x = c * sw as w x := by
  have h1 : as.length ≤ ts.length + as.length := by omega
  rw [sw_of (n := ts.length + as.length) (by omega) (fun i _ => h i) w, ← sw_ge h1 w x, ← sumN_mul]
  exact sumN_congr _ fun i _ => by grind
theorem sw_set {ts : List (List Rat)} {k : Nat} {d : List Rat} {x p : Rat} (hk : k < ts.length) (h : ev d x = ev (co ts k) x + p) (w : Nat → Rat) : sw (ts.set k d) w x = sw ts w x + p * w k := by
  have e : sw (ts.set k d) w x = sumN (fun i => ev (co ts i) x * w i + (if i = k then p * w k else 0)) ts.length := by
    rw [← sw_ge (n := ts.length) (by rw [List.length_set]; exact Nat.le_refl _) w x]
    refine sumN_congr _ fun i _ => ?_
    rw [co_set hk]
    by_cases hi : i = k
    · subst hi
      rw [if_pos rfl, if_pos rfl, h]
      grind
    · rw [if_neg hi, if_neg hi]
      grind
  rw [e, sumN_add, sumN_one (k := k) _ hk fun i hi => if_neg hi, if_pos rfl]
  rfl
theorem sw_rep (n : Nat) (w : Nat → Rat) (x : Rat) : sw (List.replicate n []) w x = 0 :=
  sumN_zero _ fun i _ => by rw [co_rep, ev_nil]; grind
/-- rows without a nought at the end are told by their sums -/
theorem sw_inj {B v m L B2 v2 m2 L2 : Nat} {as bs : List (List Rat)} (ha : Rws B v m L as) (hb : Rws B2 v2 m2 L2 bs) (oa : OT as) (ob : OT bs) (h : ∀ (w : Nat → Rat) (x : Rat), sw as w x = sw bs w x) : as = bs := by
  have hc : ∀ i, co as i = co bs i := fun i => by
    refine ev_inj (co_rw ha i).tr (co_rw hb i).tr fun x => ?_
    have := h (fun j => if j = i then 1 else 0) x
    have e : ∀ ts : List (List Rat), sw ts (fun j => if j = i then 1 else 0) x = ev (co ts i) x := fun ts => by
      by_cases hi : i < ts.length
      · show sumN _ _ = _
        rw [sumN_one (k := i) _ hi fun j hj => by show _ * (if j = i then (1 : Rat) else 0) = 0; rw [if_neg hj]; grind]
        show _ * (if i = i then (1 : Rat) else 0) = _
        rw [if_pos rfl]
        grind
      · rw [co_out (by omega), ev_nil]
        refine sumN_zero _ fun j hj => ?_
        show _ * (if j = i then (1 : Rat) else 0) = 0
        rw [if_neg (by omega)]
        grind
    rw [e, e] at this
    exact this
  have len : ∀ (as bs : List (List Rat)), OT as → (∀ i, co as i = co bs i) → as.length ≤ bs.length := fun as bs oa hc => by
    cases hn : as.length with
    | zero => exact Nat.zero_le _
    | succ n =>
      by_cases hlt : n < bs.length
      · exact hlt
      · have h1 := hc n
        rw [co_out (ts := bs) (by omega)] at h1
        have h2 : as[n]? = some as[n] := List.getElem?_eq_getElem (by omega)
        rw [co_at h2] at h1
        exact absurd h1 (oa _ (by rw [List.getLast?_eq_getElem?, show as.length - 1 = n by omega]; exact h2))
  have hl : as.length = bs.length := Nat.le_antisymm (len as bs oa hc) (len bs as ob fun i => (hc i).symm)
  refine List.ext_getElem? fun i => ?_
  by_cases hi : i < as.length
  · have h1 := List.getElem?_eq_getElem hi
    have h2 : bs[i]? = some bs[i] := List.getElem?_eq_getElem (by omega)
    have := hc i
    rw [co_at h1, co_at h2] at this
    rw [h1, h2, this]
  · rw [List.getElem?_eq_none (by omega), List.getElem?_eq_none (by omega)]
/-- a comprehension that makes polynomials -/
theorem compP {f : PyData → List PyData → Mem → Option (List PyData × Mem)} {M : Mem} {P : Nat → List Rat → Prop} : ∀ (xs : List PyData) (n : Nat) (acc : List PyData), acc.length + xs.length ≤ sizeLine → (∀ (j : Nat) x, xs[j]? = some x → ∃ t, (∀ acc : List PyData, acc.length < sizeLine → f x acc M = some (acc ++ [encP t], M)) ∧ P (n + j) t) →
    ∃ ts : List (List Rat), compL f xs acc M = some (acc ++ encPs ts, M) ∧ ts.length = xs.length ∧ ∀ j t, ts[j]? = some t → P (n + j) t
  | [], n, acc, _, _ => ⟨[], by rw [compL]; simp, rfl, fun j t h => by simp at h⟩
  | x :: xs, n, acc, hl, h => by
    obtain ⟨t, h1, h2⟩ := h 0 x rfl
    rw [List.length_cons] at hl
    obtain ⟨ts, g1, g2, g3⟩ := compP (f := f) (M := M) (P := P) xs (n + 1) (acc ++ [encP t]) (by rw [List.length_append]; show acc.length + 1 + _ ≤ _; omega) fun j y hy => by
      obtain ⟨u, u1, u2⟩ := h (j + 1) y (by simpa using hy)
      exact ⟨u, u1, by rw [Nat.add_assoc, Nat.add_comm 1 j]; exact u2⟩
    refine ⟨t :: ts, ?_, by rw [List.length_cons, List.length_cons, g2], fun j u hu => ?_⟩
    · rw [compL, h1 acc (by omega)]
      dsimp only
      rw [g1]
      simp
    · cases j with
      | zero => cases hu; exact h2
      | succ j =>
        have := g3 j u (by simpa using hu)
        rw [Nat.add_assoc, Nat.add_comm 1 j] at this
        exact this
end EV

/-! EvZ21: without_noughts, op_plus, op_minus, _law_top, _law_oadd. -/
namespace EV
open PySem
abbrev mO (M : Mem) (ts : List (List Rat)) : Mem := M ++ [.lst (encPs ts)]
section
variable {cf : Nat → List W → Mem → Option (W × Mem)} {G : List PyData} {wf : Nat} {ρ : Loc} {M M1 M2 : Mem} {e1 e2 e3 : E} {ts : List (List Rat)} {j : Nat} {d : List Rat}
theorem x_ixO (h1 : evalE cf G wf e1 ρ M = some (.d (encO ts), M1)) (h2 : evalE cf G wf e2 ρ M1 = some (.d (.int (j : Nat)), M2)) (hj : j < ts.length) : evalE cf G wf (.op2 false .ix e1 e2) ρ M = some (.d (encP (co ts j)), M2) := by
  refine x_ixG h1 h2 ?_
  have h := List.getElem?_eq_getElem hj
  rw [at_n, List.getElem?_map, co_at h, h]
  rfl
theorem x_ixMO (h1 : evalE cf G wf e1 ρ (mO M ts) = some (.m M.length, mO M ts)) (h2 : evalE cf G wf e2 ρ (mO M ts) = some (.d (.int (j : Nat)), mO M ts)) (hj : j < ts.length) : evalE cf G wf (.op2 false .ix e1 e2) ρ (mO M ts) = some (.d (encP (co ts j)), mO M ts) := by
  refine x_ixMG (xs := encPs ts) h1 h2 top_get ?_
  have h := List.getElem?_eq_getElem hj
  rw [at_n, List.getElem?_map, co_at h, h]
  rfl
theorem s_ixMO (h3 : evalE cf G wf e3 ρ (mO M ts) = some (.d (encP d), mO M ts)) (h1 : evalE cf G wf e1 ρ (mO M ts) = some (.m M.length, mO M ts)) (h2 : evalE cf G wf e2 ρ (mO M ts) = some (.d (.int (j : Nat)), mO M ts)) (hj : j < ts.length) :
    evalS cf G wf (.asgIx e1 e2 e3) ρ (mO M ts) = some (.nx ρ (mO M (ts.set j d))) := by
  have htop : (mO M ts)[M.length]? = some (.lst (encPs ts)) := top_get
  have hst : store (.m M.length) (.int ((j : Nat) : Int)) (encP d) (mO M ts) = some (mO M (ts.set j d)) := by
    rw [st_m, htop]
    dsimp only
    rw [List.length_map, pl_n, if_pos hj]
    dsimp only
    rw [show mO M ts = M ++ [.lst (encPs ts)] from rfl, top_set, ← List.map_set]
  rw [evalS, h3]
  dsimp only
  rw [h1]
  dsimp only
  rw [h2]
  dsimp only
  rw [hst]
theorem e_lenO (h : evalE cf G wf e1 ρ M = some (.d (encO ts), M1)) : evalE cf G wf (.blt false .len (.cons e1 .nil)) ρ M = some (.d (.int (ts.length : Nat)), M1) := by
  have := e_len h
  rw [List.length_map] at this
  exact this
theorem len_rngO (h : evalE cf G wf e1 ρ M = some (.d (encO ts), M1)) (hl : ts.length < 1000000) : evalIt cf G wf (.rng (.cons (.blt false .len (.cons e1 .nil)) .nil)) ρ M = some (.its (irng 0 1 ts.length), M1) := x_rngE (e_lenO h) hl
theorem e_maxN {m n : Nat} (h1 : evalE cf G wf e1 ρ M = some (.d (.int (m : Nat)), M1)) (h2 : evalE cf G wf e2 ρ M1 = some (.d (.int (n : Nat)), M2)) : evalE cf G wf (.blt false .max (.cons e1 (.cons e2 .nil))) ρ M = some (.d (.int ((max m n : Nat) : Int)), M2) := by
  rw [evalE, es_cons h1 (es_cons h2 es_nil)]
  have e : (if (n : Int) > m then (n : Int) else m) = ((max m n : Nat) : Int) := by split <;> omega
  simp only [db_max, derefs_cons, derefs_nil, deref_d, q_max, e, give_f]
end
theorem rep_flatG (x : PyData) : ∀ n : Nat, (List.replicate n [x]).flatten = List.replicate n x
  | 0 => rfl
  | n + 1 => by rw [List.replicate_succ, List.flatten_cons, rep_flatG x n, List.replicate_succ]; rfl
theorem mul_repG (x : PyData) {n : Nat} (hn : n < 1000000) : prim2 .mul (.list [x]) (.int (n : Int)) = some (.list (List.replicate n x)) := by
  have := p_mulN (xs := [x]) (k := (n : Int)) (n := n) (Int.toNat_natCast n) (small_len hn) (by show 1 * n ≤ _; rw [EV.sizeLine_eq]; omega)
  rw [rep_flatG] at this
  exact this
theorem p_mulT {xs : List PyData} {k : Int} {n : Nat} (hk : k.toNat = n) (h1 : small62 k = true) (h2 : xs.length * n ≤ sizeLine) : prim2 .mul (.tuple xs) (.int k) = some (.tuple (List.replicate n xs).flatten) := by
  subst hk
  exact if_pos ⟨h1, h2⟩
theorem mul_repT (x : PyData) {n : Nat} (hn : n < 1000000) : prim2 .mul (.tuple [x]) (.int (n : Int)) = some (.tuple (List.replicate n x)) := by
  have := p_mulT (xs := [x]) (k := (n : Int)) (n := n) (Int.toNat_natCast n) (small_len hn) (by show 1 * n ≤ _; rw [EV.sizeLine_eq]; omega)
  rw [rep_flatG] at this
  exact this
theorem encPs_rep (n : Nat) : encPs (List.replicate n []) = List.replicate n (.tuple []) := List.map_replicate
/-! ### the noughts at the end -/
def oTopG (c : E) (b : Ss) : Fn := ⟨1, 2,
  (.cons (.asg 1 (.blt false .len (.cons (.var 0) .nil)))
  (.cons (.whl c b)
  (.cons (.ret (.blt false .tuple (.cons (.slc false false true (.var 0) (.lit .none) (.var 1)) .nil)))
  .nil)))⟩
abbrev oIx : E := .op2 false .ix (.var 0) (.op2 false .sub (.var 1) (.lit (.int 1)))
def oTopP : Fn := oTopG (.and (.cons (.op2 false .gt (.var 1) (.lit (.int 0))) (.cons (.not oIx) .nil))) (.cons (.aug .sub 1 (.lit (.int 1))) .nil)
def oTopL : Fn := oTopG (.and (.cons (.op2 false .gt (.var 1) (.lit (.int 0))) (.cons (.op2 false .eq oIx (.tup .nil)) .nil))) (.cons (.asg 1 (.op2 false .sub (.var 1) (.lit (.int 1)))) .nil)
section
variable {G : List PyData} {wf : Nat} {M : Mem} {fs : List Fn} {i k : Nat} {ts : List (List Rat)} {w : W}
theorem otopG {c : E} {b : Ss} (h : fs[i]? = some (oTopG c b)) (hw : derefR w M = some (.list (encPs ts))) (hd : deref w M = some (.list (encPs ts))) (hl : ts.length < wf)
    (t0 : testOf (evalE (callF fs G wf k) G wf c [some w, some (.d (.int 0))] M) = some (false, M)) (t1 : ∀ (e : Nat) (q : List Rat), ts[e]? = some q → testOf (evalE (callF fs G wf k) G wf c [some w, some (.d (.int ((e + 1 : Nat) : Int)))] M) = some (q.isEmpty, M))
    (hb : ∀ e : Nat, evalSs (callF fs G wf k) G wf b [some w, some (.d (.int ((e + 1 : Nat) : Int)))] M = some (.nx [some w, some (.d (.int (e : Nat)))] M)) : callF fs G wf (k + 1) i [w] M = some (.d (encO (topR ts)), M) := by
  have s1 : evalS (callF fs G wf k) G wf (.asg 1 (.blt false .len (.cons (.var 0) .nil))) [some w, none] M = some (.nx [some w, some (.d (.int (ts.length : Nat)))] M) := by
    simp only [evalE, evalEs, evalB, evalIt, evalS, evalSs, evalTg, allB, allI, deref_d, deref_m, derefR_d, derefR_m, derefR_r, db_len, db_abs, db_int, db_all, db_any, db_sum, db_tuple, db_list, db_max, db_min, db_gcd, db_isi, derefs_nil, derefs_cons, plain_nil, plain_d, give_f, give_t, p_add, p_addT, p_addL, p_sub, p_mul, p_fdiv, p_mod, p_pow, p_lt, p_le, p_gt, p_ge, p_ixL, p_ixT, at_0, at_1, at_2, at_n, p_eqI, p_neI, s_nn, s_bb, s_in, s_bn, s_tn, s_ln, s_sn, s_nb, s_ib, s_tb, s_lb, s_sb, p_is, p_isn, q_lenL, q_lenT, q_abs, q_int, q_intb, q_all, q_any, q_sum, q_tupL, q_tupT, q_lstL, q_lstT, q_max, q_min, q_gcd, q_isi, t_tt, t_tl, t_ti, t_tb, t_tn, t_ts, t_it, t_il, t_ii, t_ib, t_in, t_is, t_bt, t_bl, t_bi, t_bb, t_bn, t_bs, t_st, t_sl, t_si, t_sb, t_sn, t_ss, r_none, r_bool, r_int, r_list, r_tup, f_d, st_m, pl_n, pl_0, pl_1, m_app, m_pop, tof_s, bt_v, sw_c, sw_n, ag_a, List.getElem?_cons_zero, hw, Option.map_some, List.length_map, List.set_cons_succ, List.set_cons_zero]
  have s2 : evalS (callF fs G wf k) G wf (.whl c b) [some w, some (.d (.int (ts.length : Nat)))] M = some (.nx [some w, some (.d (.int ((topR ts).length : Nat)))] M) := by
    rw [evalS]
    exact cut_loopN (f := ts) (z := List.isEmpty) (st := fun e => [some w, some (.d (.int (e : Nat)))]) t0 t1 hb wf ts.length (topR_len ts) (Nat.le_refl _) hl
  refine ret_d h rfl (x_cons s1 (x_cons s2 (x_stop (x_ret ?_))))
  have hc : primSl (.list (encPs ts)) none (some (((topR ts).length : Nat) : Int)) = some (.list (encPs (topR ts))) := by
    show some (PyData.list (cutL (encPs ts) none (some (((topR ts).length : Nat) : Int)))) = _
    unfold cutL
    rw [HT.sIx_none, HT.sIx_nat, List.drop_zero, Nat.sub_zero, List.length_map, Nat.min_eq_left (topR_len ts), ← List.map_take, topR_take]
  simp only [evalE, evalEs, evalB, evalIt, evalS, evalSs, evalTg, allB, allI, deref_d, deref_m, derefR_d, derefR_m, derefR_r, db_len, db_abs, db_int, db_all, db_any, db_sum, db_tuple, db_list, db_max, db_min, db_gcd, db_isi, derefs_nil, derefs_cons, plain_nil, plain_d, give_f, give_t, p_add, p_addT, p_addL, p_sub, p_mul, p_fdiv, p_mod, p_pow, p_lt, p_le, p_gt, p_ge, p_ixL, p_ixT, at_0, at_1, at_2, at_n, p_eqI, p_neI, s_nn, s_bb, s_in, s_bn, s_tn, s_ln, s_sn, s_nb, s_ib, s_tb, s_lb, s_sb, p_is, p_isn, q_lenL, q_lenT, q_abs, q_int, q_intb, q_all, q_any, q_sum, q_tupL, q_tupT, q_lstL, q_lstT, q_max, q_min, q_gcd, q_isi, t_tt, t_tl, t_ti, t_tb, t_tn, t_ts, t_it, t_il, t_ii, t_ib, t_in, t_is, t_bt, t_bl, t_bi, t_bb, t_bn, t_bs, t_st, t_sl, t_si, t_sb, t_sn, t_ss, r_none, r_bool, r_int, r_list, r_tup, f_d, st_m, pl_n, pl_0, pl_1, m_app, m_pop, tof_s, bt_v, sw_c, sw_n, ag_a, List.getElem?_cons_zero, List.getElem?_cons_succ, hd, bnd, hc, Option.map_some]
theorem o_sub (e : Nat) {cf : Nat → List W → Mem → Option (W × Mem)} : evalE cf G wf (.op2 false .sub (.var 1) (.lit (.int 1))) [some w, some (.d (.int ((e + 1 : Nat) : Int)))] M = some (.d (.int (e : Nat)), M) := by
  have : ((e + 1 : Nat) : Int) - 1 = (e : Nat) := by omega
  rw [← this]
  exact x_opG (e_var rfl) e_lit p_sub (by decide)
theorem o_ix {cf : Nat → List W → Mem → Option (W × Mem)} {e : Nat} {q : List Rat} (hw : derefR w M = some (.list (encPs ts))) (hq : ts[e]? = some q) : evalE cf G wf oIx [some w, some (.d (.int ((e + 1 : Nat) : Int)))] M = some (.d (encP q), M) := by
  have h3 : evalE cf G wf (.var 0) [some w, some (.d (.int ((e + 1 : Nat) : Int)))] M = some (w, M) := e_var rfl
  have h4 : (encPs ts)[e]? = some (encP q) := by rw [List.getElem?_map, hq]; rfl
  rw [evalE, h3]
  dsimp only
  rw [o_sub]
  simp only [if_true, hw, deref_d, p_ixL, at_n, h4, give_f]
theorem o_gt {cf : Nat → List W → Mem → Option (W × Mem)} {e : Nat} : evalE cf G wf (.op2 false .gt (.var 1) (.lit (.int 0))) [some w, some (.d (.int ((e + 1 : Nat) : Int)))] M = some (.d (.bool true), M) := by
  have := x_opG (cf := cf) (G := G) (wf := wf) (ρ := [some w, some (.d (.int ((e + 1 : Nat) : Int)))]) (M := M) (M1 := M) (M2 := M) (a := .var 1) (b := .lit (.int 0)) (x := .int ((e + 1 : Nat) : Int)) (y := .int 0) (e_var rfl) e_lit p_gt (by decide)
  rw [decide_eq_true (by omega)] at this
  exact this
theorem otopP_eq [FA fs i oTopP] [WF wf] (hw : derefR w M = some (.list (encPs ts))) (hd : deref w M = some (.list (encPs ts))) (hl : ts.length < 1000000) : callF fs G wf (k + 1) i [w] M = some (.d (encO (topR ts)), M) := by
  have hW : 1000000 ≤ wf := WF.h
  refine otopG (FA.h (fs := fs) (i := i) (fn := oTopP)) hw hd (by omega) (t_bool (e_and (b_stop (c := false) (by simp [evalE, evalEs, evalB, evalIt, evalS, evalSs, evalTg, allB, allI, deref_d, deref_m, derefR_d, derefR_m, derefR_r, db_len, db_abs, db_int, db_all, db_any, db_sum, db_tuple, db_list, db_max, db_min, db_gcd, db_isi, derefs_nil, derefs_cons, plain_nil, plain_d, give_f, give_t, p_add, p_addT, p_addL, p_sub, p_mul, p_fdiv, p_mod, p_pow, p_lt, p_le, p_gt, p_ge, p_ixL, p_ixT, at_0, at_1, at_2, at_n, p_eqI, p_neI, s_nn, s_bb, s_in, s_bn, s_tn, s_ln, s_sn, s_nb, s_ib, s_tb, s_lb, s_sb, p_is, p_isn, q_lenL, q_lenT, q_abs, q_int, q_intb, q_all, q_any, q_sum, q_tupL, q_tupT, q_lstL, q_lstT, q_max, q_min, q_gcd, q_isi, t_tt, t_tl, t_ti, t_tb, t_tn, t_ts, t_it, t_il, t_ii, t_ib, t_in, t_is, t_bt, t_bl, t_bi, t_bb, t_bn, t_bs, t_st, t_sl, t_si, t_sb, t_sn, t_ss, r_none, r_bool, r_int, r_list, r_tup, f_d, st_m, pl_n, pl_0, pl_1, m_app, m_pop, tof_s, bt_v, sw_c, sw_n, ag_a]) (by decide)))) (fun e q hq => t_bool (e_and (b_go o_gt (b_one ?_)))) (fun e => ?_)
  · have := o_ix (cf := callF fs G wf k) (G := G) (wf := wf) hw hq
    rw [evalE, this]
    cases q <;> simp [evalE, evalEs, evalB, evalIt, evalS, evalSs, evalTg, allB, allI, deref_d, deref_m, derefR_d, derefR_m, derefR_r, db_len, db_abs, db_int, db_all, db_any, db_sum, db_tuple, db_list, db_max, db_min, db_gcd, db_isi, derefs_nil, derefs_cons, plain_nil, plain_d, give_f, give_t, p_add, p_addT, p_addL, p_sub, p_mul, p_fdiv, p_mod, p_pow, p_lt, p_le, p_gt, p_ge, p_ixL, p_ixT, at_0, at_1, at_2, at_n, p_eqI, p_neI, s_nn, s_bb, s_in, s_bn, s_tn, s_ln, s_sn, s_nb, s_ib, s_tb, s_lb, s_sb, p_is, p_isn, q_lenL, q_lenT, q_abs, q_int, q_intb, q_all, q_any, q_sum, q_tupL, q_tupT, q_lstL, q_lstT, q_max, q_min, q_gcd, q_isi, t_tt, t_tl, t_ti, t_tb, t_tn, t_ts, t_it, t_il, t_ii, t_ib, t_in, t_is, t_bt, t_bl, t_bi, t_bb, t_bn, t_bs, t_st, t_sl, t_si, t_sb, t_sn, t_ss, r_none, r_bool, r_int, r_list, r_tup, f_d, st_m, pl_n, pl_0, pl_1, m_app, m_pop, tof_s, bt_v, sw_c, sw_n, ag_a]
  · exact cut_body
theorem otopL_eq [FA fs i oTopL] [WF wf] (hw : derefR w M = some (.list (encPs ts))) (hd : deref w M = some (.list (encPs ts))) (hl : ts.length < 1000000) : callF fs G wf (k + 1) i [w] M = some (.d (encO (topR ts)), M) := by
  have hW : 1000000 ≤ wf := WF.h
  refine otopG (FA.h (fs := fs) (i := i) (fn := oTopL)) hw hd (by omega) (t_bool (e_and (b_stop (c := false) (by simp [evalE, evalEs, evalB, evalIt, evalS, evalSs, evalTg, allB, allI, deref_d, deref_m, derefR_d, derefR_m, derefR_r, db_len, db_abs, db_int, db_all, db_any, db_sum, db_tuple, db_list, db_max, db_min, db_gcd, db_isi, derefs_nil, derefs_cons, plain_nil, plain_d, give_f, give_t, p_add, p_addT, p_addL, p_sub, p_mul, p_fdiv, p_mod, p_pow, p_lt, p_le, p_gt, p_ge, p_ixL, p_ixT, at_0, at_1, at_2, at_n, p_eqI, p_neI, s_nn, s_bb, s_in, s_bn, s_tn, s_ln, s_sn, s_nb, s_ib, s_tb, s_lb, s_sb, p_is, p_isn, q_lenL, q_lenT, q_abs, q_int, q_intb, q_all, q_any, q_sum, q_tupL, q_tupT, q_lstL, q_lstT, q_max, q_min, q_gcd, q_isi, t_tt, t_tl, t_ti, t_tb, t_tn, t_ts, t_it, t_il, t_ii, t_ib, t_in, t_is, t_bt, t_bl, t_bi, t_bb, t_bn, t_bs, t_st, t_sl, t_si, t_sb, t_sn, t_ss, r_none, r_bool, r_int, r_list, r_tup, f_d, st_m, pl_n, pl_0, pl_1, m_app, m_pop, tof_s, bt_v, sw_c, sw_n, ag_a]) (by decide)))) (fun e q hq => t_bool (e_and (b_go o_gt (b_one ?_)))) (fun e => ?_)
  · exact x_opG (o_ix hw hq) (e_tup es_nil rfl (Nat.zero_le _)) (eq_empty q) (by decide)
  · exact x_cons (x_asg (o_sub e)) (by rw [evalSs]; rfl)
end
/-! ### sums of the program -/
def oPad (a : Nat) : E := .op2 false .add (.var a) (.op2 false .mul (.tup (.cons (.tup .nil) .nil)) (.op2 false .sub (.var 2) (.blt false .len (.cons (.var a) .nil))))
def oZip (s : Nat) : E := .comp false [5, 6] (.tv [5, 6]) (.zip (.var 3) (.var 4)) (.lit (.bool true)) (.call s (.cons (.var 5) (.cons (.var 6) .nil)))
def oPlus (s tp : Nat) : Fn := ⟨2, 7,
  (.cons (.asg 2 (.blt false .max (.cons (.blt false .len (.cons (.var 0) .nil)) (.cons (.blt false .len (.cons (.var 1) .nil)) .nil))))
  (.cons (.par [3, 4] (.cons (oPad 0) (.cons (oPad 1) .nil)))
  (.cons (.ret (.call tp (.cons (oZip s) .nil)))
  .nil)))⟩
section
variable {G : List PyData} {wf : Nat} {M : Mem} {fs : List Fn} {i k s tp a B v m L w l K : Nat} {ts as bs : List (List Rat)}
theorem pad_eq {cf : Nat → List W → Mem → Option (W × Mem)} {ρ : Loc} {n : Nat} (h : ρ[a]? = some (some (.d (encO ts)))) (h2 : ρ[2]? = some (some (.d (.int (n : Nat))))) (hn : ts.length ≤ n) (hn2 : n < 1000000) : evalE cf G wf (oPad a) ρ M = some (.d (encO (ts ++ List.replicate (n - ts.length) [])), M) := by
  have hz := EV.sizeLine_eq
  have e1 := e_lenO (cf := cf) (G := G) (wf := wf) (M := M) (M1 := M) (e1 := .var a) (ts := ts) (e_var h)
  have e2 : evalE cf G wf (.op2 false .sub (.var 2) (.blt false .len (.cons (.var a) .nil))) ρ M = some (.d (.int ((n - ts.length : Nat) : Int)), M) := by
    rw [show ((n - ts.length : Nat) : Int) = (n : Int) - ts.length by omega]
    exact x_opG (e_var h2) e1 p_sub (by decide)
  have e0 : evalE cf G wf (.tup (.cons (.tup .nil) .nil)) ρ M = some (.d (.tuple [.tuple []]), M) := e_tup (es_cons (e_tup es_nil rfl (Nat.zero_le _)) es_nil) rfl (by rw [hz]; show 1 ≤ _; decide)
  refine x_opG (x := encO ts) (M1 := M) (e_var h) (x_opG e0 e2 (mul_repT _ (n := n - ts.length) (by omega)) (by decide)) ?_ (by decide)
  show fit _ _ = _
  unfold fit
  rw [if_pos (by rw [hz, List.length_append, List.length_map, List.length_replicate]; omega), ← encPs_rep, ← List.map_append]
theorem co_pad (ts : List (List Rat)) (n i : Nat) : co (ts ++ List.replicate n []) i = co ts i := by
  rw [co, co, List.getD_eq_getElem?_getD, List.getD_eq_getElem?_getD, List.getElem?_append]
  by_cases h : i < ts.length
  · rw [if_pos h]
  · rw [if_neg h, List.getElem?_eq_none (by omega : ts.length ≤ i), List.getElem?_replicate]
    split <;> rfl
/-- the sum (the difference) of rows, by what is done member by member -/
theorem oplus_eq {op : Rat → Rat → Rat} [FA fs i (oPlus s tp)] [FA fs tp oTopP] [WF wf] (h0 : op 0 0 = 0) (ha : Rws B v m L as) (hb : Rws B v m L bs) (la : as.length ≤ 100000) (lb : bs.length ≤ 100000)
    (hs : ∀ t u : List Rat, Rw B v m L t → Rw B v m L u → ∃ r, callF fs G wf (k + 8) s [.d (encP t), .d (encP u)] M = some (.d (encP r), M) ∧ Rw B w l K r ∧ ∀ x, ev r x = op (ev t x) (ev u x)) :
    ∃ ts, callF fs G wf (k + 9) i [.d (encO as), .d (encO bs)] M = some (.d (encO ts), M) ∧ Rws B w l K ts ∧ OT ts ∧ ts.length ≤ max as.length bs.length ∧ ∀ i x, ev (co ts i) x = op (ev (co as i) x) (ev (co bs i) x) := by
  have hz := EV.sizeLine_eq
  generalize hn : max as.length bs.length = n
  let ρ0 : Loc := [some (.d (encO as)), some (.d (encO bs)), none, none, none, none, none]
  let ρ1 : Loc := [some (.d (encO as)), some (.d (encO bs)), some (.d (.int (n : Nat))), none, none, none, none]
  let pa := as ++ List.replicate (n - as.length) []
  let pb := bs ++ List.replicate (n - bs.length) []
  have lpa : pa.length = n := by show (as ++ _).length = n; rw [List.length_append, List.length_replicate]; omega
  have lpb : pb.length = n := by show (bs ++ _).length = n; rw [List.length_append, List.length_replicate]; omega
  let ρ2 : Loc := [some (.d (encO as)), some (.d (encO bs)), some (.d (.int (n : Nat))), some (.d (encO pa)), some (.d (encO pb)), none, none]
  have m0 := e_maxN (cf := callF fs G wf (k + 8)) (G := G) (wf := wf) (M := M) (M1 := M) (M2 := M) (ρ := ρ0) (e_lenO (e1 := .var 0) (ts := as) (M := M) (M1 := M) (e_var rfl)) (e_lenO (e1 := .var 1) (ts := bs) (M := M) (M1 := M) (e_var rfl))
  rw [hn] at m0
  have p1 := pad_eq (cf := callF fs G wf (k + 8)) (G := G) (wf := wf) (M := M) (a := 0) (ρ := ρ1) (ts := as) rfl rfl (by omega) (by omega)
  have p2 := pad_eq (cf := callF fs G wf (k + 8)) (G := G) (wf := wf) (M := M) (a := 1) (ρ := ρ1) (ts := bs) rfl rfl (by omega) (by omega)
  have s2 : evalS (callF fs G wf (k + 8)) G wf (.par [3, 4] (.cons (oPad 0) (.cons (oPad 1) .nil))) ρ1 M = some (.nx ρ2 M) := by
    rw [evalS, es_cons p1 (es_cons p2 es_nil)]
    rfl
  have hit : evalIt (callF fs G wf (k + 8)) G wf (.zip (.var 3) (.var 4)) ρ2 M = some (.its (zips (encPs pa) (encPs pb)), M) := by
    have v3 : evalE (callF fs G wf (k + 8)) G wf (.var 3) ρ2 M = some (.d (encO pa), M) := e_var rfl
    have v4 : evalE (callF fs G wf (k + 8)) G wf (.var 4) ρ2 M = some (.d (encO pb), M) := e_var rfl
    rw [evalIt, v3]
    dsimp only
    rw [v4]
    rfl
  have lz : (zips (encPs pa) (encPs pb)).length = n := by rw [zips_len, List.length_map, List.length_map, lpa, lpb]; omega
  obtain ⟨ts, c1, c2, c3⟩ := compP (f := tc (callF fs G wf (k + 8)) G wf [5, 6] (.tv [5, 6]) (.lit (.bool true)) (.call s (.cons (.var 5) (.cons (.var 6) .nil))) ρ2) (M := M) (P := fun j r => Rw B w l K r ∧ ∀ x, ev r x = op (ev (co as j) x) (ev (co bs j) x)) (zips (encPs pa) (encPs pb)) 0 [] (by rw [lz, hz]; show 0 + n ≤ _; omega) (fun j x hx => by
    obtain ⟨y1, y2, h1, h2, rfl⟩ := zips_at hx
    have hj : j < n := by rw [← lz]; exact (List.getElem?_eq_some_iff.mp hx).1
    have g1 : pa[j]? = some pa[j] := List.getElem?_eq_getElem (by omega)
    have g2 : pb[j]? = some pb[j] := List.getElem?_eq_getElem (by omega)
    rw [List.getElem?_map, g1] at h1
    rw [List.getElem?_map, g2] at h2
    have h1 : encP pa[j] = y1 := Option.some.inj h1
    have h2 : encP pb[j] = y2 := Option.some.inj h2
    subst h1 h2
    have e1 : pa[j] = co as j := by rw [← co_at g1]; exact co_pad _ _ _
    have e2 : pb[j] = co bs j := by rw [← co_at g2]; exact co_pad _ _ _
    obtain ⟨r, r1, r2, r3⟩ := hs pa[j] pb[j] (by rw [e1]; exact co_rw ha j) (by rw [e2]; exact co_rw hb j)
    refine ⟨r, fun acc ha => ?_, r2, fun x => by rw [r3, e1, e2, Nat.zero_add]⟩
    exact tc_go (ρ2 := [some (.d (encO as)), some (.d (encO bs)), some (.d (.int (n : Nat))), some (.d (encO pa)), some (.d (encO pb)), some (.d (encP pa[j])), some (.d (encP pb[j]))]) rfl t_lit (x_callE (es_cons (e_var rfl) (es_cons (e_var rfl) es_nil)) r1) ha)
  have hcomp : evalE (callF fs G wf (k + 8)) G wf (oZip s) ρ2 M = some (.d (.list (encPs ts)), M) := x_comp hit c1 rfl
  refine ⟨topR ts, ?_, Rws.top fun t ht => ?_, ot_top ts, Nat.le_trans (topR_len ts) (by omega), fun j x => ?_⟩
  · exact ret_d (k := k + 8) FA.h rfl (x_cons (x_asg m0) (x_cons s2 (x_stop (x_ret (x_callE (es_cons hcomp es_nil) (otopP_eq (k := k + 7) rfl rfl (by omega)))))))
  · obtain ⟨j, hj⟩ := List.getElem?_of_mem ht
    exact (c3 j t hj).1
  · rw [co_top]
    by_cases hj : j < ts.length
    · have h := List.getElem?_eq_getElem hj
      rw [co_at h, (c3 j _ h).2, Nat.zero_add]
    · rw [co_out (by omega), co_out (ts := as) (by omega), co_out (ts := bs) (by omega), ev_nil, h0]
end
end EV

/-! EvZ22: products of rows; _law_oadd. -/
namespace EV
open PySem
section
variable {M : Mem} {B Vp c mp Lp T n i s0 : Nat} {told0 : List (List Rat)}
theorem Rws.mono {v m L w l K : Nat} {ts : List (List Rat)} (h : Rws B v m L ts) (h1 : v ≤ w) (h2 : m ≤ l) (h3 : L ≤ K) : Rws B w l K ts := fun t ht => (h t ht).mono h1 h2 h3
theorem Rws.set {v m L k : Nat} {ts : List (List Rat)} {d : List Rat} (h : Rws B v m L ts) (hd : Rw B v m L d) : Rws B v m L (ts.set k d) := fun t ht => by
  rcases List.mem_or_eq_of_mem_set ht with h1 | h1
  · exact h t h1
  · subst h1; exact hd
/-- the inner loop: at the j-th turn the member i + j gets g j more -/
theorem rows_inner {f : PyData → Loc → Mem → Option Out} {xs : List PyData} {I : Loc → Prop} {g : Nat → Rat → Rat} {ρ0 : Loc} (hn : xs.length = n)
    (hs : ∀ j x ρ told, xs[j]? = some x → j < n → I ρ → told.length = T → Rws B (Vp + (s0 + j) * c) mp Lp told → ∃ ρ' d, f x ρ (mO M told) = some (.nx ρ' (mO M (told.set (i + j) d))) ∧ I ρ' ∧ Rw B (Vp + (s0 + j + 1) * c) mp Lp d ∧ ∀ y, ev d y = ev (co told (i + j)) y + g j y)
    (h1 : told0.length = T) (h2 : i + n ≤ T) (h3 : Rws B (Vp + s0 * c) mp Lp told0) (h4 : I ρ0) :
    ∃ ρ' told, forL f xs ρ0 (mO M told0) = some (.nx ρ' (mO M told)) ∧ I ρ' ∧ told.length = T ∧ Rws B (Vp + (s0 + n) * c) mp Lp told ∧ ∀ w y, sw told w y = sw told0 w y + sumN (fun j => g j y * w (i + j)) n := by
  obtain ⟨ρ', M', e, told, hI, hM, a1, a2, a3⟩ := forL_for (f := f) (xs := xs) (fun j ρ M' => ∃ told, I ρ ∧ M' = mO M told ∧ told.length = T ∧ Rws B (Vp + (s0 + j) * c) mp Lp told ∧ ∀ w y, sw told w y = sw told0 w y + sumN (fun j => g j y * w (i + j)) j)
    (fun ρ M' => ∃ told, I ρ ∧ M' = mO M told ∧ told.length = T ∧ Rws B (Vp + (s0 + n) * c) mp Lp told ∧ ∀ w y, sw told w y = sw told0 w y + sumN (fun j => g j y * w (i + j)) n) (fun j x ρ M' hx hI => by
      obtain ⟨told, hI, rfl, a1, a2, a3⟩ := hI
      have hj : j < n := by rw [← hn]; exact (List.getElem?_eq_some_iff.mp hx).1
      obtain ⟨ρ', d, b1, b2, b3, b4⟩ := hs j x ρ told hx hj hI a1 a2
      have hc : (s0 + j) * c ≤ (s0 + j + 1) * c := Nat.mul_le_mul_right _ (by omega)
      have a4 : Rws B (Vp + (s0 + j + 1) * c) mp Lp (told.set (i + j) d) := (a2.mono (by omega) (Nat.le_refl _) (Nat.le_refl _)).set b3
      refine ⟨ρ', _, .inl ⟨b1, told.set (i + j) d, b2, rfl, by rw [List.length_set]; exact a1, a4, fun w y => ?_⟩⟩
      rw [sw_set (by omega) (b4 y), a3]
      show _ = sw told0 w y + (sumN (fun j => g j y * w (i + j)) j + g j y * w (i + j))
      grind) (fun ρ M' hI => by rw [hn] at hI; exact hI) (ρ := ρ0) (M := mO M told0) ⟨told0, h4, rfl, h1, h3, fun w y => by show _ = _ + (0 : Rat); grind⟩
  subst hM
  exact ⟨ρ', told, e, hI, a1, a2, a3⟩
/-- the outer loop -/
theorem rows_outer {f : PyData → Loc → Mem → Option Out} {xs : List PyData} {I : Loc → Prop} {g : Nat → (Nat → Rat) → Rat → Rat} {ρ0 : Loc} {N : Nat} (hN : xs.length = N)
    (hs : ∀ i x ρ told, xs[i]? = some x → i < N → I ρ → told.length = T → Rws B (Vp + (i * n) * c) mp Lp told → ∃ ρ' told', f x ρ (mO M told) = some (.nx ρ' (mO M told')) ∧ I ρ' ∧ told'.length = T ∧ Rws B (Vp + ((i + 1) * n) * c) mp Lp told' ∧ ∀ w y, sw told' w y = sw told w y + g i w y)
    (h1 : told0.length = T) (h3 : Rws B Vp mp Lp told0) (h4 : I ρ0) :
    ∃ ρ' told, forL f xs ρ0 (mO M told0) = some (.nx ρ' (mO M told)) ∧ I ρ' ∧ told.length = T ∧ Rws B (Vp + (N * n) * c) mp Lp told ∧ ∀ w y, sw told w y = sw told0 w y + sumN (fun i => g i w y) N := by
  obtain ⟨ρ', M', e, told, hI, hM, a1, a2, a3⟩ := forL_for (f := f) (xs := xs) (fun j ρ M' => ∃ told, I ρ ∧ M' = mO M told ∧ told.length = T ∧ Rws B (Vp + (j * n) * c) mp Lp told ∧ ∀ w y, sw told w y = sw told0 w y + sumN (fun i => g i w y) j)
    (fun ρ M' => ∃ told, I ρ ∧ M' = mO M told ∧ told.length = T ∧ Rws B (Vp + (N * n) * c) mp Lp told ∧ ∀ w y, sw told w y = sw told0 w y + sumN (fun i => g i w y) N) (fun j x ρ M' hx hI => by
      obtain ⟨told, hI, rfl, a1, a2, a3⟩ := hI
      have hj : j < N := by rw [← hN]; exact (List.getElem?_eq_some_iff.mp hx).1
      obtain ⟨ρ', told', b1, b2, b3, b4, b5⟩ := hs j x ρ told hx hj hI a1 a2
      refine ⟨ρ', _, .inl ⟨b1, told', b2, rfl, b3, b4, fun w y => ?_⟩⟩
      rw [b5, a3]
      show _ = sw told0 w y + (sumN (fun i => g i w y) j + g j w y)
      grind) (fun ρ M' hI => by rw [hN] at hI; exact hI) (ρ := ρ0) (M := mO M told0) ⟨told0, h4, rfl, h1, by rw [Nat.zero_mul, Nat.zero_mul]; exact h3, fun w y => by show _ = _ + (0 : Rat); grind⟩
  subst hM
  exact ⟨ρ', told, e, hI, a1, a2, a3⟩
end
/-! ### what the steps of both products do -/
/-- telling the member i + j anew -/
def MulStep (fs : List Fn) (G : List PyData) (wf k : Nat) (u : Nat → PyData → PyData → Prop) : Prop := True
def oMB2 (s mu mv : Nat) : Ss := .cons (.asgIx (.var 2) (.op2 false .add (.var 3) (.var 5)) (.call s (.cons (.op2 false .ix (.var 2) (.op2 false .add (.var 3) (.var 5))) (.cons (.call mu (.cons (.var 4) (.cons (.call mv (.cons (.var 6) (.cons (.var 3) .nil))) .nil))) .nil)))) .nil
def oMB1 (s mu mv : Nat) : Ss := .cons (.ife (.var 4) (.cons (.fr (.tv [5, 6]) (.enum (.var 1)) (oMB2 s mu mv)) .nil) .nil) .nil
def oTimes (s mu mv tp : Nat) : Fn := ⟨2, 7,
  (.cons (.ife (.or (.cons (.not (.var 0)) (.cons (.not (.var 1)) .nil))) (.cons (.ret (.tup .nil)) .nil) .nil)
  (.cons (.asg 2 (.op2 true .mul (.lst false (.cons (.tup .nil) .nil)) (.op2 false .sub (.op2 false .add (.blt false .len (.cons (.var 0) .nil)) (.blt false .len (.cons (.var 1) .nil))) (.lit (.int 1)))))
  (.cons (.fr (.tv [3, 4]) (.enum (.var 0)) (oMB1 s mu mv))
  (.cons (.ret (.call tp (.cons (.var 2) .nil)))
  .nil))))⟩
def lOB2 (pa pm mv : Nat) : Ss := .cons (.asgIx (.var 2) (.op2 false .add (.var 3) (.var 4)) (.call pa (.cons (.op2 false .ix (.var 2) (.op2 false .add (.var 3) (.var 4))) (.cons (.call pm (.cons (.op2 false .ix (.var 0) (.var 3)) (.cons (.call mv (.cons (.op2 false .ix (.var 1) (.var 4)) (.cons (.var 3) .nil))) .nil))) .nil)))) .nil
def lOB1 (pa pm mv : Nat) : Ss := .cons (.fr (.v 4) (.rng (.cons (.blt false .len (.cons (.var 1) .nil)) .nil)) (lOB2 pa pm mv)) .nil
def lOMul (pa pm mv tp : Nat) : Fn := ⟨2, 5,
  (.cons (.ife (.or (.cons (.op2 false .eq (.var 0) (.tup .nil)) (.cons (.op2 false .eq (.var 1) (.tup .nil)) .nil))) (.cons (.ret (.tup .nil)) .nil) .nil)
  (.cons (.asg 2 (.op2 true .mul (.lst false (.cons (.tup .nil) .nil)) (.op2 false .sub (.op2 false .add (.blt false .len (.cons (.var 0) .nil)) (.blt false .len (.cons (.var 1) .nil))) (.lit (.int 1)))))
  (.cons (.fr (.v 3) (.rng (.cons (.blt false .len (.cons (.var 0) .nil)) .nil)) (lOB1 pa pm mv))
  (.cons (.ret (.call tp (.cons (.var 2) .nil)))
  .nil))))⟩
section
variable {G : List PyData} {wf : Nat} {M : Mem} {fs : List Fn} {i k s mu mv tp B v m L w l K R S Vp mp Lp c p o r z y g1 pa pm pu N ci : Nat} {as bs : List (List Rat)}
theorem eq_emptyO (ts : List (List Rat)) : prim2 .eq (encO ts) (.tuple []) = some (.bool ts.isEmpty) := by
  have hl : ∀ ts : List (List Rat), PyData.canLayAll0 (encPs ts) = true := fun ts => by
    induction ts with
    | nil => rfl
    | cons t ts ih =>
      have h2 : PyData.canLay0 (encP t) = true := by rw [encP, PyData.canLay0]; exact lay_encs t
      show PyData.canLayAll0 (encP t :: encPs ts) = true
      rw [PyData.canLayAll0, h2, ih]
      rfl
  have h : shEq (encO ts) (.tuple []) = true := by
    have h2 : PyData.canLay0 (encO ts) = true := by rw [encO, PyData.canLay0]; exact hl ts
    have h3 : PyData.canLay0 (.tuple []) = true := by decide +kernel
    have h4 : min (encO ts).depth (PyData.tuple []).depth ≤ 64 := Nat.le_trans (Nat.min_le_right _ _) (by decide +kernel)
    unfold shEq
    rw [h2, h3, decide_eq_true h4]; rfl
  show (peq (encO ts) (.tuple [])).map PyData.bool = _
  unfold peq
  rw [if_pos h]
  cases ts <;> simp [PyData.eqv, PyData.eqvAll]
theorem sw_nil (w : Nat → Rat) (x : Rat) : sw [] w x = 0 := rfl
theorem tot_eq {cf : Nat → List W → Mem → Option (W × Mem)} {ρ : Loc} {T : Nat} (h0 : ρ[0]? = some (some (.d (encO as)))) (h1 : ρ[1]? = some (some (.d (encO bs)))) (hT : as.length + bs.length = T + 1) (hT2 : T < 1000000) :
    evalE cf G wf (.op2 true .mul (.lst false (.cons (.tup .nil) .nil)) (.op2 false .sub (.op2 false .add (.blt false .len (.cons (.var 0) .nil)) (.blt false .len (.cons (.var 1) .nil))) (.lit (.int 1)))) ρ M = some (.m M.length, mO M (List.replicate T [])) := by
  have hz := EV.sizeLine_eq
  have e1 : evalE cf G wf (.lst false (.cons (.tup .nil) .nil)) ρ M = some (.d (.list [.tuple []]), M) := e_lstF (es_cons (e_tup es_nil rfl (Nat.zero_le _)) es_nil) rfl (by rw [hz]; show 1 ≤ _; decide)
  have e2 : evalE cf G wf (.op2 false .sub (.op2 false .add (.blt false .len (.cons (.var 0) .nil)) (.blt false .len (.cons (.var 1) .nil))) (.lit (.int 1))) ρ M = some (.d (.int (T : Nat)), M) := by
    rw [show (T : Int) = ((as.length : Nat) : Int) + ((bs.length : Nat) : Int) - 1 by omega]
    exact x_opG (x_opG (e_lenO (e_var h0)) (e_lenO (e_var h1)) p_add (by decide)) e_lit p_sub (by decide)
  rw [x_opM e1 e2 (mul_repG _ hT2) (by decide), ← encPs_rep]
/-- one turn of the inner loop of op_times: what is to be known of the operations -/
structure Ops (fs : List Fn) (G : List PyData) (wf k B s mu v m L w l K Vp mp Lp c S : Nat) : Prop where
  mul : ∀ (M : Mem) (t u : List Rat), Rw B v m L t → Rw B w l K u → ∃ r, callF fs G wf (k + 8) mu [.d (encP t), .d (encP u)] M = some (.d (encP r), M) ∧ Rw B Vp mp Lp r ∧ ∀ x, ev r x = ev t x * ev u x
  add : ∀ (M : Mem) (q : Nat) (t u : List Rat), q < S → Rw B (Vp + q * c) mp Lp t → Rw B Vp mp Lp u → ∃ r, callF fs G wf (k + 8) s [.d (encP t), .d (encP u)] M = some (.d (encP r), M) ∧ Rw B (Vp + (q + 1) * c) mp Lp r ∧ ∀ x, ev r x = ev t x + ev u x
/-- moving -/
def Mov (fs : List Fn) (G : List PyData) (wf k B mv v m L w l K R : Nat) : Prop := ∀ (M : Mem) (t : List Rat) (n : Nat), n < R → Rw B v m L t → ∃ r, callF fs G wf (k + 8) mv [.d (encP t), .d (.int (n : Nat))] M = some (.d (encP r), M) ∧ Rw B w l K r ∧ ∀ x, ev r x = ev t (x + (n : Rat))
variable {v2 m2 L2 : Nat}
theorem omul_eq [FA fs i (lOMul pa pm mv tp)] [FA fs tp oTopL] [WF wf] (ha : Rws B v m L as) (hb : Rws B v2 m2 L2 bs) (la : as.length ≤ 1000) (lb : bs.length ≤ 1000) (ops : Ops fs G wf k B pa pm v m L w l K Vp mp Lp c S) (mov : Mov fs G wf k B mv v2 m2 L2 w l K 1000) (hS : as.length * bs.length ≤ S) :
    ∃ ts, callF fs G wf (k + 9) i [.d (encO as), .d (encO bs)] M = some (.d (encO ts), M) ∧ Rws B (Vp + S * c) mp Lp ts ∧ OT ts ∧ ts.length ≤ as.length + bs.length - 1 ∧ ∀ w x, sw ts w x = sw as (fun i => sw bs (fun j => w (i + j)) (x + (i : Rat))) x := by
  let ρ0 : Loc := [some (.d (encO as)), some (.d (encO bs)), none, none, none]
  have c1 : evalE (callF fs G wf (k + 8)) G wf (.op2 false .eq (.var 0) (.tup .nil)) ρ0 M = some (.d (.bool as.isEmpty), M) := x_opG (x := encO as) (M1 := M) (e_var rfl) (e_tup es_nil rfl (Nat.zero_le _)) (eq_emptyO as) (by decide)
  have c2 : evalE (callF fs G wf (k + 8)) G wf (.op2 false .eq (.var 1) (.tup .nil)) ρ0 M = some (.d (.bool bs.isEmpty), M) := x_opG (x := encO bs) (M1 := M) (e_var rfl) (e_tup es_nil rfl (Nat.zero_le _)) (eq_emptyO bs) (by decide)
  have ht : testOf (evalE (callF fs G wf (k + 8)) G wf (.or (.cons (.op2 false .eq (.var 0) (.tup .nil)) (.cons (.op2 false .eq (.var 1) (.tup .nil)) .nil))) ρ0 M) = some (as.isEmpty || bs.isEmpty, M) := by
    cases h0 : as.isEmpty with
    | true =>
      rw [h0] at c1
      rw [Bool.true_or]
      exact t_bool (e_or (b_stop c1 (by decide)))
    | false =>
      rw [h0] at c1
      rw [Bool.false_or]
      exact t_bool (e_or (b_go c1 (b_one c2)))
  cases he : (as.isEmpty || bs.isEmpty) with
  | true =>
    rw [he] at ht
    refine ⟨[], ret_d (k := k + 8) FA.h rfl (x_stop (x_ifT ht (x_stop (x_ret (e_tup es_nil rfl (Nat.zero_le _)))))), fun t h => (by cases h), fun t h => (by cases h), Nat.zero_le _, fun w x => ?_⟩
    rw [Bool.or_eq_true, List.isEmpty_iff, List.isEmpty_iff] at he
    rw [sw_nil]
    rcases he with rfl | rfl
    · rfl
    · exact (sumN_zero _ fun i _ => by show _ * (0 : Rat) = 0; grind).symm
  | false =>
    rw [he] at ht
    rw [Bool.or_eq_false_iff] at he
    have f1 : 1 ≤ as.length := by
      cases as with
      | nil => cases he.1
      | cons _ _ => simp
    have f2 : 1 ≤ bs.length := by
      cases bs with
      | nil => cases he.2
      | cons _ _ => simp
    obtain ⟨T, hT⟩ : ∃ T, as.length + bs.length = T + 1 := ⟨as.length + bs.length - 1, by omega⟩
    let I2 : Nat → Loc → Prop := fun i ρ => ∃ x4, ρ = [some (.d (encO as)), some (.d (encO bs)), some (.m M.length), some (.d (.int (i : Nat))), x4]
    let I1 : Loc → Prop := fun ρ => ∃ x3 x4, ρ = [some (.d (encO as)), some (.d (encO bs)), some (.m M.length), x3, x4]
    obtain ⟨ρ', told, e, ⟨x3, x4, rfl⟩, a1, a2, a3⟩ := rows_outer (f := turnG (callF fs G wf (k + 8)) G wf (.v 3) (lOB1 pa pm mv)) (xs := irng 0 1 as.length) (I := I1) (B := B) (Vp := Vp) (c := c) (mp := mp) (Lp := Lp) (T := T) (n := bs.length) (N := as.length) (told0 := List.replicate T []) (M := M)
      (g := fun i w x => ev (co as i) x * sw bs (fun j => w (i + j)) (x + (i : Rat))) (ρ0 := [some (.d (encO as)), some (.d (encO bs)), some (.m M.length), none, none]) (irng_length _ _ _) (fun i x ρ told hx hi hI hl hr => by
        obtain ⟨rfl, _⟩ := irng_at hx
        obtain ⟨x3, x4, rfl⟩ := hI
        rw [x_turn]
        obtain ⟨ρ', told', b1, ⟨y4, rfl⟩, b3, b4, b5⟩ := rows_inner (f := turnG (callF fs G wf (k + 8)) G wf (.v 4) (lOB2 pa pm mv)) (xs := irng 0 1 bs.length) (I := I2 i) (B := B) (Vp := Vp) (c := c) (mp := mp) (Lp := Lp) (T := T) (n := bs.length) (s0 := i * bs.length) (i := i) (told0 := told) (M := M)
          (g := fun j x => ev (co as i) x * ev (co bs j) (x + (i : Rat))) (ρ0 := [some (.d (encO as)), some (.d (encO bs)), some (.m M.length), some (.d (.int (i : Nat))), x4]) (irng_length _ _ _) (fun j x ρ told hx hj hI hl hr => by
            obtain ⟨rfl, _⟩ := irng_at hx
            obtain ⟨y4, rfl⟩ := hI
            rw [x_turn]
            let ρ2 : Loc := [some (.d (encO as)), some (.d (encO bs)), some (.m M.length), some (.d (.int (i : Nat))), some (.d (.int (j : Nat)))]
            have hij : evalE (callF fs G wf (k + 8)) G wf (.op2 false .add (.var 3) (.var 4)) ρ2 (mO M told) = some (.d (.int ((i + j : Nat) : Int)), mO M told) := x_opG (x := .int (i : Nat)) (y := .int (j : Nat)) (M1 := mO M told) (e_var rfl) (e_var rfl) p_add (by decide)
            have e1 := x_ixMO (cf := callF fs G wf (k + 8)) (G := G) (wf := wf) (ρ := ρ2) (M := M) (ts := told) (e1 := .var 2) (e_var rfl) hij (by omega)
            have e2 := x_ixO (cf := callF fs G wf (k + 8)) (G := G) (wf := wf) (ρ := ρ2) (M := mO M told) (M1 := mO M told) (M2 := mO M told) (ts := as) (e1 := .var 0) (e2 := .var 3) (j := i) (e_var rfl) (e_var rfl) hi
            have e3 := x_ixO (cf := callF fs G wf (k + 8)) (G := G) (wf := wf) (ρ := ρ2) (M := mO M told) (M1 := mO M told) (M2 := mO M told) (ts := bs) (e1 := .var 1) (e2 := .var 4) (j := j) (e_var rfl) (e_var rfl) hj
            obtain ⟨q1, q2, q3, q4⟩ := mov (mO M told) (co bs j) i (by omega) (co_rw hb j)
            obtain ⟨p1, p2, p3, p4⟩ := ops.mul (mO M told) (co as i) q1 (co_rw ha i) q3
            have hlt : i * bs.length + j < S := by
              have : (i + 1) * bs.length ≤ as.length * bs.length := Nat.mul_le_mul_right _ hi
              rw [Nat.add_mul, Nat.one_mul] at this
              omega
            obtain ⟨d, d2, d3, d4⟩ := ops.add (mO M told) (i * bs.length + j) (co told (i + j)) p1 hlt (co_rw hr _) p3
            have e4 : evalE (callF fs G wf (k + 8)) G wf (.var 3) ρ2 (mO M told) = some (.d (.int (i : Nat)), mO M told) := e_var rfl
            have st := s_ixMO (cf := callF fs G wf (k + 8)) (G := G) (wf := wf) (ρ := ρ2) (M := M) (ts := told) (e1 := .var 2) (d := d) (x_callE (es_cons e1 (es_cons (x_callE (es_cons e2 (es_cons (x_callE (es_cons e3 (es_cons e4 es_nil)) q2) es_nil)) p2) es_nil)) d2) (e_var rfl) hij (by omega)
            exact ⟨_, d, x_cons st (by rw [evalSs]), ⟨_, rfl⟩, d3, fun y => by rw [d4, p4, q4]⟩) hl (by omega) hr ⟨x4, rfl⟩
        have hrg := len_rngO (cf := callF fs G wf (k + 8)) (G := G) (wf := wf) (ρ := [some (.d (encO as)), some (.d (encO bs)), some (.m M.length), some (.d (.int (i : Nat))), x4]) (M := mO M told) (M1 := mO M told) (e1 := .var 1) (ts := bs) (e_var rfl) (by omega)
        refine ⟨_, told', x_cons (x_for hrg b1) (by rw [evalSs]), ⟨_, _, rfl⟩, b3, ?_, fun w y => ?_⟩
        · rw [Nat.add_mul, Nat.one_mul]; exact b4
        · rw [b5]
          have h1 := sumN_mul (ev (co as i) y) (fun j => ev (co bs j) (y + (i : Rat)) * w (i + j)) bs.length
          have h2 : sumN (fun j => ev (co as i) y * ev (co bs j) (y + (i : Rat)) * w (i + j)) bs.length = sumN (fun j => ev (co as i) y * (ev (co bs j) (y + (i : Rat)) * w (i + j))) bs.length := sumN_congr _ fun j _ => by grind
          rw [h2, h1]
          rfl) (by simp) (fun t ht => by rw [(List.mem_replicate.mp ht).2]; exact rw_nil) ⟨none, none, rfl⟩
    have s1 := x_asg (i := 2) (tot_eq (cf := callF fs G wf (k + 8)) (G := G) (wf := wf) (M := M) (ρ := ρ0) (as := as) (bs := bs) rfl rfl hT (by omega))
    have hrg := len_rngO (cf := callF fs G wf (k + 8)) (G := G) (wf := wf) (ρ := [some (.d (encO as)), some (.d (encO bs)), some (.m M.length), none, none]) (M := mO M (List.replicate T [])) (M1 := mO M (List.replicate T [])) (e1 := .var 0) (ts := as) (e_var rfl) (by omega)
    have htop : (mO M told)[M.length]? = some (.lst (encPs told)) := top_get
    have fin := x_fin (fs := fs) (G := G) (wf := wf) (k := k + 8) (i := i) (ws := [.d (encO as), .d (encO bs)]) (M := M) (x := encO (topR told)) (M1 := mO M told) (FA.h (fs := fs) (i := i) (fn := lOMul pa pm mv tp)) rfl
      (x_cons (x_ifF ht) (x_cons s1 (x_cons (x_for hrg e) (x_stop (x_ret (x_callE (es_cons (w := .m M.length) (M1 := mO M told) (e_var rfl) es_nil) (otopL_eq (k := k + 7) (by rw [derefR_m, deref_m, htop]) (by rw [deref_m, htop]) (by omega))))))))
    rw [show (mO M told).take M.length = M from top_take] at fin
    have hSc : as.length * bs.length * c ≤ S * c := Nat.mul_le_mul_right _ hS
    refine ⟨topR told, fin, Rws.top (a2.mono (by omega) (Nat.le_refl _) (Nat.le_refl _)), ot_top _, Nat.le_trans (topR_len _) (by omega), fun w x => ?_⟩
    rw [sw_top, a3, sw_rep]
    show 0 + sumN _ _ = sumN _ _
    grind
end
end EV

/-! EvZ23: op_times; _law_oadd; op_by, _law_oscale, op_moved. -/
namespace EV
open PySem
section
variable {G : List PyData} {wf : Nat} {M : Mem} {fs : List Fn} {i k s mu mv tp B v m L w l K R S Vp mp Lp c p o r z y g1 pa pm pu N ci : Nat} {as bs : List (List Rat)} {v2 m2 L2 : Nat}
theorem pairs_len : ∀ (n : Nat) (xs : List PyData), (pairs n xs).length = xs.length
  | _, [] => rfl
  | n, x :: xs => by
    show (pairs (n + 1) xs).length + 1 = _
    rw [pairs_len (n + 1) xs]
    rfl
theorem t_tup {cf : Nat → List W → Mem → Option (W × Mem)} {ρ : Loc} {e : E} {xs : List PyData} (h : evalE cf G wf e ρ M = some (.d (.tuple xs), M)) : testOf (evalE cf G wf e ρ M) = some (!xs.isEmpty, M) := by
  rw [h]; rfl
theorem otimes_eq [FA fs i (oTimes s mu mv tp)] [FA fs tp oTopP] [WF wf] (ha : Rws B v m L as) (hb : Rws B v2 m2 L2 bs) (la : as.length ≤ 1000) (lb : bs.length ≤ 1000) (ops : Ops fs G wf k B s mu v m L w l K Vp mp Lp c S) (mov : Mov fs G wf k B mv v2 m2 L2 w l K 1000) (hS : as.length * bs.length ≤ S) :
    ∃ ts, callF fs G wf (k + 9) i [.d (encO as), .d (encO bs)] M = some (.d (encO ts), M) ∧ Rws B (Vp + S * c) mp Lp ts ∧ OT ts ∧ ts.length ≤ as.length + bs.length - 1 ∧ ∀ w x, sw ts w x = sw as (fun i => sw bs (fun j => w (i + j)) (x + (i : Rat))) x := by
  let ρ0 : Loc := [some (.d (encO as)), some (.d (encO bs)), none, none, none, none, none]
  have c1 : evalE (callF fs G wf (k + 8)) G wf (.not (.var 0)) ρ0 M = some (.d (.bool as.isEmpty), M) := by
    cases as <;> simp [evalE, evalEs, evalB, evalIt, evalS, evalSs, evalTg, allB, allI, deref_d, deref_m, derefR_d, derefR_m, derefR_r, db_len, db_abs, db_int, db_all, db_any, db_sum, db_tuple, db_list, db_max, db_min, db_gcd, db_isi, derefs_nil, derefs_cons, plain_nil, plain_d, give_f, give_t, p_add, p_addT, p_addL, p_sub, p_mul, p_fdiv, p_mod, p_pow, p_lt, p_le, p_gt, p_ge, p_ixL, p_ixT, at_0, at_1, at_2, at_n, p_eqI, p_neI, s_nn, s_bb, s_in, s_bn, s_tn, s_ln, s_sn, s_nb, s_ib, s_tb, s_lb, s_sb, p_is, p_isn, q_lenL, q_lenT, q_abs, q_int, q_intb, q_all, q_any, q_sum, q_tupL, q_tupT, q_lstL, q_lstT, q_max, q_min, q_gcd, q_isi, t_tt, t_tl, t_ti, t_tb, t_tn, t_ts, t_it, t_il, t_ii, t_ib, t_in, t_is, t_bt, t_bl, t_bi, t_bb, t_bn, t_bs, t_st, t_sl, t_si, t_sb, t_sn, t_ss, r_none, r_bool, r_int, r_list, r_tup, f_d, st_m, pl_n, pl_0, pl_1, m_app, m_pop, tof_s, bt_v, sw_c, sw_n, ag_a, ρ0]
  have c2 : evalE (callF fs G wf (k + 8)) G wf (.not (.var 1)) ρ0 M = some (.d (.bool bs.isEmpty), M) := by
    cases bs <;> simp [evalE, evalEs, evalB, evalIt, evalS, evalSs, evalTg, allB, allI, deref_d, deref_m, derefR_d, derefR_m, derefR_r, db_len, db_abs, db_int, db_all, db_any, db_sum, db_tuple, db_list, db_max, db_min, db_gcd, db_isi, derefs_nil, derefs_cons, plain_nil, plain_d, give_f, give_t, p_add, p_addT, p_addL, p_sub, p_mul, p_fdiv, p_mod, p_pow, p_lt, p_le, p_gt, p_ge, p_ixL, p_ixT, at_0, at_1, at_2, at_n, p_eqI, p_neI, s_nn, s_bb, s_in, s_bn, s_tn, s_ln, s_sn, s_nb, s_ib, s_tb, s_lb, s_sb, p_is, p_isn, q_lenL, q_lenT, q_abs, q_int, q_intb, q_all, q_any, q_sum, q_tupL, q_tupT, q_lstL, q_lstT, q_max, q_min, q_gcd, q_isi, t_tt, t_tl, t_ti, t_tb, t_tn, t_ts, t_it, t_il, t_ii, t_ib, t_in, t_is, t_bt, t_bl, t_bi, t_bb, t_bn, t_bs, t_st, t_sl, t_si, t_sb, t_sn, t_ss, r_none, r_bool, r_int, r_list, r_tup, f_d, st_m, pl_n, pl_0, pl_1, m_app, m_pop, tof_s, bt_v, sw_c, sw_n, ag_a, ρ0]
  have ht : testOf (evalE (callF fs G wf (k + 8)) G wf (.or (.cons (.not (.var 0)) (.cons (.not (.var 1)) .nil))) ρ0 M) = some (as.isEmpty || bs.isEmpty, M) := by
    cases h0 : as.isEmpty with
    | true =>
      rw [h0] at c1
      rw [Bool.true_or]
      exact t_bool (e_or (b_stop c1 (by decide)))
    | false =>
      rw [h0] at c1
      rw [Bool.false_or]
      exact t_bool (e_or (b_go c1 (b_one c2)))
  cases he : (as.isEmpty || bs.isEmpty) with
  | true =>
    rw [he] at ht
    refine ⟨[], ret_d (k := k + 8) FA.h rfl (x_stop (x_ifT ht (x_stop (x_ret (e_tup es_nil rfl (Nat.zero_le _)))))), fun t h => (by cases h), fun t h => (by cases h), Nat.zero_le _, fun w x => ?_⟩
    rw [Bool.or_eq_true, List.isEmpty_iff, List.isEmpty_iff] at he
    rw [sw_nil]
    rcases he with rfl | rfl
    · rfl
    · exact (sumN_zero _ fun i _ => by show _ * (0 : Rat) = 0; grind).symm
  | false =>
    rw [he] at ht
    rw [Bool.or_eq_false_iff] at he
    have f1 : 1 ≤ as.length := by
      cases as with
      | nil => cases he.1
      | cons _ _ => simp
    have f2 : 1 ≤ bs.length := by
      cases bs with
      | nil => cases he.2
      | cons _ _ => simp
    obtain ⟨T, hT⟩ : ∃ T, as.length + bs.length = T + 1 := ⟨as.length + bs.length - 1, by omega⟩
    let I2 : Nat → Loc → Prop := fun i ρ => ∃ x5 x6, ρ = [some (.d (encO as)), some (.d (encO bs)), some (.m M.length), some (.d (.int (i : Nat))), some (.d (encP (co as i))), x5, x6]
    let I1 : Loc → Prop := fun ρ => ∃ x3 x4 x5 x6, ρ = [some (.d (encO as)), some (.d (encO bs)), some (.m M.length), x3, x4, x5, x6]
    obtain ⟨ρ', told, e, ⟨x3, x4, x5, x6, rfl⟩, a1, a2, a3⟩ := rows_outer (f := turnG (callF fs G wf (k + 8)) G wf (.tv [3, 4]) (oMB1 s mu mv)) (xs := pairs 0 (encPs as)) (I := I1) (B := B) (Vp := Vp) (c := c) (mp := mp) (Lp := Lp) (T := T) (n := bs.length) (N := as.length) (told0 := List.replicate T []) (M := M)
      (g := fun i w x => ev (co as i) x * sw bs (fun j => w (i + j)) (x + (i : Rat))) (ρ0 := [some (.d (encO as)), some (.d (encO bs)), some (.m M.length), none, none, none, none]) (by rw [pairs_len, List.length_map]) (fun i x ρ told hx hi hI hl hr => by
        obtain ⟨u, hu, rfl⟩ := pairs_at hx
        obtain ⟨x3, x4, x5, x6, rfl⟩ := hI
        have hai := List.getElem?_eq_getElem hi
        rw [List.getElem?_map, hai] at hu
        have hu : encP as[i] = u := Option.some.inj hu
        rw [← co_at hai] at hu
        subst hu
        let ρ1 : Loc := [some (.d (encO as)), some (.d (encO bs)), some (.m M.length), some (.d (.int (i : Nat))), some (.d (encP (co as i))), x5, x6]
        show ∃ ρ' told', evalSs (callF fs G wf (k + 8)) G wf (oMB1 s mu mv) ρ1 (mO M told) = some (.nx ρ' (mO M told')) ∧ _
        have hte : testOf (evalE (callF fs G wf (k + 8)) G wf (.var 4) ρ1 (mO M told)) = some (!(encs (co as i)).isEmpty, mO M told) := t_tup (e_var rfl)
        cases h0 : (co as i).isEmpty with
        | true =>
          have h1 : (encs (co as i)).isEmpty = true := by rw [List.isEmpty_iff] at h0 ⊢; rw [h0]; rfl
          rw [h1] at hte
          have hb2 : i * bs.length * c ≤ (i + 1) * bs.length * c := Nat.mul_le_mul_right _ (Nat.mul_le_mul_right _ (by omega))
          refine ⟨ρ1, told, x_cons (x_ifF hte) (by rw [evalSs]), ⟨_, _, _, _, rfl⟩, hl, hr.mono (by omega) (Nat.le_refl _) (Nat.le_refl _), fun w y => ?_⟩
          rw [List.isEmpty_iff] at h0
          rw [h0, ev_nil]
          grind
        | false =>
          have h1 : (encs (co as i)).isEmpty = false := by
            cases hc : co as i with
            | nil => rw [hc] at h0; cases h0
            | cons _ _ => rfl
          rw [h1] at hte
          obtain ⟨ρ', told', b1, ⟨y5, y6, rfl⟩, b3, b4, b5⟩ := rows_inner (f := turnG (callF fs G wf (k + 8)) G wf (.tv [5, 6]) (oMB2 s mu mv)) (xs := pairs 0 (encPs bs)) (I := I2 i) (B := B) (Vp := Vp) (c := c) (mp := mp) (Lp := Lp) (T := T) (n := bs.length) (s0 := i * bs.length) (i := i) (told0 := told) (M := M)
            (g := fun j x => ev (co as i) x * ev (co bs j) (x + (i : Rat))) (ρ0 := ρ1) (by rw [pairs_len, List.length_map]) (fun j x ρ told hx hj hI hl hr => by
              obtain ⟨u, hu, rfl⟩ := pairs_at hx
              obtain ⟨y5, y6, rfl⟩ := hI
              have hbj := List.getElem?_eq_getElem hj
              rw [List.getElem?_map, hbj] at hu
              have hu : encP bs[j] = u := Option.some.inj hu
              rw [← co_at hbj] at hu
              subst hu
              let ρ2 : Loc := [some (.d (encO as)), some (.d (encO bs)), some (.m M.length), some (.d (.int (i : Nat))), some (.d (encP (co as i))), some (.d (.int (j : Nat))), some (.d (encP (co bs j)))]
              show ∃ ρ' d, evalSs (callF fs G wf (k + 8)) G wf (oMB2 s mu mv) ρ2 (mO M told) = some (.nx ρ' (mO M (told.set (i + j) d))) ∧ _
              have hij : evalE (callF fs G wf (k + 8)) G wf (.op2 false .add (.var 3) (.var 5)) ρ2 (mO M told) = some (.d (.int ((i + j : Nat) : Int)), mO M told) := x_opG (x := .int (i : Nat)) (y := .int (j : Nat)) (M1 := mO M told) (e_var rfl) (e_var rfl) p_add (by decide)
              have e1 := x_ixMO (cf := callF fs G wf (k + 8)) (G := G) (wf := wf) (ρ := ρ2) (M := M) (ts := told) (e1 := .var 2) (e_var rfl) hij (by omega)
              have e2 : evalE (callF fs G wf (k + 8)) G wf (.var 4) ρ2 (mO M told) = some (.d (encP (co as i)), mO M told) := e_var rfl
              have e3 : evalE (callF fs G wf (k + 8)) G wf (.var 6) ρ2 (mO M told) = some (.d (encP (co bs j)), mO M told) := e_var rfl
              have e4 : evalE (callF fs G wf (k + 8)) G wf (.var 3) ρ2 (mO M told) = some (.d (.int (i : Nat)), mO M told) := e_var rfl
              obtain ⟨q1, q2, q3, q4⟩ := mov (mO M told) (co bs j) i (by omega) (co_rw hb j)
              obtain ⟨p1, p2, p3, p4⟩ := ops.mul (mO M told) (co as i) q1 (co_rw ha i) q3
              have hlt : i * bs.length + j < S := by
                have : (i + 1) * bs.length ≤ as.length * bs.length := Nat.mul_le_mul_right _ hi
                rw [Nat.add_mul, Nat.one_mul] at this
                omega
              obtain ⟨d, d2, d3, d4⟩ := ops.add (mO M told) (i * bs.length + j) (co told (i + j)) p1 hlt (co_rw hr _) p3
              have st := s_ixMO (cf := callF fs G wf (k + 8)) (G := G) (wf := wf) (ρ := ρ2) (M := M) (ts := told) (e1 := .var 2) (d := d) (x_callE (es_cons e1 (es_cons (x_callE (es_cons e2 (es_cons (x_callE (es_cons e3 (es_cons e4 es_nil)) q2) es_nil)) p2) es_nil)) d2) (e_var rfl) hij (by omega)
              exact ⟨_, d, x_cons st (by rw [evalSs]), ⟨_, _, rfl⟩, d3, fun y => by rw [d4, p4, q4]⟩) hl (by omega) hr ⟨x5, x6, rfl⟩
          have hit : evalIt (callF fs G wf (k + 8)) G wf (.enum (.var 1)) ρ1 (mO M told) = some (.its (pairs 0 (encPs bs)), mO M told) := by
            simp only [evalIt, evalE, List.getElem?_cons_zero, List.getElem?_cons_succ, seqs, ρ1]
          refine ⟨_, told', x_cons (x_ifT hte (x_cons (x_for hit b1) (by rw [evalSs]))) (by rw [evalSs]), ⟨_, _, _, _, rfl⟩, b3, ?_, fun w y => ?_⟩
          · rw [Nat.add_mul, Nat.one_mul]; exact b4
          · rw [b5]
            have h1 := sumN_mul (ev (co as i) y) (fun j => ev (co bs j) (y + (i : Rat)) * w (i + j)) bs.length
            have h2 : sumN (fun j => ev (co as i) y * ev (co bs j) (y + (i : Rat)) * w (i + j)) bs.length = sumN (fun j => ev (co as i) y * (ev (co bs j) (y + (i : Rat)) * w (i + j))) bs.length := sumN_congr _ fun j _ => by grind
            rw [h2, h1]
            rfl) (by simp) (fun t ht => by rw [(List.mem_replicate.mp ht).2]; exact rw_nil) ⟨none, none, none, none, rfl⟩
    have s1 := x_asg (i := 2) (tot_eq (cf := callF fs G wf (k + 8)) (G := G) (wf := wf) (M := M) (ρ := ρ0) (as := as) (bs := bs) rfl rfl hT (by omega))
    have hit : evalIt (callF fs G wf (k + 8)) G wf (.enum (.var 0)) [some (.d (encO as)), some (.d (encO bs)), some (.m M.length), none, none, none, none] (mO M (List.replicate T [])) = some (.its (pairs 0 (encPs as)), mO M (List.replicate T [])) := by
      simp only [evalIt, evalE, List.getElem?_cons_zero, List.getElem?_cons_succ, seqs]
    have htop : (mO M told)[M.length]? = some (.lst (encPs told)) := top_get
    have fin := x_fin (fs := fs) (G := G) (wf := wf) (k := k + 8) (i := i) (ws := [.d (encO as), .d (encO bs)]) (M := M) (x := encO (topR told)) (M1 := mO M told) (FA.h (fs := fs) (i := i) (fn := oTimes s mu mv tp)) rfl
      (x_cons (x_ifF ht) (x_cons s1 (x_cons (x_for hit e) (x_stop (x_ret (x_callE (es_cons (w := .m M.length) (M1 := mO M told) (e_var rfl) es_nil) (otopP_eq (k := k + 7) (by rw [derefR_m, deref_m, htop]) (by rw [deref_m, htop]) (by omega))))))))
    rw [show (mO M told).take M.length = M from top_take] at fin
    have hSc : as.length * bs.length * c ≤ S * c := Nat.mul_le_mul_right _ hS
    refine ⟨topR told, fin, Rws.top (a2.mono (by omega) (Nat.le_refl _) (Nat.le_refl _)), ot_top _, Nat.le_trans (topR_len _) (by omega), fun w x => ?_⟩
    rw [sw_top, a3, sw_rep]
    show 0 + sumN _ _ = sumN _ _
    grind
end
/-! ### _law_oadd -/
def lOA1 : Ss := .cons (.asgIx (.var 2) (.var 3) (.op2 false .ix (.var 0) (.var 3))) .nil
def lOA2 (pa : Nat) : Ss := .cons (.asgIx (.var 2) (.var 3) (.call pa (.cons (.op2 false .ix (.var 2) (.var 3)) (.cons (.op2 false .ix (.var 1) (.var 3)) .nil)))) .nil
def lOAdd (pa tp : Nat) : Fn := ⟨2, 4,
  (.cons (.asg 2 (.op2 true .mul (.lst false (.cons (.tup .nil) .nil)) (.blt false .max (.cons (.blt false .len (.cons (.var 0) .nil)) (.cons (.blt false .len (.cons (.var 1) .nil)) .nil)))))
  (.cons (.fr (.v 3) (.rng (.cons (.blt false .len (.cons (.var 0) .nil)) .nil)) lOA1)
  (.cons (.fr (.v 3) (.rng (.cons (.blt false .len (.cons (.var 1) .nil)) .nil)) (lOA2 pa))
  (.cons (.ret (.call tp (.cons (.var 2) .nil)))
  .nil))))⟩
section
variable {G : List PyData} {wf : Nat} {M : Mem} {fs : List Fn} {i k pa tp B v m L w K : Nat} {as bs : List (List Rat)}
theorem oadd_eq [FA fs i (lOAdd pa tp)] [FA fs tp oTopL] [WF wf] (ha : Rws B v m L as) (hb : Rws B v m L bs) (la : as.length ≤ 100000) (lb : bs.length ≤ 100000) (hvw : v ≤ w) (hLK : L ≤ K)
    (hs : ∀ (M : Mem) (t u : List Rat), Rw B v m L t → Rw B v m L u → ∃ r, callF fs G wf (k + 8) pa [.d (encP t), .d (encP u)] M = some (.d (encP r), M) ∧ Rw B w m K r ∧ ∀ x, ev r x = ev t x + ev u x) :
    ∃ ts, callF fs G wf (k + 9) i [.d (encO as), .d (encO bs)] M = some (.d (encO ts), M) ∧ Rws B w m K ts ∧ OT ts ∧ ts.length ≤ max as.length bs.length ∧ ∀ i x, ev (co ts i) x = ev (co as i) x + ev (co bs i) x := by
  have hz := EV.sizeLine_eq
  generalize hn : max as.length bs.length = T
  let st : Option W → Loc := fun x3 => [some (.d (encO as)), some (.d (encO bs)), some (.m M.length), x3]
  let ρ0 : Loc := [some (.d (encO as)), some (.d (encO bs)), none, none]
  have m0 := e_maxN (cf := callF fs G wf (k + 8)) (G := G) (wf := wf) (M := M) (M1 := M) (M2 := M) (ρ := ρ0) (e_lenO (e1 := .var 0) (ts := as) (M := M) (M1 := M) (e_var rfl)) (e_lenO (e1 := .var 1) (ts := bs) (M := M) (M1 := M) (e_var rfl))
  rw [hn] at m0
  have e1 : evalE (callF fs G wf (k + 8)) G wf (.lst false (.cons (.tup .nil) .nil)) ρ0 M = some (.d (.list [.tuple []]), M) := e_lstF (es_cons (e_tup es_nil rfl (Nat.zero_le _)) es_nil) rfl (by rw [hz]; show 1 ≤ _; decide)
  have s1 := x_opM e1 m0 (mul_repG _ (n := T) (by omega)) (by decide)
  rw [← encPs_rep] at s1
  have hr1 := len_rngO (cf := callF fs G wf (k + 8)) (G := G) (wf := wf) (ρ := st none) (M := mO M (List.replicate T [])) (M1 := mO M (List.replicate T [])) (e1 := .var 0) (ts := as) (e_var rfl) (by omega)
  obtain ⟨ρ1, M1, f1, t1, x3, rfl, hM1, a1, a2⟩ := forL_for (f := turnG (callF fs G wf (k + 8)) G wf (.v 3) lOA1) (xs := irng 0 1 as.length) (fun j ρ M' => ∃ (t : List (List Rat)) (x3 : Option W), ρ = st x3 ∧ M' = mO M t ∧ t.length = T ∧ ∀ n, co t n = if n < j then co as n else [])
    (fun ρ M' => ∃ (t : List (List Rat)) (x3 : Option W), ρ = st x3 ∧ M' = mO M t ∧ t.length = T ∧ ∀ n, co t n = co as n) (fun j x ρ M' hx hI => by
      obtain ⟨rfl, hj⟩ := irng_at hx
      obtain ⟨t, x3, rfl, rfl, h1, h2⟩ := hI
      rw [x_turn]
      let ρ2 : Loc := st (some (.d (.int (j : Nat))))
      have q1 := x_ixO (cf := callF fs G wf (k + 8)) (G := G) (wf := wf) (ρ := ρ2) (M := mO M t) (M1 := mO M t) (M2 := mO M t) (ts := as) (e1 := .var 0) (e2 := .var 3) (j := j) (e_var rfl) (e_var rfl) hj
      have q2 := s_ixMO (cf := callF fs G wf (k + 8)) (G := G) (wf := wf) (ρ := ρ2) (M := M) (ts := t) (e1 := .var 2) (e2 := .var 3) (j := j) q1 (e_var rfl) (e_var rfl) (by omega)
      refine ⟨_, _, .inl ⟨x_cons q2 (by rw [evalSs]), t.set j (co as j), _, rfl, rfl, by rw [List.length_set]; exact h1, fun n => ?_⟩⟩
      rw [co_set (by omega)]
      by_cases h : n = j
      · subst h; rw [if_pos rfl, if_pos (by omega)]
      · rw [if_neg h, h2]
        by_cases h3 : n < j
        · rw [if_pos h3, if_pos (by omega)]
        · rw [if_neg h3, if_neg (by omega)]) (fun ρ M' hI => by
      obtain ⟨t, x3, h1, h2, h3, h4⟩ := hI
      rw [irng_length] at h4
      refine ⟨t, x3, h1, h2, h3, fun n => ?_⟩
      rw [h4]
      by_cases h5 : n < as.length
      · rw [if_pos h5]
      · rw [if_neg h5, co_out (by omega)]) (ρ := st none) (M := mO M (List.replicate T [])) ⟨List.replicate T [], none, rfl, rfl, by simp, fun n => by rw [co_rep, if_neg (by omega)]⟩
  subst hM1
  have hr2 := len_rngO (cf := callF fs G wf (k + 8)) (G := G) (wf := wf) (ρ := st x3) (M := mO M t1) (M1 := mO M t1) (e1 := .var 1) (ts := bs) (e_var rfl) (by omega)
  obtain ⟨ρ2, M2, f2, t2, y3, rfl, hM2, b1, b2, b3⟩ := forL_for (f := turnG (callF fs G wf (k + 8)) G wf (.v 3) (lOA2 pa)) (xs := irng 0 1 bs.length) (fun j ρ M' => ∃ (t : List (List Rat)) (x3 : Option W), ρ = st x3 ∧ M' = mO M t ∧ t.length = T ∧ (∀ n, Rw B w m K (co t n)) ∧ ∀ n x, (j ≤ n → co t n = co as n) ∧ (n < j → ev (co t n) x = ev (co as n) x + ev (co bs n) x))
    (fun ρ M' => ∃ (t : List (List Rat)) (x3 : Option W), ρ = st x3 ∧ M' = mO M t ∧ t.length = T ∧ (∀ n, Rw B w m K (co t n)) ∧ ∀ n x, ev (co t n) x = ev (co as n) x + ev (co bs n) x) (fun j x ρ M' hx hI => by
      obtain ⟨rfl, hj⟩ := irng_at hx
      obtain ⟨t, x3, rfl, rfl, h1, h2, h3⟩ := hI
      rw [x_turn]
      let ρ2 : Loc := st (some (.d (.int (j : Nat))))
      have v3 : evalE (callF fs G wf (k + 8)) G wf (.var 3) ρ2 (mO M t) = some (.d (.int (j : Nat)), mO M t) := e_var rfl
      have q0 := x_ixMO (cf := callF fs G wf (k + 8)) (G := G) (wf := wf) (ρ := ρ2) (M := M) (ts := t) (e1 := .var 2) (e_var rfl) v3 (by omega)
      have q1 := x_ixO (cf := callF fs G wf (k + 8)) (G := G) (wf := wf) (ρ := ρ2) (M := mO M t) (M1 := mO M t) (M2 := mO M t) (ts := bs) (e1 := .var 1) (e2 := .var 3) (j := j) (e_var rfl) (e_var rfl) hj
      obtain ⟨d, d1, d2, d3⟩ := hs (mO M t) (co t j) (co bs j) (by rw [(h3 j 0).1 (Nat.le_refl _)]; exact co_rw ha j) (co_rw hb j)
      have q2 := s_ixMO (cf := callF fs G wf (k + 8)) (G := G) (wf := wf) (ρ := ρ2) (M := M) (ts := t) (e1 := .var 2) (e2 := .var 3) (j := j) (x_callE (es_cons q0 (es_cons q1 es_nil)) d1) (e_var rfl) v3 (by omega)
      refine ⟨_, _, .inl ⟨x_cons q2 (by rw [evalSs]), t.set j d, _, rfl, rfl, by rw [List.length_set]; exact h1, fun n => ?_, fun n x => ⟨fun h => ?_, fun h => ?_⟩⟩⟩
      · rw [co_set (by omega)]
        by_cases h : n = j
        · rw [if_pos h]; exact d2
        · rw [if_neg h]; exact h2 n
      · rw [co_set (by omega), if_neg (by omega)]
        exact (h3 n x).1 (by omega)
      · rw [co_set (by omega)]
        by_cases h4 : n = j
        · subst h4
          rw [if_pos rfl, d3, (h3 n x).1 (Nat.le_refl _)]
        · rw [if_neg h4]
          exact (h3 n x).2 (by omega)) (fun ρ M' hI => by
      obtain ⟨t, x3, h1, h2, h3, h4, h5⟩ := hI
      rw [irng_length] at h5
      refine ⟨t, x3, h1, h2, h3, h4, fun n x => ?_⟩
      by_cases h6 : n < bs.length
      · exact (h5 n x).2 h6
      · rw [(h5 n x).1 (by omega), co_out (ts := bs) (by omega), ev_nil]
        grind) (ρ := st x3) (M := mO M t1) ⟨t1, x3, rfl, rfl, a1, fun n => by rw [a2]; exact (co_rw ha n).mono hvw (Nat.le_refl _) hLK, fun n x => ⟨fun _ => a2 n, fun h => by omega⟩⟩
  subst hM2
  have htop : (mO M t2)[M.length]? = some (.lst (encPs t2)) := top_get
  have fin := x_fin (fs := fs) (G := G) (wf := wf) (k := k + 8) (i := i) (ws := [.d (encO as), .d (encO bs)]) (M := M) (x := encO (topR t2)) (M1 := mO M t2) (FA.h (fs := fs) (i := i) (fn := lOAdd pa tp)) rfl
    (x_cons (x_asg s1) (x_cons (x_for hr1 f1) (x_cons (x_for hr2 f2) (x_stop (x_ret (x_callE (es_cons (w := .m M.length) (M1 := mO M t2) (e_var rfl) es_nil) (otopL_eq (k := k + 7) (by rw [derefR_m, deref_m, htop]) (by rw [deref_m, htop]) (by omega))))))))
  rw [show (mO M t2).take M.length = M from top_take] at fin
  refine ⟨topR t2, fin, Rws.top fun t ht => ?_, ot_top _, Nat.le_trans (topR_len _) (by omega), fun n x => by rw [co_top]; exact b3 n x⟩
  obtain ⟨j, hj⟩ := List.getElem?_of_mem ht
  rw [← co_at hj]
  exact b2 j
end
/-! ### each one by itself -/
def oEach (e : E) (tp : Nat) : Fn := ⟨2, 3,
  (.cons (.ret (.call tp (.cons (.comp false [2] (.v 2) (.seq (.var 1)) (.lit (.bool true)) e) .nil)))
  .nil)⟩
def oBy (mu tp : Nat) : Fn := oEach (.call mu (.cons (.var 0) (.cons (.var 2) .nil))) tp
def oMoved (mv : Nat) : Fn := ⟨2, 3,
  (.cons (.ret (.blt false .tuple (.cons (.comp false [2] (.v 2) (.seq (.var 0)) (.lit (.bool true)) (.call mv (.cons (.var 2) (.cons (.var 1) .nil)))) .nil)))
  .nil)⟩
section
variable {G : List PyData} {wf : Nat} {M : Mem} {fs : List Fn} {i k mu mv tp B v m L w l K : Nat} {as : List (List Rat)} {f : List Rat}
theorem map_each {cf : Nat → List W → Mem → Option (W × Mem)} {own : List Nat} {tg : T} {e : E} {it : It} {ρ : Loc} {P : List Rat → List Rat → Prop} (hit : evalIt cf G wf it ρ M = some (.its (encPs as), M)) (la : as.length ≤ 100000)
    (hs : ∀ t ∈ as, ∃ ρ2 r, bindT tg (encP t) (wipeL ρ own) = some ρ2 ∧ evalE cf G wf e ρ2 M = some (.d (encP r), M) ∧ P t r) :
    ∃ ts, evalE cf G wf (.comp false own tg it (.lit (.bool true)) e) ρ M = some (.d (.list (encPs ts)), M) ∧ ts.length = as.length ∧ ∀ j, j < as.length → P (co as j) (co ts j) := by
  have hz := EV.sizeLine_eq
  obtain ⟨ts, c1, c2, c3⟩ := compP (f := tc cf G wf own tg (.lit (.bool true)) e ρ) (M := M) (P := fun j r => P (co as j) r) (encPs as) 0 [] (by rw [List.length_map, hz]; show 0 + _ ≤ _; omega) (fun j x hx => by
    rw [List.getElem?_map] at hx
    cases hj : as[j]? with
    | none => rw [hj] at hx; cases hx
    | some t =>
      rw [hj] at hx
      have hx : encP t = x := Option.some.inj hx
      subst hx
      obtain ⟨ρ2, r, r1, r2, r3⟩ := hs t (List.mem_of_getElem? hj)
      exact ⟨r, fun acc ha => tc_go r1 t_lit r2 ha, by rw [Nat.zero_add, co_at hj]; exact r3⟩)
  rw [List.length_map] at c2
  refine ⟨ts, x_comp hit c1 rfl, c2, fun j hj => ?_⟩
  have h := List.getElem?_eq_getElem (show j < ts.length by omega)
  have := c3 j _ h
  rw [Nat.zero_add] at this
  rw [co_at h]
  exact this
theorem oby_eq {op : E → E} [WF wf] (h : fs[i]? = some (oBy mu tp)) (htp : ∀ (M : Mem) (ts : List (List Rat)), ts.length < 1000000 → callF fs G wf (k + 8) tp [.d (.list (encPs ts))] M = some (.d (encO (topR ts)), M)) (ha : Rws B v m L as) (la : as.length ≤ 100000)
    (hs : ∀ t : List Rat, Rw B v m L t → ∃ r, callF fs G wf (k + 8) mu [.d (encP f), .d (encP t)] M = some (.d (encP r), M) ∧ Rw B w l K r ∧ ∀ x, ev r x = ev f x * ev t x) :
    ∃ ts, callF fs G wf (k + 9) i [.d (encP f), .d (encO as)] M = some (.d (encO ts), M) ∧ Rws B w l K ts ∧ OT ts ∧ ts.length ≤ as.length ∧ ∀ i x, ev (co ts i) x = ev f x * ev (co as i) x := by
  let ρ0 : Loc := [some (.d (encP f)), some (.d (encO as)), none]
  have hit : evalIt (callF fs G wf (k + 8)) G wf (.seq (.var 1)) ρ0 M = some (.its (encPs as), M) := by
    simp only [evalIt, evalE, List.getElem?_cons_zero, List.getElem?_cons_succ, items, ρ0]
  obtain ⟨ts, c1, c2, c3⟩ := map_each (own := [2]) (tg := .v 2) (e := .call mu (.cons (.var 0) (.cons (.var 2) .nil))) (P := fun t r => Rw B w l K r ∧ ∀ x, ev r x = ev f x * ev t x) hit la (fun t ht => by
    obtain ⟨r, r1, r2, r3⟩ := hs t (ha t ht)
    exact ⟨[some (.d (encP f)), some (.d (encO as)), some (.d (encP t))], r, rfl, x_callE (es_cons (e_var rfl) (es_cons (e_var rfl) es_nil)) r1, r2, r3⟩)
  refine ⟨topR ts, ret_d (k := k + 8) h rfl (x_stop (x_ret (x_callE (es_cons c1 es_nil) (htp M ts (by omega))))), Rws.top fun t ht => ?_, ot_top _, Nat.le_trans (topR_len _) (by omega), fun j x => ?_⟩
  · obtain ⟨j, hj⟩ := List.getElem?_of_mem ht
    have := (c3 j (by have := (List.getElem?_eq_some_iff.mp hj).1; omega)).1
    rw [co_at hj] at this
    exact this
  · rw [co_top]
    by_cases hj : j < as.length
    · exact (c3 j hj).2 x
    · rw [co_out (by omega), co_out (ts := as) (by omega), ev_nil]
      grind
theorem omoved_eq {a : Int} [FA fs i (oMoved mv)] (ha : Rws B v m L as) (oa : OT as) (la : as.length ≤ 100000)
    (hs : ∀ t : List Rat, Rw B v m L t → ∃ r, callF fs G wf (k + 8) mv [.d (encP t), .d (.int a)] M = some (.d (encP r), M) ∧ Rw B w l K r ∧ ∀ x, ev r x = ev t (a + x)) :
    ∃ ts, callF fs G wf (k + 9) i [.d (encO as), .d (.int a)] M = some (.d (encO ts), M) ∧ Rws B w l K ts ∧ OT ts ∧ ts.length ≤ as.length ∧ ∀ i x, ev (co ts i) x = ev (co as i) (a + x) := by
  let ρ0 : Loc := [some (.d (encO as)), some (.d (.int a)), none]
  have hit : evalIt (callF fs G wf (k + 8)) G wf (.seq (.var 0)) ρ0 M = some (.its (encPs as), M) := by
    simp only [evalIt, evalE, List.getElem?_cons_zero, List.getElem?_cons_succ, items, ρ0]
  obtain ⟨ts, c1, c2, c3⟩ := map_each (own := [2]) (tg := .v 2) (e := .call mv (.cons (.var 2) (.cons (.var 1) .nil))) (P := fun t r => Rw B w l K r ∧ ∀ x, ev r x = ev t (a + x)) hit la (fun t ht => by
    obtain ⟨r, r1, r2, r3⟩ := hs t (ha t ht)
    exact ⟨[some (.d (encO as)), some (.d (.int a)), some (.d (encP t))], r, rfl, x_callE (es_cons (e_var rfl) (es_cons (e_var rfl) es_nil)) r1, r2, r3⟩)
  refine ⟨ts, ret_d (k := k + 8) FA.h rfl (x_stop (x_ret (e_tupL c1))), fun t ht => ?_, fun t ht h0 => ?_, by omega, fun j x => ?_⟩
  · obtain ⟨j, hj⟩ := List.getElem?_of_mem ht
    have := (c3 j (by have := (List.getElem?_eq_some_iff.mp hj).1; omega)).1
    rw [co_at hj] at this
    exact this
  · subst h0
    rw [List.getLast?_eq_getElem?, c2] at ht
    have hlt := (List.getElem?_eq_some_iff.mp ht).1
    have h1 := (c3 (as.length - 1) (by omega)).2
    rw [co_at ht] at h1
    have h2 : as[as.length - 1]? = some as[as.length - 1] := List.getElem?_eq_getElem (by omega)
    rw [co_at h2] at h1
    refine oa _ (by rw [List.getLast?_eq_getElem?]; exact h2) ?_
    refine ev_inj (ha _ (List.getElem_mem _)).tr (fun q h => by cases h) fun x => ?_
    have := h1 (x - (a : Rat))
    rw [show (a : Rat) + (x - (a : Rat)) = x by grind] at this
    rw [← this]
    rfl
  · by_cases hj : j < as.length
    · exact (c3 j hj).2 x
    · rw [co_out (by omega), co_out (ts := as) (by omega)]
      rfl
end
end EV

/-! EvZ24: what operators make of values; operators by digits. -/
namespace EV
open PySem
abbrev vat (vs : List Rat) (i : Nat) : Rat := vs.getD i 0
theorem vat_at {vs : List Rat} {i : Nat} {q : Rat} (h : vs[i]? = some q) : vat vs i = q := by
  rw [vat, List.getD_eq_getElem?_getD, h]
  rfl
theorem vat_q {B v m : Nat} {vs : List Rat} (h : Qbs B v m vs) (i : Nat) : Qb B v m (vat vs i) := by
  cases hi : vs[i]? with
  | some q => rw [vat_at hi]; exact h q (List.mem_of_getElem? hi)
  | none => rw [vat, List.getD_eq_getElem?_getD, hi]; exact qb_zero
/-- what as makes of vs -/
def mk (as : List (List Rat)) (vs : List Rat) : List Rat := (List.range (vs.length - (as.length - 1))).map fun n => sw as (fun i => vat vs (n + i)) (n : Rat)
theorem mk_len (as : List (List Rat)) (vs : List Rat) : (mk as vs).length = vs.length - (as.length - 1) := by
  unfold mk
  rw [List.length_map, List.length_range]
theorem mk_at {as : List (List Rat)} {vs : List Rat} {n : Nat} (h : n < vs.length - (as.length - 1)) : (mk as vs)[n]? = some (sw as (fun i => vat vs (n + i)) (n : Rat)) := by
  unfold mk
  rw [List.getElem?_map, List.getElem?_range h]
  rfl
def mkB (p o vl : Nat) : Ss := .cons (.ife (.var 5) (.cons (.asg 3 (.call p (.cons (.var 3) (.cons (.call o (.cons (.call vl (.cons (.var 5) (.cons (.tup (.cons (.var 2) (.cons (.lit (.int 1)) .nil))) .nil))) (.cons (.op2 false .ix (.var 1) (.op2 false .add (.var 2) (.var 4))) .nil))) .nil)))) .nil) .nil) .nil
def oMakesAt (z p o vl : Nat) : Fn := ⟨3, 6,
  (.cons (.asg 3 (.glb z))
  (.cons (.fr (.tv [4, 5]) (.enum (.var 0)) (mkB p o vl))
  (.cons (.ret (.var 3))
  .nil)))⟩
def oMakes (ma : Nat) : Fn := ⟨2, 3,
  (.cons (.ret (.blt false .tuple (.cons (.comp false [2] (.v 2) (.rng (.cons (.op2 false .sub (.blt false .len (.cons (.var 1) .nil)) (.blt false .max (.cons (.op2 false .sub (.blt false .len (.cons (.var 0) .nil)) (.lit (.int 1))) (.cons (.lit (.int 0)) .nil)))) .nil)) (.lit (.bool true)) (.call ma (.cons (.var 0) (.cons (.var 1) (.cons (.var 2) .nil))))) .nil)))
  .nil)⟩
section
variable {G : List PyData} {wf : Nat} {M : Mem} {fs : List Fn} {i k z p o vl r N B v m L w l ma b n : Nat} {as : List (List Rat)} {vs : List Rat}
/-- a member of values -/
theorem x_ixV {cf : Nat → List W → Mem → Option (W × Mem)} {ρ : Loc} {M1 M2 : Mem} {e1 e2 : E} {j : Nat} (h1 : evalE cf G wf e1 ρ M = some (.d (encP vs), M1)) (h2 : evalE cf G wf e2 ρ M1 = some (.d (.int (j : Nat)), M2)) (hj : j < vs.length) : evalE cf G wf (.op2 false .ix e1 e2) ρ M = some (.d (enc (vat vs j)), M2) := by
  refine x_ixG h1 h2 ?_
  have h := List.getElem?_eq_getElem hj
  rw [at_n, List.getElem?_map, vat_at h, h]
  rfl
theorem x_ixVL {cf : Nat → List W → Mem → Option (W × Mem)} {ρ : Loc} {M1 M2 : Mem} {e1 e2 : E} {j : Nat} (h1 : evalE cf G wf e1 ρ M = some (.d (.list (encs vs)), M1)) (h2 : evalE cf G wf e2 ρ M1 = some (.d (.int (j : Nat)), M2)) (hj : j < vs.length) : evalE cf G wf (.op2 false .ix e1 e2) ρ M = some (.d (enc (vat vs j)), M2) := by
  refine x_ixL h1 h2 ?_
  have h := List.getElem?_eq_getElem hj
  rw [at_n, List.getElem?_map, vat_at h, h]
  rfl
/-- the bound of one summand -/
abbrev mkV (v L b w : Nat) : Nat := v + L * (b + 1) + w
theorem makesat_eq [FA fs i (oMakesAt z p o vl)] [FA fs vl (pValE (.glb z) p o)] [FA fs p (pPlus r)] [FA fs o (pProd r)] [GA G z (pr 0 1)] [MK fs G wf r N] (ha : Rws B v m L as) (hv : Qbs B w l vs) (hn : n < 2 ^ b) (hl : n + as.length ≤ vs.length ∨ as = []) (hB : 0 < B) (hB2 : B ≤ 256) (hN : 16 * (m + l) + 2 ≤ N) (hV : 2 * (mkV v L b w + as.length + L * (b + 1) + 2 * (b + 1) + v) + 16 * (m + l) + 2 < 100000000) :
    callF fs G wf (k + 9) i [.d (encO as), .d (encP vs), .d (.int (n : Nat))] M = some (.d (enc (sw as (fun i => vat vs (n + i)) (n : Rat))), M) ∧ Qb B (mkV v L b w + as.length) (m + l) (sw as (fun i => vat vs (n + i)) (n : Rat)) := by
  have hmk : mkV v L b w = v + L * (b + 1) + w := rfl
  obtain ⟨ρ', M', e, q, x4, x5, rfl, hM, hq, hq2⟩ := forL_for (f := turnG (callF fs G wf (k + 8)) G wf (.tv [4, 5]) (mkB p o vl)) (xs := pairs 0 (encPs as)) (fun j ρ M' => ∃ (q : Rat) (x4 x5 : Option W), ρ = [some (.d (encO as)), some (.d (encP vs)), some (.d (.int (n : Nat))), some (.d (enc q)), x4, x5] ∧ M' = M ∧ Qb B (mkV v L b w + j) (m + l) q ∧ q = sumN (fun i => ev (co as i) (n : Rat) * vat vs (n + i)) j)
    (fun ρ M' => ∃ (q : Rat) (x4 x5 : Option W), ρ = [some (.d (encO as)), some (.d (encP vs)), some (.d (.int (n : Nat))), some (.d (enc q)), x4, x5] ∧ M' = M ∧ Qb B (mkV v L b w + as.length) (m + l) q ∧ q = sumN (fun i => ev (co as i) (n : Rat) * vat vs (n + i)) as.length) (fun j x ρ M' hx hI => by
      obtain ⟨u, hu, rfl⟩ := pairs_at hx
      obtain ⟨q, x4, x5, rfl, rfl, hq, hq2⟩ := hI
      rw [List.getElem?_map] at hu
      cases haj : as[j]? with
      | none => rw [haj] at hu; cases hu
      | some t =>
        rw [haj] at hu
        have hu : encP t = u := Option.some.inj hu
        subst hu
        have hj : j < as.length := (List.getElem?_eq_some_iff.mp haj).1
        have ht := ha t (List.mem_of_getElem? haj)
        let ρ1 : Loc := [some (.d (encO as)), some (.d (encP vs)), some (.d (.int (n : Nat))), some (.d (enc q)), some (.d (.int (j : Nat))), some (.d (encP t))]
        show ∃ ρ' M'', (evalSs (callF fs G wf (k + 8)) G wf (mkB p o vl) ρ1 M' = some (.nx ρ' M'') ∧ _) ∨ _
        have hte : testOf (evalE (callF fs G wf (k + 8)) G wf (.var 5) ρ1 M') = some (!(encs t).isEmpty, M') := t_tup (e_var rfl)
        cases h0 : (encs t).isEmpty with
        | true =>
          rw [h0] at hte
          have h1 : t = [] := by
            cases t with
            | nil => rfl
            | cons _ _ => cases h0
          refine ⟨ρ1, M', .inl ⟨x_cons (x_ifF hte) (by rw [evalSs]), q, _, _, rfl, rfl, hq.mono (by omega) (Nat.le_refl _), ?_⟩⟩
          show q = sumN _ j + ev (co as j) (n : Rat) * vat vs (n + j)
          rw [co_at haj, h1, ev_nil, hq2]
          grind
        | false =>
          rw [h0] at hte
          have hlen : n + as.length ≤ vs.length := by
            rcases hl with hl | hl
            · exact hl
            · subst hl; cases haj
          have p5 : PE fs G wf k ρ1 M' B (.var 5) v m L (ev t) := pe_var rfl ht.tr ht.qb ht.ln
          have hs : sm b (n : Int) := by show (n : Int).natAbs < _; omega
          have q1 := qe_val (i := vl) (p := p) (o := o) (r := r) (N := N) _ (fun k ρ => e_glb GA.h) p5 (qe_int (B := B) (ie_var (ρ := ρ1) (i := 2) (a := (n : Int)) rfl hs)) (hB := hB) (hB2 := hB2) (hN := by omega) (hv := by
            have h3 : (L + 2) * (b + 1) = L * (b + 1) + 2 * (b + 1) := Nat.add_mul _ _ _
            rw [h3]
            omega)
          have i24 : evalE (callF fs G wf (k + 8)) G wf (.op2 false .add (.var 2) (.var 4)) ρ1 M' = some (.d (.int ((n + j : Nat) : Int)), M') := x_opG (x := .int (n : Nat)) (y := .int (j : Nat)) (M1 := M') (e_var rfl) (e_var rfl) p_add (by decide)
          have q2 : QE fs G wf k ρ1 M' B (.op2 false .ix (.var 1) (.op2 false .add (.var 2) (.var 4))) w l (vat vs (n + j)) := ⟨x_ixV (e_var rfl) i24 (by omega), vat_q hv _⟩
          have q3 := (qe_prod (i := o) (r := r) (N := N) q1 q2 (hB := hB) (hB2 := hB2) (hN := by omega) (hv := by omega)).mono (w := mkV v L b w + j) (l := m + l) (h1 := by omega) (h2 := by omega)
          have q4 : QE fs G wf k ρ1 M' B (.var 3) (mkV v L b w + j) (m + l) q := qe_var rfl hq
          have q5 := qe_plus (i := p) (r := r) (N := N) q4 q3 (hB := hB) (hB2 := hB2) (hN := hN) (hv := by omega)
          refine ⟨_, M', .inl ⟨x_cons (x_ifT hte (x_cons (x_asg q5.1) (by rw [evalSs]; try rfl))) (by rw [evalSs]; try rfl), _, some (.d (.int (j : Nat))), some (.d (encP t)), rfl, rfl, q5.2, ?_⟩⟩
          show q + ev t (n : Rat) * vat vs (n + j) = sumN _ j + ev (co as j) (n : Rat) * vat vs (n + j)
          rw [co_at haj, hq2]) (fun ρ M' hI => by
      rw [pairs_len, List.length_map] at hI
      exact hI) (ρ := [some (.d (encO as)), some (.d (encP vs)), some (.d (.int (n : Nat))), some (.d (enc 0)), none, none]) (M := M) ⟨0, none, none, rfl, rfl, qb_zero, rfl⟩
  rw [hM] at e
  have hit : evalIt (callF fs G wf (k + 8)) G wf (.enum (.var 0)) [some (.d (encO as)), some (.d (encP vs)), some (.d (.int (n : Nat))), some (.d (enc 0)), none, none] M = some (.its (pairs 0 (encPs as)), M) := by
    simp only [evalIt, evalE, List.getElem?_cons_zero, List.getElem?_cons_succ, seqs]
  have g0 : evalE (callF fs G wf (k + 8)) G wf (.glb z) [some (.d (encO as)), some (.d (encP vs)), some (.d (.int (n : Nat))), none, none, none] M = some (.d (enc 0), M) := e_glb GA.h
  have := ret_d (fs := fs) (G := G) (wf := wf) (k := k + 8) (i := i) (ws := [.d (encO as), .d (encP vs), .d (.int (n : Nat))]) (M := M) (x := enc q) (FA.h (fs := fs) (i := i) (fn := oMakesAt z p o vl)) rfl (x_cons (x_asg g0) (x_cons (x_for hit e) (x_stop (x_ret (e_var rfl)))))
  rw [hq2] at this hq
  exact ⟨this, hq⟩
theorem makes_eq [FA fs i (oMakes ma)] [FA fs ma (oMakesAt z p o vl)] [FA fs vl (pValE (.glb z) p o)] [FA fs p (pPlus r)] [FA fs o (pProd r)] [GA G z (pr 0 1)] [MK fs G wf r N] (ha : Rws B v m L as) (hv : Qbs B w l vs) (hn : vs.length ≤ 2 ^ b) (hvl : vs.length ≤ 100000) (hl : as.length - 1 ≤ vs.length) (hB : 0 < B) (hB2 : B ≤ 256) (hN : 16 * (m + l) + 2 ≤ N) (hV : 2 * (mkV v L b w + as.length + L * (b + 1) + 2 * (b + 1) + v) + 16 * (m + l) + 2 < 100000000) :
    callF fs G wf (k + 10) i [.d (encO as), .d (encP vs)] M = some (.d (encP (mk as vs)), M) ∧ Qbs B (mkV v L b w + as.length) (m + l) (mk as vs) := by
  have hz := EV.sizeLine_eq
  let ρ0 : Loc := [some (.d (encO as)), some (.d (encP vs)), none]
  have l0 := e_lenO (cf := callF fs G wf (k + 9)) (G := G) (wf := wf) (M := M) (M1 := M) (ρ := ρ0) (e1 := .var 0) (ts := as) (e_var rfl)
  have l1 : evalE (callF fs G wf (k + 9)) G wf (.blt false .len (.cons (.var 1) .nil)) ρ0 M = some (.d (.int (vs.length : Nat)), M) := by
    have := e_len (cf := callF fs G wf (k + 9)) (G := G) (wf := wf) (M := M) (M1 := M) (ρ := ρ0) (e := .var 1) (xs := encs vs) (e_var rfl)
    rw [List.length_map] at this
    exact this
  have l2 : evalE (callF fs G wf (k + 9)) G wf (.blt false .max (.cons (.op2 false .sub (.blt false .len (.cons (.var 0) .nil)) (.lit (.int 1))) (.cons (.lit (.int 0)) .nil))) ρ0 M = some (.d (.int ((as.length - 1 : Nat) : Int)), M) := by
    have e1 := x_opG l0 (b := .lit (.int 1)) (M2 := M) e_lit (p_sub (i := (as.length : Nat)) (j := 1)) (by decide)
    rw [evalE, es_cons e1 (es_cons (w := .d (.int 0)) (M1 := M) e_lit es_nil)]
    have e : (if (0 : Int) > (as.length : Int) - 1 then (0 : Int) else (as.length : Int) - 1) = ((as.length - 1 : Nat) : Int) := by split <;> omega
    simp only [db_max, derefs_cons, derefs_nil, deref_d, q_max, e, give_f]
  have l3 : evalE (callF fs G wf (k + 9)) G wf (.op2 false .sub (.blt false .len (.cons (.var 1) .nil)) (.blt false .max (.cons (.op2 false .sub (.blt false .len (.cons (.var 0) .nil)) (.lit (.int 1))) (.cons (.lit (.int 0)) .nil)))) ρ0 M = some (.d (.int ((vs.length - (as.length - 1) : Nat) : Int)), M) := by
    rw [show ((vs.length - (as.length - 1) : Nat) : Int) = (vs.length : Int) - ((as.length - 1 : Nat) : Int) by omega]
    exact x_opG l1 l2 p_sub (by decide)
  have hat : ∀ j, j < vs.length - (as.length - 1) → callF fs G wf (k + 9) ma [.d (encO as), .d (encP vs), .d (.int (j : Nat))] M = some (.d (enc (sw as (fun i => vat vs (j + i)) (j : Rat))), M) ∧ Qb B (mkV v L b w + as.length) (m + l) (sw as (fun i => vat vs (j + i)) (j : Rat)) := fun j hj =>
    makesat_eq (b := b) ha hv (by omega) (by
      by_cases h0 : as = []
      · exact .inr h0
      · left
        have : as.length ≠ 0 := fun h => h0 (List.length_eq_zero_iff.mp h)
        omega) hB hB2 hN hV
  refine ⟨ret_d (k := k + 9) FA.h rfl (x_stop (x_ret (e_tupL (x_comp (x_rngE l3 (by omega)) (compL_map _ (encs (mk as vs)) [] (by rw [irng_length, List.length_map, mk_len]) (by rw [hz, List.length_map, mk_len]; simp; omega) fun j x y hx hy acc ha2 => ?_) rfl)))), fun q hq => ?_⟩
  · obtain ⟨rfl, hj⟩ := irng_at hx
    rw [List.getElem?_map, mk_at hj] at hy
    have hy : enc (sw as (fun i => vat vs (j + i)) (j : Rat)) = y := Option.some.inj hy
    subst hy
    exact tc_go (ρ2 := [some (.d (encO as)), some (.d (encP vs)), some (.d (.int (j : Nat)))]) rfl t_lit (x_callE (es_cons (e_var rfl) (es_cons (e_var rfl) (es_cons (e_var rfl) es_nil))) (hat j hj).1) ha2
  · obtain ⟨j, hj⟩ := List.getElem?_of_mem hq
    have hj2 : j < vs.length - (as.length - 1) := by
      have := (List.getElem?_eq_some_iff.mp hj).1
      rw [mk_len] at this
      exact this
    rw [mk_at hj2] at hj
    rw [← Option.some.inj hj]
    exact (hat j hj2).2
end
end EV

/-! EvZ25: _law_makes, _law_operator. -/
namespace EV
open PySem
def lmB2 (p o vl : Nat) : Ss := .cons (.asg 4 (.call p (.cons (.var 4) (.cons (.call o (.cons (.call vl (.cons (.op2 false .ix (.var 0) (.var 5)) (.cons (.tup (.cons (.var 3) (.cons (.lit (.int 1)) .nil))) .nil))) (.cons (.op2 false .ix (.var 1) (.op2 false .add (.var 3) (.var 5))) .nil))) .nil)))) .nil
abbrev lZ0 : E := .tup (.cons (.lit (.int 0)) (.cons (.lit (.int 1)) .nil))
def lmB1 (p o vl : Nat) : Ss :=
  .cons (.asg 4 lZ0)
  (.cons (.fr (.v 5) (.rng (.cons (.blt false .len (.cons (.var 0) .nil)) .nil)) (lmB2 p o vl))
  (.cons (.expr (.meth .append (.var 2) (.cons (.var 4) .nil))) .nil))
def lMakes (p o vl : Nat) : Fn := ⟨2, 6,
  (.cons (.asg 2 (.lst true .nil))
  (.cons (.fr (.v 3) (.rng (.cons (.op2 false .add (.op2 false .sub (.blt false .len (.cons (.var 1) .nil)) (.blt false .len (.cons (.var 0) .nil))) (.lit (.int 1))) .nil)) (lmB1 p o vl))
  (.cons (.ret (.var 2))
  .nil)))⟩
theorem mk_succ (as : List (List Rat)) (vs : List Rat) (j : Nat) : (List.range (j + 1)).map (fun n : Nat => sw as (fun i => vat vs (n + i)) (n : Rat)) = (List.range j).map (fun n : Nat => sw as (fun i => vat vs (n + i)) (n : Rat)) ++ [sw as (fun i => vat vs (j + i)) (j : Rat)] := by
  rw [List.range_succ, List.map_append]
  rfl
section
variable {G : List PyData} {wf : Nat} {M : Mem} {fs : List Fn} {i k z p o vl r N B v m L w l ma b n : Nat} {as : List (List Rat)} {vs : List Rat}
theorem lz0_eq {cf : Nat → List W → Mem → Option (W × Mem)} (ρ : Loc) : evalE cf G wf lZ0 ρ M = some (.d (enc 0), M) :=
  e_tup (es_cons e_lit (es_cons e_lit es_nil)) rfl (by rw [EV.sizeLine_eq]; show 2 ≤ _; decide)
/-- values as a tuple or as a list -/
def Vals (vs : List Rat) (d : PyData) : Prop := d = encP vs ∨ d = .list (encs vs)
theorem vals_ix {cf : Nat → List W → Mem → Option (W × Mem)} {ρ : Loc} {M1 M2 : Mem} {e1 e2 : E} {j : Nat} {d : PyData} (hd : Vals vs d) (h1 : evalE cf G wf e1 ρ M = some (.d d, M1)) (h2 : evalE cf G wf e2 ρ M1 = some (.d (.int (j : Nat)), M2)) (hj : j < vs.length) : evalE cf G wf (.op2 false .ix e1 e2) ρ M = some (.d (enc (vat vs j)), M2) := by
  rcases hd with rfl | rfl
  · exact x_ixV h1 h2 hj
  · exact x_ixVL h1 h2 hj
theorem vals_len {cf : Nat → List W → Mem → Option (W × Mem)} {ρ : Loc} {M1 : Mem} {e1 : E} {d : PyData} (hd : Vals vs d) (h1 : evalE cf G wf e1 ρ M = some (.d d, M1)) : evalE cf G wf (.blt false .len (.cons e1 .nil)) ρ M = some (.d (.int (vs.length : Nat)), M1) := by
  rcases hd with rfl | rfl
  · have := e_len h1
    rw [List.length_map] at this
    exact this
  · have := e_lenL h1
    rw [List.length_map] at this
    exact this
theorem lmakes_in {d : PyData} {x5 : Option W} [FA fs vl (pValE lZ0 p o)] [FA fs p (pPlus r)] [FA fs o (pProd r)] [MK fs G wf r N] (hd : Vals vs d) (ha : Rws B v m L as) (hv : Qbs B w l vs) (hn : n < 2 ^ b) (hl : n + as.length ≤ vs.length) (hla : as.length ≤ 1000) (hB : 0 < B) (hB2 : B ≤ 256) (hN : 16 * (m + l) + 2 ≤ N) (hV : 2 * (mkV v L b w + as.length + L * (b + 1) + 2 * (b + 1) + v) + 16 * (m + l) + 2 < 100000000) {c : Nat} :
    ∃ y5, evalS (callF fs G wf (k + 8)) G wf (.fr (.v 5) (.rng (.cons (.blt false .len (.cons (.var 0) .nil)) .nil)) (lmB2 p o vl)) [some (.d (encO as)), some (.d d), some (.m c), some (.d (.int (n : Nat))), some (.d (enc 0)), x5] M = some (.nx [some (.d (encO as)), some (.d d), some (.m c), some (.d (.int (n : Nat))), some (.d (enc (sw as (fun i => vat vs (n + i)) (n : Rat)))), y5] M) := by
  have hmk : mkV v L b w = v + L * (b + 1) + w := rfl
  obtain ⟨ρ', M', e, q, y5, rfl, hM, hq, hq2⟩ := forL_for (f := turnG (callF fs G wf (k + 8)) G wf (.v 5) (lmB2 p o vl)) (xs := irng 0 1 as.length) (fun j ρ M' => ∃ (q : Rat) (x5 : Option W), ρ = [some (.d (encO as)), some (.d d), some (.m c), some (.d (.int (n : Nat))), some (.d (enc q)), x5] ∧ M' = M ∧ Qb B (mkV v L b w + j) (m + l) q ∧ q = sumN (fun i => ev (co as i) (n : Rat) * vat vs (n + i)) j)
    (fun ρ M' => ∃ (q : Rat) (x5 : Option W), ρ = [some (.d (encO as)), some (.d d), some (.m c), some (.d (.int (n : Nat))), some (.d (enc q)), x5] ∧ M' = M ∧ Qb B (mkV v L b w + as.length) (m + l) q ∧ q = sumN (fun i => ev (co as i) (n : Rat) * vat vs (n + i)) as.length) (fun j x ρ M' hx hI => by
      obtain ⟨rfl, hj⟩ := irng_at hx
      obtain ⟨q, x5, rfl, rfl, hq, hq2⟩ := hI
      rw [x_turn]
      let ρ1 : Loc := [some (.d (encO as)), some (.d d), some (.m c), some (.d (.int (n : Nat))), some (.d (enc q)), some (.d (.int (j : Nat)))]
      have ht := co_rw ha j
      have e05 := x_ixO (cf := callF fs G wf (k + 8)) (G := G) (wf := wf) (ρ := ρ1) (M := M') (M1 := M') (M2 := M') (ts := as) (e1 := .var 0) (e2 := .var 5) (j := j) (e_var rfl) (e_var rfl) hj
      have p5 : PE fs G wf k ρ1 M' B (.op2 false .ix (.var 0) (.var 5)) v m L (ev (co as j)) := pe_list e05 ht.tr ht.qb ht.ln
      have hs : sm b (n : Int) := by show (n : Int).natAbs < _; omega
      have q1 := qe_val (i := vl) (p := p) (o := o) (r := r) (N := N) _ (fun k ρ => lz0_eq ρ) p5 (qe_int (B := B) (ie_var (ρ := ρ1) (i := 3) (a := (n : Int)) rfl hs)) (hB := hB) (hB2 := hB2) (hN := by omega) (hv := by
        have h3 : (L + 2) * (b + 1) = L * (b + 1) + 2 * (b + 1) := Nat.add_mul _ _ _
        rw [h3]
        omega)
      have i24 : evalE (callF fs G wf (k + 8)) G wf (.op2 false .add (.var 3) (.var 5)) ρ1 M' = some (.d (.int ((n + j : Nat) : Int)), M') := x_opG (x := .int (n : Nat)) (y := .int (j : Nat)) (M1 := M') (e_var rfl) (e_var rfl) p_add (by decide)
      have v1 : evalE (callF fs G wf (k + 8)) G wf (.var 1) ρ1 M' = some (.d d, M') := e_var rfl
      have q2 : QE fs G wf k ρ1 M' B (.op2 false .ix (.var 1) (.op2 false .add (.var 3) (.var 5))) w l (vat vs (n + j)) := ⟨vals_ix hd v1 i24 (by omega), vat_q hv _⟩
      have q3 := (qe_prod (i := o) (r := r) (N := N) q1 q2 (hB := hB) (hB2 := hB2) (hN := by omega) (hv := by omega)).mono (w := mkV v L b w + j) (l := m + l) (h1 := by omega) (h2 := by omega)
      have q4 : QE fs G wf k ρ1 M' B (.var 4) (mkV v L b w + j) (m + l) q := qe_var rfl hq
      have q5 := qe_plus (i := p) (r := r) (N := N) q4 q3 (hB := hB) (hB2 := hB2) (hN := hN) (hv := by omega)
      refine ⟨_, M', .inl ⟨x_cons (x_asg q5.1) (by rw [evalSs]; try rfl), _, some (.d (.int (j : Nat))), rfl, rfl, q5.2, ?_⟩⟩
      show q + ev (co as j) (n : Rat) * vat vs (n + j) = sumN _ j + ev (co as j) (n : Rat) * vat vs (n + j)
      rw [hq2]) (fun ρ M' hI => by
      rw [irng_length] at hI
      exact hI) (ρ := [some (.d (encO as)), some (.d d), some (.m c), some (.d (.int (n : Nat))), some (.d (enc 0)), x5]) (M := M) ⟨0, x5, rfl, rfl, qb_zero, rfl⟩
  rw [hM] at e
  rw [hq2] at e
  exact ⟨y5, x_for (len_rngO (e_var rfl) (by omega)) e⟩
theorem lmakes_eq {d : PyData} [FA fs i (lMakes p o vl)] [FA fs vl (pValE lZ0 p o)] [FA fs p (pPlus r)] [FA fs o (pProd r)] [MK fs G wf r N] (hd : Vals vs d) (ha : Rws B v m L as) (hv : Qbs B w l vs) (hn : vs.length ≤ 2 ^ b) (hvl : vs.length ≤ 100000) (hl : as.length ≤ vs.length) (h1 : 1 ≤ as.length) (hla : as.length ≤ 1000) (hB : 0 < B) (hB2 : B ≤ 256) (hN : 16 * (m + l) + 2 ≤ N) (hV : 2 * (mkV v L b w + as.length + L * (b + 1) + 2 * (b + 1) + v) + 16 * (m + l) + 2 < 100000000) :
    callF fs G wf (k + 9) i [.d (encO as), .d d] M = some (.d (.list (encs (mk as vs))), M) := by
  have hz := EV.sizeLine_eq
  let g : Nat → Rat := fun n => sw as (fun i => vat vs (n + i)) (n : Rat)
  let T := vs.length - (as.length - 1)
  obtain ⟨ρ', M', e, x3, x4, x5, rfl, hM⟩ := forL_for (f := turnG (callF fs G wf (k + 8)) G wf (.v 3) (lmB1 p o vl)) (xs := irng 0 1 T) (fun j ρ M' => ∃ x3 x4 x5, ρ = [some (.d (encO as)), some (.d d), some (.m M.length), x3, x4, x5] ∧ M' = mM M ((List.range j).map g))
    (fun ρ M' => ∃ x3 x4 x5, ρ = [some (.d (encO as)), some (.d d), some (.m M.length), x3, x4, x5] ∧ M' = mM M (mk as vs)) (fun j x ρ M' hx hI => by
      obtain ⟨rfl, hj⟩ := irng_at hx
      obtain ⟨x3, x4, x5, rfl, rfl⟩ := hI
      rw [x_turn]
      have hjT : j < vs.length - (as.length - 1) := hj
      obtain ⟨y5, f1⟩ := lmakes_in (k := k) (x5 := x5) (M := mM M ((List.range j).map g)) (c := M.length) hd ha hv (n := j) (b := b) (p := p) (o := o) (vl := vl) (r := r) (N := N) (fs := fs) (G := G) (wf := wf) (by omega) (by omega) hla hB hB2 hN hV
      have htop : (mM M ((List.range j).map g))[M.length]? = some (.lst (encs ((List.range j).map g))) := top_get
      have st := x_app (cf := callF fs G wf (k + 8)) (G := G) (wf := wf) (ρ := [some (.d (encO as)), some (.d d), some (.m M.length), some (.d (.int (j : Nat))), some (.d (enc (g j))), y5]) (a := .var 2) (b := .var 4) (e_var rfl) htop (e_var rfl) (by rw [hz, List.length_map, List.length_map, List.length_range]; omega)
      have hset : (mM M ((List.range j).map g)).set M.length (.lst (encs ((List.range j).map g) ++ [enc (g j)])) = mM M ((List.range (j + 1)).map g) := by
        rw [show mM M ((List.range j).map g) = M ++ [.lst (encs ((List.range j).map g))] from rfl, top_set, mk_succ as vs j]
        show _ = M ++ [.lst (encs ((List.range j).map g ++ [g j]))]
        rw [show encs ((List.range j).map g ++ [g j]) = encs ((List.range j).map g) ++ [enc (g j)] from List.map_append]
      rw [hset] at st
      exact ⟨_, _, .inl ⟨x_cons (x_asg (lz0_eq _)) (x_cons f1 (x_cons st (by rw [evalSs]; try rfl))), some (.d (.int (j : Nat))), some (.d (enc (g j))), y5, rfl, rfl⟩⟩) (fun ρ M' hI => by
      rw [irng_length] at hI
      exact hI) (ρ := [some (.d (encO as)), some (.d d), some (.m M.length), none, none, none]) (M := mM M []) ⟨none, none, none, rfl, rfl⟩
  subst hM
  have a1 : evalE (callF fs G wf (k + 8)) G wf (.lst true .nil) [some (.d (encO as)), some (.d d), none, none, none, none] M = some (.m M.length, mM M []) := x_lstM (xs := []) es_nil rfl (Nat.zero_le _)
  let ρ1 : Loc := [some (.d (encO as)), some (.d d), some (.m M.length), none, none, none]
  have l3 : evalE (callF fs G wf (k + 8)) G wf (.op2 false .add (.op2 false .sub (.blt false .len (.cons (.var 1) .nil)) (.blt false .len (.cons (.var 0) .nil))) (.lit (.int 1))) ρ1 (mM M []) = some (.d (.int (T : Nat)), mM M []) := by
    rw [show ((T : Nat) : Int) = (vs.length : Int) - as.length + 1 by show ((vs.length - (as.length - 1) : Nat) : Int) = _; omega]
    exact x_opG (x_opG (vals_len hd (e_var rfl)) (e_lenO (e_var rfl)) p_sub (by decide)) e_lit p_add (by decide)
  have hT : T < 1000000 := by show vs.length - (as.length - 1) < _; omega
  have htop : (mM M (mk as vs))[M.length]? = some (.lst (encs (mk as vs))) := top_get
  have fin := x_call (fs := fs) (G := G) (wf := wf) (k := k + 8) (i := i) (ws := [.d (encO as), .d d]) (M := M) (w := .m M.length) (M' := mM M (mk as vs)) (FA.h (fs := fs) (i := i) (fn := lMakes p o vl)) rfl
    (x_cons (x_asg a1) (x_cons (x_for (x_rngE l3 hT) e) (x_stop (x_ret (e_var rfl)))))
  rw [fin, finish, if_neg (Nat.lt_irrefl _), htop]
  show some (W.d (.list (encs (mk as vs))), (mM M (mk as vs)).take M.length) = _
  rw [show (mM M (mk as vs)).take M.length = M from top_take]
end
/-! ### _law_operator -/
def loI (lp : Nat) : E := .comp true [5] (.v 5) (.rng (.cons (.op2 false .add (.var 1) (.lit (.int 1))) .nil)) (.lit (.bool true)) (.call lp (.cons (.var 0) (.cons (.var 2) (.cons (.var 3) .nil))))
abbrev lOne : E := .tup (.cons (.tup (.cons (.lit (.int 1)) (.cons (.lit (.int 1)) .nil))) .nil)
def lOperator (lp : Nat) : Fn := ⟨4, 6,
  (.cons (.asg 4 (loI lp))
  (.cons (.ife (.op2 false .eq (.op2 false .ix (.var 4) (.neg (.lit (.int 1)))) (.tup .nil))
   (.cons (.asgIx (.var 4) (.neg (.lit (.int 1))) lOne)
   .nil)
   .nil)
  (.cons (.ret (.blt false .tuple (.cons (.var 4) .nil)))
  .nil)))⟩
section
variable {fs : List Fn} {G : List PyData} {wf : Nat} {R : Mem} {ds : List Int} {d t' i k N B v hi s lp r : Nat}
theorem rw_one {m L : Nat} : Rw B (v + 1) m (L + 1) [1] := ⟨fun q h => by
    injection h with h
    rw [← h]; decide, fun q h => by
    rw [List.mem_singleton] at h
    subst h
    exact qb_one.mono (Nat.le_refl _) (Nat.zero_le _), by show 1 ≤ L + 1; omega⟩
theorem lone_eq {cf : Nat → List W → Mem → Option (W × Mem)} {ρ : Loc} {M : Mem} : evalE cf G wf lOne ρ M = some (.d (encP [1]), M) :=
  e_tup (es_cons (e_tup (es_cons e_lit (es_cons e_lit es_nil)) rfl (by rw [EV.sizeLine_eq]; show 2 ≤ _; decide)) es_nil) rfl (by rw [EV.sizeLine_eq]; show 1 ≤ _; decide)
theorem place_last {n r : Nat} (h : n = r + 1) : place n (-1) = some r := by
  subst h
  unfold place
  rw [if_neg (by decide), if_pos (by omega)]
  have : (-1 + ((r + 1 : Nat) : Int)).toNat = r := by omega
  rw [this]
theorem loperator_eq {t : Nat} [FA fs i (lOperator lp)] [FA fs lp (lPoly d t')] [FA fs d lDraw] [FA fs t' lTrim] [WF wf] (hr : r ≤ 1000) (hhi : hi ≤ 100) (hs : s < 2 ^ (v + 1)) (hs2 : s ≤ 1000) :
    ∃ (ts : List (List Rat)) (u : Nat), callF fs G wf (k + 3) i [.m 0, .d (.int (r : Nat)), .d (.int (hi : Nat)), .d (.int (s : Nat))] (bx ds t :: R) = some (.d (encO ts), bx ds u :: R) ∧ Rws B (v + 1) 0 (hi + 1) ts ∧ OT ts ∧ ts.length = r + 1 := by
  have hz := EV.sizeLine_eq
  let ρ0 : Loc := [some (.m 0), some (.d (.int (r : Nat))), some (.d (.int (hi : Nat))), some (.d (.int (s : Nat))), none, none]
  have e1 : evalE (callF fs G wf (k + 2)) G wf (.op2 false .add (.var 1) (.lit (.int 1))) ρ0 (bx ds t :: R) = some (.d (.int ((r + 1 : Nat) : Int)), bx ds t :: R) := x_opG (x := .int (r : Nat)) (M1 := bx ds t :: R) (e_var rfl) e_lit p_add (by decide)
  obtain ⟨acc, M', e, u, ts, rfl, rfl, hq, hl⟩ := compL_inv (f := tc (callF fs G wf (k + 2)) G wf [5] (.v 5) (.lit (.bool true)) (.call lp (.cons (.var 0) (.cons (.var 2) (.cons (.var 3) .nil)))) ρ0) (fun j acc M => ∃ (u : Nat) (ts : List (List Rat)), acc = encPs ts ∧ M = bx ds u :: R ∧ Rws B (v + 1) 0 (hi + 1) ts ∧ ts.length = j) (irng 0 1 (r + 1)) 0 [] (bx ds t :: R) ⟨t, [], rfl, rfl, fun q hq => (by cases hq), rfl⟩ (fun j x acc M hx hI => by
    obtain ⟨rfl, hj⟩ := irng_at hx
    obtain ⟨u, ts, rfl, rfl, hq, hl⟩ := hI
    obtain ⟨f, u2, g1, g2, g3, g4⟩ := lpoly_eq (fs := fs) (G := G) (wf := wf) (i := lp) (k := k) (ds := ds) (R := R) (t := u) (hi := hi) (s := s) (B := B) (v := v + 1) hhi hs hs2
    let ρ2 : Loc := [some (.m 0), some (.d (.int (r : Nat))), some (.d (.int (hi : Nat))), some (.d (.int (s : Nat))), none, some (.d (.int (j : Nat)))]
    have ea : evalE (callF fs G wf (k + 2)) G wf (.call lp (.cons (.var 0) (.cons (.var 2) (.cons (.var 3) .nil)))) ρ2 (bx ds u :: R) = some (.d (encP f), bx ds u2 :: R) := x_callE (es_cons (e_var rfl) (es_cons (e_var rfl) (es_cons (e_var rfl) es_nil))) g1
    refine ⟨encPs (ts ++ [f]), bx ds u2 :: R, ?_, u2, ts ++ [f], rfl, rfl, fun z hz => ?_, by rw [List.length_append, hl]; rfl⟩
    · have := tc_goM (own := [5]) (tg := .v 5) (ρ := ρ0) (ρ2 := ρ2) (x := .int (j : Nat)) (acc := encPs ts) rfl t_lit ea (by rw [List.length_map, hz]; omega)
      rw [this, show encPs (ts ++ [f]) = encPs ts ++ [encP f] from List.map_append]
    · rcases List.mem_append.mp hz with hz | hz
      · exact hq z hz
      · rw [List.mem_singleton] at hz
        subst hz
        exact ⟨g2, g3, g4⟩)
  rw [Nat.zero_add, irng_length] at hl
  let M2 : Mem := bx ds u :: R
  have hcomp : evalE (callF fs G wf (k + 2)) G wf (loI lp) ρ0 (bx ds t :: R) = some (.m M2.length, mO M2 ts) := x_comp (x_rngE e1 (by omega)) e rfl
  let ρ1 : Loc := [some (.m 0), some (.d (.int (r : Nat))), some (.d (.int (hi : Nat))), some (.d (.int (s : Nat))), some (.m M2.length), none]
  have hlast : ts[r]? = some ts[r] := List.getElem?_eq_getElem (by omega)
  have htop : (mO M2 ts)[M2.length]? = some (.lst (encPs ts)) := top_get
  have n1 : evalE (callF fs G wf (k + 2)) G wf (.neg (.lit (.int 1))) ρ1 (mO M2 ts) = some (.d (.int (-1)), mO M2 ts) := x_neg e_lit
  have a1 : evalE (callF fs G wf (k + 2)) G wf (.op2 false .ix (.var 4) (.neg (.lit (.int 1)))) ρ1 (mO M2 ts) = some (.d (encP ts[r]), mO M2 ts) := by
    refine x_ixMG (e_var rfl) n1 htop ?_
    rw [at_last, List.getLast?_eq_getElem?, List.length_map, show ts.length - 1 = r by omega, List.getElem?_map, hlast]
    rfl
  have ht := t_bool (x_opG a1 (y := .tuple []) (M2 := mO M2 ts) (e_tup es_nil rfl (Nat.zero_le _)) (eq_empty ts[r]) (p := .eq) (by decide))
  have fin : ∀ us : List (List Rat), evalS (callF fs G wf (k + 2)) G wf (.ife (.op2 false .eq (.op2 false .ix (.var 4) (.neg (.lit (.int 1)))) (.tup .nil)) (.cons (.asgIx (.var 4) (.neg (.lit (.int 1))) lOne) .nil) .nil) ρ1 (mO M2 ts) = some (.nx ρ1 (mO M2 us)) → callF fs G wf (k + 3) i [.m 0, .d (.int (r : Nat)), .d (.int (hi : Nat)), .d (.int (s : Nat))] (bx ds t :: R) = some (.d (encO us), bx ds u :: R) := fun us h => by
    have htop2 : (mO M2 us)[M2.length]? = some (.lst (encPs us)) := top_get
    rw [x_fin (fs := fs) (G := G) (wf := wf) (k := k + 2) (i := i) (M := bx ds t :: R) (ws := [.m 0, .d (.int (r : Nat)), .d (.int (hi : Nat)), .d (.int (s : Nat))]) (M1 := mO M2 us) (x := encO us) (FA.h (fs := fs) (i := i) (fn := lOperator lp)) rfl (x_cons (x_asg hcomp) (x_cons h (x_stop (x_ret (x_tupM (e_var rfl) htop2)))))]
    have : (mO M2 us).take (bx ds t :: R).length = M2 := by
      have h1 : (bx ds t :: R).length = M2.length := rfl
      rw [h1]
      exact top_take
    rw [this]
  cases h0 : (ts[r]).isEmpty with
  | true =>
    rw [h0] at ht
    have hpl : place ts.length (-1) = some r := place_last hl
    have hst : store (.m M2.length) (.int (-1)) (encP [1]) (mO M2 ts) = some (mO M2 (ts.set r [1])) := by
      rw [st_m, htop]
      dsimp only
      rw [List.length_map, hpl]
      dsimp only
      rw [show mO M2 ts = M2 ++ [.lst (encPs ts)] from rfl, top_set, ← List.map_set]
    have sx : evalS (callF fs G wf (k + 2)) G wf (.asgIx (.var 4) (.neg (.lit (.int 1))) lOne) ρ1 (mO M2 ts) = some (.nx ρ1 (mO M2 (ts.set r [1]))) := by
      have v4 : evalE (callF fs G wf (k + 2)) G wf (.var 4) ρ1 (mO M2 ts) = some (.m M2.length, mO M2 ts) := e_var rfl
      rw [evalS, lone_eq]
      dsimp only
      rw [v4]
      dsimp only
      rw [n1]
      dsimp only
      rw [hst]
    refine ⟨ts.set r [1], u, fin _ (x_ifT ht (x_cons sx (by rw [evalSs]))), hq.set rw_one, fun t h => ?_, by rw [List.length_set, hl]⟩
    rw [List.getLast?_eq_getElem?, List.length_set, hl, Nat.add_sub_cancel, List.getElem?_set_self (by omega)] at h
    cases h
    decide
  | false =>
    rw [h0] at ht
    refine ⟨ts, u, fin ts (x_ifF ht), hq, fun t h h1 => ?_, hl⟩
    rw [List.getLast?_eq_getElem?, show ts.length - 1 = r by omega, hlast] at h
    cases h
    rw [h1] at h0
    cases h0
end
end EV

/-! EvZ26: expressions that come to operators. -/
namespace EV
open PySem
theorem lk_encO (ts : List (List Rat)) (h : ts.length < 1000000) (h2 : ∀ t ∈ ts, t.length < 1000000) : Lk 3 (encO ts) := .tup (by rw [List.length_map]; exact h) fun j x hj => by
  obtain ⟨t, ht, rfl⟩ := List.mem_map.mp (List.mem_of_getElem? hj)
  exact lk_encP t (h2 t ht)
/-- e comes to the operator whose sums are A -/
def OE (fs : List Fn) (G : List PyData) (wf k : Nat) (ρ : Loc) (M : Mem) (B : Nat) (e : E) (v m L R : Nat) (A : (Nat → Rat) → Rat → Rat) : Prop :=
  ∃ ts : List (List Rat), evalE (callF fs G wf (k + 8)) G wf e ρ M = some (.d (encO ts), M) ∧ Rws B v m L ts ∧ OT ts ∧ ts.length ≤ R ∧ ∀ w x, sw ts w x = A w x
section
variable {fs : List Fn} {G : List PyData} {wf k : Nat} {ρ : Loc} {M : Mem} {B v m L w l K R Q : Nat} {φ ψ : Rat → Rat} {A A2 : (Nat → Rat) → Rat → Rat} {e e1 e2 : E} {q q1 q2 : Rat} {a b : Int} {i z s u c p o r N y g1 lk ln mu mv tp pa pm lv : Nat} {es1 es2 : Es} {t t2 : List Rat}
/-- what an expression of two variables comes to, is what the call makes -/
theorem of_pe (h : PE fs G wf k [some (.d (encP t)), some (.d (encP t2))] M B (.call s (.cons (.var 0) (.cons (.var 1) .nil))) v m L φ) : ∃ r, callF fs G wf (k + 8) s [.d (encP t), .d (encP t2)] M = some (.d (encP r), M) ∧ Rw B v m L r ∧ ∀ x, ev r x = φ x := by
  obtain ⟨r, h1, h2, h3, h4, h5⟩ := h
  rw [x_callE (args2 (e_var rfl) (e_var rfl)) rfl] at h1
  exact ⟨r, h1, ⟨h2, h3, h4⟩, h5⟩
theorem of_peI (h : PE fs G wf k [some (.d (encP t)), some (.d (.int a))] M B (.call s (.cons (.var 0) (.cons (.var 1) .nil))) v m L φ) : ∃ r, callF fs G wf (k + 8) s [.d (encP t), .d (.int a)] M = some (.d (encP r), M) ∧ Rw B v m L r ∧ ∀ x, ev r x = φ x := by
  obtain ⟨r, h1, h2, h3, h4, h5⟩ := h
  rw [x_callE (args2 (e_var rfl) (e_var rfl)) rfl] at h1
  exact ⟨r, h1, ⟨h2, h3, h4⟩, h5⟩
theorem Rw.pe (h : Rw B v m L t) (hi : ρ[i]? = some (some (.d (encP t)))) : PE fs G wf k ρ M B (.var i) v m L (ev t) := pe_var hi h.tr h.qb h.ln
theorem oe_var {ts : List (List Rat)} (h : ρ[i]? = some (some (.d (encO ts)))) (h1 : Rws B v m L ts) (h2 : OT ts) (h3 : ts.length ≤ R) : OE fs G wf k ρ M B (.var i) v m L R (sw ts) := ⟨ts, e_var h, h1, h2, h3, fun _ _ => rfl⟩
theorem oe_list {ts : List (List Rat)} (h : evalE (callF fs G wf (k + 8)) G wf e ρ M = some (.d (encO ts), M)) (h1 : Rws B v m L ts) (h2 : OT ts) (h3 : ts.length ≤ R) : OE fs G wf k ρ M B e v m L R (sw ts) := ⟨ts, h, h1, h2, h3, fun _ _ => rfl⟩
theorem ot_nil : OT [] := fun t h => by cases h
theorem oe_nil : OE fs G wf k ρ M B (.tup .nil) v m L R (fun _ _ => 0) := ⟨[], e_tup es_nil rfl (Nat.zero_le _), fun t h => (by cases h), ot_nil, Nat.zero_le _, fun _ _ => rfl⟩
theorem OE.mono (h : OE fs G wf k ρ M B e v m L R A) (h1 : v ≤ w := by decide) (h2 : m ≤ l := by decide) (h3 : L ≤ K := by decide) (h4 : R ≤ Q := by decide) : OE fs G wf k ρ M B e w l K Q A := by
  obtain ⟨t, a1, a2, a3, a4, a5⟩ := h
  exact ⟨t, a1, a2.mono h1 h2 h3, a3, Nat.le_trans a4 h4, a5⟩
theorem OE.as (h : OE fs G wf k ρ M B e v m L R A) (h1 : ∀ w x, A w x = A2 w x) : OE fs G wf k ρ M B e v m L R A2 := by
  obtain ⟨t, a1, a2, a3, a4, a5⟩ := h
  exact ⟨t, a1, a2, a3, a4, fun w x => by rw [a5, h1]⟩
theorem same_o (h1 : OE fs G wf k ρ M B e1 v m L R A) (h2 : OE fs G wf k ρ M B e2 w l K Q A2) (h : ∀ w x, A w x = A2 w x) (hL : L < 1000000 := by decide) (hR : R < 1000000 := by decide) : SM fs G wf k ρ M 3 e1 e2 := by
  obtain ⟨f, a1, a2, a3, a4, a5⟩ := h1
  obtain ⟨g, b1, b2, b3, b4, b5⟩ := h2
  have : f = g := sw_inj a2 b2 a3 b3 fun w x => by rw [a5, b5, h]
  subst this
  exact ⟨_, a1, b1, lk_encO f (by omega) fun t ht => by have := (a2 t ht).ln; omega⟩
/-! ### sums and differences -/
theorem oe_plus [FA fs i (oPlus s tp)] [FA fs tp oTopP] [FA fs s (pSum p c)] [FA fs c (pCut z)] [FA fs p (pPlus r)] [GA G z (pr 0 1)] [MK fs G wf r N] [WF wf] (h1 : OE fs G wf (k + 1) ρ M B e1 v m L R A) (h2 : OE fs G wf (k + 1) ρ M B e2 v m L Q A2) (hB : 0 < B := by decide) (hB2 : B ≤ 256 := by decide) (hN : 16 * m + 2 ≤ N := by decide) (hv : 2 * v + 16 * m + 2 < 100000000 := by decide) (hL : L ≤ 100000 := by decide) (hR : R ≤ 100000 := by decide) (hQ : Q ≤ 100000 := by decide) :
    OE fs G wf (k + 1) ρ M B (.call i (.cons e1 (.cons e2 .nil))) (v + 1) m L (max R Q) (fun w x => A w x + A2 w x) := by
  obtain ⟨f, a1, a2, a3, a4, a5⟩ := h1
  obtain ⟨g, b1, b2, b3, b4, b5⟩ := h2
  obtain ⟨t, c1, c2, c3, c4, c5⟩ := oplus_eq (fs := fs) (G := G) (wf := wf) (M := M) (k := k) (i := i) (s := s) (op := fun x y => x + y) (w := v + 1) (l := m) (K := L) (by show (0 : Rat) + 0 = 0; grind) a2 b2 (by omega) (by omega) (fun t u ht hu => by
    have := (pe_sum (i := s) (p := p) (c := c) (z := z) (r := r) (N := N) (ht.pe (fs := fs) (G := G) (wf := wf) (k := k) (M := M) (ρ := [some (.d (encP t)), some (.d (encP u))]) (i := 0) rfl) (hu.pe (i := 1) rfl) (hB := hB) (hB2 := hB2) (hN := hN) (hv := hv) (hL := hL) (hK := hL)).mono (K := L) (h1 := Nat.le_refl _) (h2 := Nat.le_refl _) (h3 := by omega)
    exact of_pe this)
  exact ⟨t, x_callE (args2 a1 b1) c1, c2, c3, Nat.le_trans c4 (by omega), fun w x => by rw [sw_add (fun i => c5 i x), a5, b5]⟩
theorem oe_minus [FA fs i (oPlus s tp)] [FA fs tp oTopP] [FA fs s (pLess lk u)] [FA fs lk (pSum p c)] [FA fs u (pMulti z o)] [FA fs c (pCut z)] [FA fs p (pPlus r)] [FA fs o (pProd r)] [GA G z (pr 0 1)] [MK fs G wf r N] [WF wf] (h1 : OE fs G wf (k + 1) ρ M B e1 v m L R A) (h2 : OE fs G wf (k + 1) ρ M B e2 v m L Q A2) (hB : 0 < B := by decide) (hB2 : B ≤ 256 := by decide) (hN : 16 * m + 2 ≤ N := by decide) (hv : 2 * (v + 1) + 16 * m + 2 < 100000000 := by decide) (hL : L ≤ 100000 := by decide) (hR : R ≤ 100000 := by decide) (hQ : Q ≤ 100000 := by decide) :
    OE fs G wf (k + 1) ρ M B (.call i (.cons e1 (.cons e2 .nil))) (v + 2) m L (max R Q) (fun w x => A w x - A2 w x) := by
  obtain ⟨f, a1, a2, a3, a4, a5⟩ := h1
  obtain ⟨g, b1, b2, b3, b4, b5⟩ := h2
  obtain ⟨t, c1, c2, c3, c4, c5⟩ := oplus_eq (fs := fs) (G := G) (wf := wf) (M := M) (k := k) (i := i) (s := s) (op := fun x y => x - y) (w := v + 2) (l := m) (K := L) (by show (0 : Rat) - 0 = 0; grind) a2 b2 (by omega) (by omega) (fun t u' ht hu => by
    have := (pe_less (i := s) (s := lk) (u := u) (p := p) (c := c) (z := z) (o := o) (r := r) (N := N) (ht.pe (fs := fs) (G := G) (wf := wf) (k := k) (M := M) (ρ := [some (.d (encP t)), some (.d (encP u'))]) (i := 0) rfl) (hu.pe (i := 1) rfl) (hB := hB) (hB2 := hB2) (hN := hN) (hv := hv) (hL := hL) (hK := hL)).mono (K := L) (h1 := Nat.le_refl _) (h2 := Nat.le_refl _) (h3 := by omega)
    exact of_pe this)
  exact ⟨t, x_callE (args2 a1 b1) c1, c2, c3, Nat.le_trans c4 (by omega), fun w x => by rw [sw_sub (fun i => c5 i x), a5, b5]⟩
theorem oe_oadd [FA fs i (lOAdd pa tp)] [FA fs tp oTopL] [FA fs pa (lPadd c p)] [FA fs c lTrim] [FA fs p (pPlus r)] [MK fs G wf r N] [WF wf] (h1 : OE fs G wf (k + 1) ρ M B e1 v m L R A) (h2 : OE fs G wf (k + 1) ρ M B e2 v m L Q A2) (hB : 0 < B := by decide) (hB2 : B ≤ 256 := by decide) (hN : 16 * m + 2 ≤ N := by decide) (hv : 2 * v + L + 16 * m + 2 < 100000000 := by decide) (hL : L ≤ 100000 := by decide) (hR : R ≤ 100000 := by decide) (hQ : Q ≤ 100000 := by decide) :
    OE fs G wf (k + 1) ρ M B (.call i (.cons e1 (.cons e2 .nil))) (v + L) m L (max R Q) (fun w x => A w x + A2 w x) := by
  obtain ⟨f, a1, a2, a3, a4, a5⟩ := h1
  obtain ⟨g, b1, b2, b3, b4, b5⟩ := h2
  obtain ⟨t, c1, c2, c3, c4, c5⟩ := oadd_eq (fs := fs) (G := G) (wf := wf) (M := M) (k := k) (i := i) (pa := pa) (tp := tp) (w := v + L) (K := L) a2 b2 (by omega) (by omega) (by omega) (Nat.le_refl _) (fun M t u ht hu => by
    have := (pe_padd (i := pa) (p := p) (c := c) (r := r) (N := N) (ht.pe (fs := fs) (G := G) (wf := wf) (k := k) (M := M) (ρ := [some (.d (encP t)), some (.d (encP u))]) (i := 0) rfl) (hu.pe (i := 1) rfl) (hB := hB) (hB2 := hB2) (hN := hN) (hv := hv) (hL := hL) (hK := hL)).mono (K := L) (h1 := Nat.le_refl _) (h2 := Nat.le_refl _) (h3 := by omega)
    exact of_pe this)
  exact ⟨t, x_callE (args2 a1 b1) c1, c2, c3, Nat.le_trans c4 (by omega), fun w x => by rw [sw_add (fun i => c5 i x), a5, b5]⟩
/-! ### products -/
/-- the bound behind moving by less than 1000 -/
abbrev mvV (w K : Nat) : Nat := w + K * (w + (10 + 1) + K * 3 * 2 + 1)
theorem sw_two {f g ts : List (List Rat)} (c5 : ∀ w x, sw ts w x = sw f (fun i => sw g (fun j => w (i + j)) (x + (i : Rat))) x) (a5 : ∀ w x, sw f w x = A w x) (b5 : ∀ w x, sw g w x = A2 w x) (w : Nat → Rat) (x : Rat) : sw ts w x = A (fun i => A2 (fun j => w (i + j)) (x + (i : Rat))) x := by
  rw [c5, a5]
  congr 1
  funext i
  rw [b5]
theorem oe_times [FA fs i (oTimes s mu mv tp)] [FA fs tp oTopP] [FA fs s (pSum p c)] [FA fs mu (pMul z p o c)] [FA fs mv (pMoved y g1)] [FA fs y (pPut z s mu)] [FA fs c (pCut z)] [FA fs p (pPlus r)] [FA fs o (pProd r)] [GA G z (pr 0 1)] [GA G g1 (pr 1 1)] [MK fs G wf r N] [WF wf]
    (h1 : OE fs G wf (k + 1) ρ M B e1 v m L R A) (h2 : OE fs G wf (k + 1) ρ M B e2 w l K Q A2) (hB : 0 < B := by decide) (hB2 : B ≤ 256 := by decide) (hN : 16 * (m + l) + 2 ≤ N := by decide)
    (hv1 : 2 * (w + (K + 2) * (w + (10 + 1) + K * 3 * 2 + 1) + 2) + 16 * l + 2 < 100000000 := by decide) (hv2 : 2 * (v + mvV w K + L * (K * 3) + K * 3 + R * Q) + 16 * (m + l) + 2 < 100000000 := by decide) (hK : K ≤ 100 := by decide) (hL : L + K * 3 ≤ 100000 := by decide) (hR : R ≤ 1000 := by decide) (hQ : Q ≤ 1000 := by decide) :
    OE fs G wf (k + 1) ρ M B (.call i (.cons e1 (.cons e2 .nil))) (v + mvV w K + L * (K * 3) + R * Q * 1) (m + l) (L + K * 3) (R + Q) (fun w x => A (fun i => A2 (fun j => w (i + j)) (x + (i : Rat))) x) := by
  obtain ⟨f, a1, a2, a3, a4, a5⟩ := h1
  obtain ⟨g, b1, b2, b3, b4, b5⟩ := h2
  have hmk : mvV w K = w + K * (w + (10 + 1) + K * 3 * 2 + 1) := rfl
  have ops : Ops fs G wf k B s mu v m L (mvV w K) l (K * 3) (v + mvV w K + L * (K * 3)) (m + l) (L + K * 3) 1 (R * Q) := by
    constructor
    · intro M t u ht hu
      exact of_pe (pe_mul (i := mu) (z := z) (p := p) (o := o) (c := c) (r := r) (N := N) (ht.pe (fs := fs) (G := G) (wf := wf) (k := k) (M := M) (ρ := [some (.d (encP t)), some (.d (encP u))]) (i := 0) rfl) (hu.pe (i := 1) rfl) (hB := hB) (hB2 := hB2) (hN := hN) (hv := by omega) (hL := by omega) (hK := by omega))
    · intro M q t u hq ht hu
      have := (pe_sum (i := s) (p := p) (c := c) (z := z) (r := r) (N := N) (ht.pe (fs := fs) (G := G) (wf := wf) (k := k) (M := M) (ρ := [some (.d (encP t)), some (.d (encP u))]) (i := 0) rfl) ((hu.mono (w := v + mvV w K + L * (K * 3) + q * 1) (l := m + l) (K := L + K * 3) (by omega) (by omega) (by omega)).pe (i := 1) rfl) (hB := hB) (hB2 := hB2) (hN := hN) (hv := by omega) (hL := by omega) (hK := by omega)).mono (w := v + mvV w K + L * (K * 3) + (q + 1) * 1) (l := m + l) (K := L + K * 3) (h1 := by omega) (h2 := by omega) (h3 := by omega)
      exact of_pe this
  have mov : Mov fs G wf k B mv w l K (mvV w K) l (K * 3) 1000 := by
    intro M t n hn ht
    have hs : sm 10 (n : Int) := by show (n : Int).natAbs < 1024; omega
    obtain ⟨r', r1, r2, r3⟩ := of_peI (pe_mov (i := mv) (y := y) (g1 := g1) (z := z) (s := s) (u := mu) (c := c) (p := p) (o := o) (r := r) (N := N) (ht.pe (fs := fs) (G := G) (wf := wf) (k := k) (M := M) (ρ := [some (.d (encP t)), some (.d (.int (n : Nat)))]) (i := 0) rfl) (ie_var (i := 1) (a := (n : Int)) rfl hs) (hB := hB) (hB2 := hB2) (hN := by omega) (hv := by omega) (hL := hK))
    exact ⟨r', r1, r2, fun x => by
      rw [r3]
      show ev t ((n : Rat) + x) = ev t (x + (n : Rat))
      congr 1
      grind⟩
  have hRQ : f.length * g.length ≤ R * Q := Nat.mul_le_mul a4 b4
  obtain ⟨t, c1, c2, c3, c4, c5⟩ := otimes_eq (fs := fs) (G := G) (wf := wf) (M := M) (k := k) (i := i) a2 b2 (by omega) (by omega) ops mov hRQ
  exact ⟨t, x_callE (args2 a1 b1) c1, c2, c3, Nat.le_trans c4 (by omega), sw_two c5 a5 b5⟩
theorem oe_omul [FA fs i (lOMul pa pm mv tp)] [FA fs tp oTopL] [FA fs pa (lPadd c p)] [FA fs pm (lMul c p o)] [FA fs mv (lMoved y)] [FA fs y (lPut pa pm)] [FA fs c lTrim] [FA fs p (pPlus r)] [FA fs o (pProd r)] [MK fs G wf r N] [WF wf]
    (h1 : OE fs G wf (k + 1) ρ M B e1 v m L R A) (h2 : OE fs G wf (k + 1) ρ M B e2 w l K Q A2) (hB : 0 < B := by decide) (hB2 : B ≤ 256 := by decide) (hN : 16 * (m + l) + 2 ≤ N := by decide)
    (hv1 : 2 * (w + (K + 2) * (w + (10 + 1) + K * 3 * 2 + 1) + 2) + 16 * l + 2 < 100000000 := by decide) (hv2 : 2 * (v + mvV w K + L * (K * 3) + K * 3 + (R * Q + 1) * (L + K * 3)) + 16 * (m + l) + 2 < 100000000 := by decide) (hK : K ≤ 100 := by decide) (hL : L + K * 3 ≤ 100000 := by decide) (hR : R ≤ 1000 := by decide) (hQ : Q ≤ 1000 := by decide) :
    OE fs G wf (k + 1) ρ M B (.call i (.cons e1 (.cons e2 .nil))) (v + mvV w K + L * (K * 3) + R * Q * (L + K * 3)) (m + l) (L + K * 3) (R + Q) (fun w x => A (fun i => A2 (fun j => w (i + j)) (x + (i : Rat))) x) := by
  obtain ⟨f, a1, a2, a3, a4, a5⟩ := h1
  obtain ⟨g, b1, b2, b3, b4, b5⟩ := h2
  have hmk : mvV w K = w + K * (w + (10 + 1) + K * 3 * 2 + 1) := rfl
  have ops : Ops fs G wf k B pa pm v m L (mvV w K) l (K * 3) (v + mvV w K + L * (K * 3)) (m + l) (L + K * 3) (L + K * 3) (R * Q) := by
    constructor
    · intro M t u ht hu
      exact of_pe (pe_pmul (i := pm) (p := p) (o := o) (c := c) (r := r) (N := N) (ht.pe (fs := fs) (G := G) (wf := wf) (k := k) (M := M) (ρ := [some (.d (encP t)), some (.d (encP u))]) (i := 0) rfl) (hu.pe (i := 1) rfl) (hB := hB) (hB2 := hB2) (hN := hN) (hv := by omega) (hL := by omega) (hK := by omega))
    · intro M q t u hq ht hu
      have hq1 : (q + 1) * (L + K * 3) = q * (L + K * 3) + (L + K * 3) := by rw [Nat.add_mul, Nat.one_mul]
      have hq2 : (q + 1) * (L + K * 3) ≤ (R * Q + 1) * (L + K * 3) := Nat.mul_le_mul_right _ (by omega)
      have := (pe_padd (i := pa) (p := p) (c := c) (r := r) (N := N) (ht.pe (fs := fs) (G := G) (wf := wf) (k := k) (M := M) (ρ := [some (.d (encP t)), some (.d (encP u))]) (i := 0) rfl) ((hu.mono (w := v + mvV w K + L * (K * 3) + q * (L + K * 3)) (l := m + l) (K := L + K * 3) (by omega) (by omega) (by omega)).pe (i := 1) rfl) (hB := hB) (hB2 := hB2) (hN := hN) (hv := by omega) (hL := by omega) (hK := by omega)).mono (w := v + mvV w K + L * (K * 3) + (q + 1) * (L + K * 3)) (l := m + l) (K := L + K * 3) (h1 := by omega) (h2 := by omega) (h3 := by omega)
      exact of_pe this
  have mov : Mov fs G wf k B mv w l K (mvV w K) l (K * 3) 1000 := by
    intro M t n hn ht
    have hs : sm 10 (n : Int) := by show (n : Int).natAbs < 1024; omega
    obtain ⟨r', r1, r2, r3⟩ := of_peI (pe_lmov (i := mv) (y := y) (s := pa) (u := pm) (c := c) (p := p) (o := o) (r := r) (N := N) (ht.pe (fs := fs) (G := G) (wf := wf) (k := k) (M := M) (ρ := [some (.d (encP t)), some (.d (.int (n : Nat)))]) (i := 0) rfl) (ie_var (i := 1) (a := (n : Int)) rfl hs) (hB := hB) (hB2 := hB2) (hN := by omega) (hv := by omega) (hL := hK))
    exact ⟨r', r1, r2, fun x => by
      rw [r3]
      show ev t ((n : Rat) + x) = ev t (x + (n : Rat))
      congr 1
      grind⟩
  have hRQ : f.length * g.length ≤ R * Q := Nat.mul_le_mul a4 b4
  obtain ⟨t, c1, c2, c3, c4, c5⟩ := omul_eq (fs := fs) (G := G) (wf := wf) (M := M) (k := k) (i := i) a2 b2 (by omega) (by omega) ops mov hRQ
  exact ⟨t, x_callE (args2 a1 b1) c1, c2, c3, Nat.le_trans c4 (by omega), sw_two c5 a5 b5⟩
/-! ### by a polynomial; moved -/
theorem oe_by [FA fs i (oBy mu tp)] [FA fs tp oTopP] [FA fs mu (pMul z p o c)] [FA fs c (pCut z)] [FA fs p (pPlus r)] [FA fs o (pProd r)] [GA G z (pr 0 1)] [MK fs G wf r N] [WF wf] (h1 : PE fs G wf (k + 1) ρ M B e1 v m L φ) (h2 : OE fs G wf (k + 1) ρ M B e2 w l K R A) (hB : 0 < B := by decide) (hB2 : B ≤ 256 := by decide) (hN : 16 * (m + l) + 2 ≤ N := by decide) (hv : 2 * (v + w + L * K + K) + 16 * (m + l) + 2 < 100000000 := by decide) (hL : L ≤ 100000 := by decide) (hK : K ≤ 100000 := by decide) (hR : R ≤ 100000 := by decide) :
    OE fs G wf (k + 1) ρ M B (.call i (.cons e1 (.cons e2 .nil))) (v + w + L * K) (m + l) (L + K) R (fun w x => φ x * A w x) := by
  obtain ⟨f, a1, a2, a3, a4, a5⟩ := h1
  obtain ⟨g, b1, b2, b3, b4, b5⟩ := h2
  obtain ⟨t, c1, c2, c3, c4, c5⟩ := oby_eq (fs := fs) (G := G) (wf := wf) (M := M) (k := k) (i := i) (mu := mu) (tp := tp) (f := f) (op := id) FA.h (fun M ts h => otopP_eq (k := k + 7) rfl rfl h) b2 (by omega) (fun t ht =>
    of_pe (pe_mul (i := mu) (z := z) (p := p) (o := o) (c := c) (r := r) (N := N) ((Rw.mk a2 a3 a4).pe (fs := fs) (G := G) (wf := wf) (k := k) (M := M) (ρ := [some (.d (encP f)), some (.d (encP t))]) (i := 0) rfl) (ht.pe (i := 1) rfl) (hB := hB) (hB2 := hB2) (hN := hN) (hv := hv) (hL := hL) (hK := hK)))
  exact ⟨t, x_callE (args2 a1 b1) c1, c2, c3, Nat.le_trans c4 b4, fun w x => by rw [sw_mul (fun i => c5 i x), a5, b5]⟩
theorem oe_oscale [FA fs i (oBy pm tp)] [FA fs tp oTopL] [FA fs pm (lMul c p o)] [FA fs c lTrim] [FA fs p (pPlus r)] [FA fs o (pProd r)] [MK fs G wf r N] [WF wf] (h1 : PE fs G wf (k + 1) ρ M B e1 v m L φ) (h2 : OE fs G wf (k + 1) ρ M B e2 w l K R A) (hB : 0 < B := by decide) (hB2 : B ≤ 256 := by decide) (hN : 16 * (m + l) + 2 ≤ N := by decide) (hv : 2 * (v + w + L * K + K) + 16 * (m + l) + 2 < 100000000 := by decide) (hL : L ≤ 100000 := by decide) (hK : K ≤ 100000 := by decide) (hR : R ≤ 100000 := by decide) :
    OE fs G wf (k + 1) ρ M B (.call i (.cons e1 (.cons e2 .nil))) (v + w + L * K) (m + l) (L + K) R (fun w x => φ x * A w x) := by
  obtain ⟨f, a1, a2, a3, a4, a5⟩ := h1
  obtain ⟨g, b1, b2, b3, b4, b5⟩ := h2
  obtain ⟨t, c1, c2, c3, c4, c5⟩ := oby_eq (fs := fs) (G := G) (wf := wf) (M := M) (k := k) (i := i) (mu := pm) (tp := tp) (f := f) (op := id) FA.h (fun M ts h => otopL_eq (k := k + 7) rfl rfl h) b2 (by omega) (fun t ht =>
    of_pe (pe_pmul (i := pm) (p := p) (o := o) (c := c) (r := r) (N := N) ((Rw.mk a2 a3 a4).pe (fs := fs) (G := G) (wf := wf) (k := k) (M := M) (ρ := [some (.d (encP f)), some (.d (encP t))]) (i := 0) rfl) (ht.pe (i := 1) rfl) (hB := hB) (hB2 := hB2) (hN := hN) (hv := hv) (hL := hL) (hK := hK)))
  exact ⟨t, x_callE (args2 a1 b1) c1, c2, c3, Nat.le_trans c4 b4, fun w x => by rw [sw_mul (fun i => c5 i x), a5, b5]⟩
theorem oe_moved [FA fs i (oMoved mv)] [FA fs mv (pMoved y g1)] [FA fs y (pPut z s mu)] [FA fs s (pSum p c)] [FA fs mu (pMul z p o c)] [FA fs c (pCut z)] [FA fs p (pPlus r)] [FA fs o (pProd r)] [GA G z (pr 0 1)] [GA G g1 (pr 1 1)] [MK fs G wf r N] [WF wf] (h1 : OE fs G wf (k + 1) ρ M B e1 w l K R A) (h2 : IE fs G wf (k + 1) ρ M e2 10 a) (hB : 0 < B := by decide) (hB2 : B ≤ 256 := by decide) (hN : 16 * l + 2 ≤ N := by decide)
    (hv1 : 2 * (w + (K + 2) * (w + (10 + 1) + K * 3 * 2 + 1) + 2) + 16 * l + 2 < 100000000 := by decide) (hK : K ≤ 100 := by decide) (hR : R ≤ 1000 := by decide) :
    OE fs G wf (k + 1) ρ M B (.call i (.cons e1 (.cons e2 .nil))) (mvV w K) l (K * 3) R (fun w x => A w ((a : Rat) + x)) := by
  obtain ⟨f, a1, a2, a3, a4, a5⟩ := h1
  obtain ⟨t, c1, c2, c3, c4, c5⟩ := omoved_eq (fs := fs) (G := G) (wf := wf) (M := M) (k := k) (i := i) (mv := mv) (a := a) (w := mvV w K) (l := l) (K := K * 3) a2 a3 (by omega) (fun t ht =>
    of_peI (pe_mov (i := mv) (y := y) (g1 := g1) (z := z) (s := s) (u := mu) (c := c) (p := p) (o := o) (r := r) (N := N) (ht.pe (fs := fs) (G := G) (wf := wf) (k := k) (M := M) (ρ := [some (.d (encP t)), some (.d (.int a))]) (i := 0) rfl) (ie_var (i := 1) (a := a) rfl h2.2) (hB := hB) (hB2 := hB2) (hN := by omega) (hv := by omega) (hL := hK)))
  refine ⟨t, x_callE (args2 a1 h2.1) c1, c2, c3, Nat.le_trans c4 a4, fun w x => ?_⟩
  show sw t w x = A w ((a : Rat) + x)
  rw [← a5, ← sw_ge (ts := t) (n := f.length) c4, ← sw_ge (ts := f) (n := f.length) (Nat.le_refl _)]
  exact sumN_congr _ fun i _ => by rw [c5]
end
/-- weights add up -/
theorem sw_lin (ts : List (List Rat)) (f g : Nat → Rat) (x : Rat) : sw ts (fun i => f i + g i) x = sw ts f x + sw ts g x := by
  show sumN _ _ = sumN _ _ + sumN _ _
  rw [← sumN_add]
  exact sumN_congr _ fun i _ => by grind
end EV

/-! EvZ27: products of polynomials that are not nought; the order of a product; values made twice. No program here. -/
namespace EV
open PySem
def mulR : List Rat → List Rat → List Rat
  | [], _ => []
  | a :: f, g => addR (g.map (a * ·)) (match mulR f g with
    | [] => []
    | r => 0 :: r)
theorem ev_cons0 (r : List Rat) (x : Rat) : ev (match r with
    | [] => []
    | r => 0 :: r) x = x * ev r x := by
  cases r with
  | nil => show (0 : Rat) = x * 0; grind
  | cons a r => show 0 + x * ev (a :: r) x = x * ev (a :: r) x; grind
theorem ev_mulR : ∀ (f g : List Rat) (x : Rat), ev (mulR f g) x = ev f x * ev g x
  | [], g, x => by show (0 : Rat) = 0 * _; grind
  | a :: f, g, x => by
    rw [mulR, ev_add, ev_scale, ev_cons0, ev_mulR f g x]
    show _ = (a + x * ev f x) * ev g x
    grind
theorem last_add : ∀ (f g : List Rat), f.length < g.length → (addR f g).getLast? = g.getLast?
  | [], g, _ => by cases g <;> rfl
  | a :: f, [], h => by simp at h
  | [a], b :: c :: g, _ => by
    show ((a + b) :: addR [] (c :: g)).getLast? = (b :: c :: g).getLast?
    rw [show addR [] (c :: g) = c :: g from rfl, List.getLast?_cons_cons, List.getLast?_cons_cons]
  | a :: a2 :: f, b :: [], h => by simp at h
  | a :: a2 :: f, b :: c :: g, h => by
    have ih := last_add (a2 :: f) (c :: g) (by simpa using h)
    show ((a + b) :: (a2 + c) :: addR f g).getLast? = (b :: c :: g).getLast?
    rw [List.getLast?_cons_cons, List.getLast?_cons_cons]
    exact ih
theorem mulR_facts : ∀ (f g : List Rat) (p q : Rat), f.getLast? = some p → g.getLast? = some q → (mulR f g).getLast? = some (p * q) ∧ g.length ≤ (mulR f g).length
  | [], g, p, q, h, _ => by cases h
  | [a], g, p, q, h, h2 => by
    cases h
    have e : mulR [a] g = g.map (a * ·) := by
      show addR (g.map (a * ·)) [] = _
      cases g <;> rfl
    rw [e, List.getLast?_map, h2, List.length_map]
    exact ⟨rfl, Nat.le_refl _⟩
  | a :: b :: f, g, p, q, h, h2 => by
    rw [List.getLast?_cons_cons] at h
    obtain ⟨h3, h4⟩ := mulR_facts (b :: f) g p q h h2
    cases hm : mulR (b :: f) g with
    | nil => rw [hm] at h3; cases h3
    | cons c r =>
      rw [hm] at h3 h4
      have e : mulR (a :: b :: f) g = addR (g.map (a * ·)) (0 :: c :: r) := by
        show addR _ (match mulR (b :: f) g with
          | [] => []
          | r => 0 :: r) = _
        rw [hm]
      rw [e, last_add _ _ (by rw [List.length_map, List.length_cons]; omega), List.getLast?_cons_cons, h3, add_len]
      exact ⟨rfl, by rw [List.length_map]; omega⟩
theorem domain {f g : List Rat} (hf : Tr f) (hg : Tr g) (h : ∀ x, ev f x * ev g x = 0) : f = [] ∨ g = [] := by
  cases h1 : f.getLast? with
  | none => exact .inl (List.getLast?_eq_none_iff.mp h1)
  | some p => cases h2 : g.getLast? with
    | none => exact .inr (List.getLast?_eq_none_iff.mp h2)
    | some q =>
      exfalso
      obtain ⟨h3, _⟩ := mulR_facts f g p q h1 h2
      have ht : Tr (mulR f g) := fun r hr => by
        rw [h3] at hr
        cases hr
        intro h0
        rcases Rat.mul_eq_zero.mp h0 with h0 | h0
        · exact hf p h1 h0
        · exact hg q h2 h0
      have : mulR f g = [] := ev_inj ht (fun q h => by cases h) fun x => by rw [ev_mulR, h]; rfl
      rw [this] at h3
      cases h3
/-- the order of a product -/
theorem prod_len {B v m L B2 v2 m2 L2 : Nat} {as bs ts : List (List Rat)} (ha : Rws B v m L as) (hb : Rws B2 v2 m2 L2 bs) (oa : OT as) (ob : OT bs) (la : 1 ≤ as.length) (lb : 1 ≤ bs.length) (h : ∀ w x, sw ts w x = sw as (fun i => sw bs (fun j => w (i + j)) (x + (i : Rat))) x) : as.length + bs.length - 1 ≤ ts.length := by
  refine Nat.le_of_not_lt fun hlt => ?_
  obtain ⟨n, hn⟩ : ∃ n, as.length = n + 1 := ⟨as.length - 1, by omega⟩
  obtain ⟨k, hk⟩ : ∃ k, bs.length = k + 1 := ⟨bs.length - 1, by omega⟩
  have h1 : as[n]? = some as[n] := List.getElem?_eq_getElem (by omega)
  have h2 : bs[k]? = some bs[k] := List.getElem?_eq_getElem (by omega)
  have n1 : as[n] ≠ [] := oa _ (by rw [List.getLast?_eq_getElem?, show as.length - 1 = n by omega]; exact h1)
  have n2 : bs[k] ≠ [] := ob _ (by rw [List.getLast?_eq_getElem?, show bs.length - 1 = k by omega]; exact h2)
  have e0 : ∀ x : Rat, ev as[n] x * ev bs[k] (x + (n : Rat)) = 0 := fun x => by
    have e1 := h (fun i => if i = n + k then 1 else 0) x
    have e2 : sw ts (fun i => if i = n + k then 1 else 0) x = 0 := sumN_zero _ fun i hi => by
      show _ * (if i = n + k then (1 : Rat) else 0) = 0
      rw [if_neg (by omega)]
      grind
    have e3 : ∀ (i : Nat) (y : Rat), i ≤ n → sw bs (fun j => if i + j = n + k then (1 : Rat) else 0) y = if i = n then ev bs[k] y else 0 := fun i y hi => by
      by_cases c : i = n
      · rw [if_pos c]
        show sumN _ _ = _
        rw [sumN_one (k := k) _ (by omega) fun j hj => by
          show _ * (if i + j = n + k then (1 : Rat) else 0) = 0
          rw [if_neg (by omega)]
          grind]
        show _ * (if i + k = n + k then (1 : Rat) else 0) = _
        rw [if_pos (by omega), co_at h2]
        grind
      · rw [if_neg c]
        refine sumN_zero _ fun j hj => ?_
        show _ * (if i + j = n + k then (1 : Rat) else 0) = 0
        rw [if_neg (by omega)]
        grind
    have e4 : sw as (fun i => sw bs (fun j => if i + j = n + k then (1 : Rat) else 0) (x + (i : Rat))) x = ev as[n] x * ev bs[k] (x + (n : Rat)) := by
      show sumN _ _ = _
      rw [sumN_congr (g := fun i => ev (co as i) x * (if i = n then ev bs[k] (x + (i : Rat)) else 0)) _ fun i hi => by
        show ev (co as i) x * sw bs (fun j => if i + j = n + k then (1 : Rat) else 0) (x + (i : Rat)) = _
        rw [e3 i _ (by omega)]]
      rw [sumN_one (k := n) _ (by omega) fun i hi => by
        show _ * (if i = n then _ else (0 : Rat)) = 0
        rw [if_neg hi]
        grind]
      show _ * (if n = n then _ else (0 : Rat)) = _
      rw [if_pos rfl, co_at h1]
    rw [e2, e4] at e1
    exact e1.symm
  obtain ⟨r, r1, r2⟩ : ∃ r : List Rat, Tr r ∧ ∀ x, ev r x = ev bs[k] (x + (n : Rat)) := by
    have : ∀ (n : Nat) (s : List Rat), ∃ r : List Rat, ∀ x, ev r x = ev s (x + (n : Rat)) := fun n => by
      induction n with
      | zero => exact fun s => ⟨s, fun x => by rw [show x + ((0 : Nat) : Rat) = x by rw [show ((0 : Nat) : Rat) = 0 from rfl]; grind]⟩
      | succ n ih =>
        intro s
        obtain ⟨r, h1⟩ := ih s
        obtain ⟨r2, _, h3⟩ := shL r
        exact ⟨r2, fun x => by
          have h4 : ((n + 1 : Nat) : Rat) = (n : Rat) + 1 := by rw [Rat.natCast_add]; rfl
          rw [h3, h1, h4]
          congr 1
          grind⟩
    obtain ⟨r, hr⟩ := this n bs[k]
    exact ⟨cutR r, tr_cut r, fun x => by rw [ev_cut, hr]⟩
  rcases domain (ha _ (List.getElem_mem _)).tr r1 (fun x => by rw [r2]; exact e0 x) with h0 | h0
  · exact n1 h0
  · refine n2 (ev_inj (hb _ (List.getElem_mem _)).tr (fun q h => by cases h) fun x => ?_)
    have := r2 (x - (n : Rat))
    rw [h0, show x - (n : Rat) + (n : Rat) = x by grind] at this
    rw [← this]
    rfl
/-- what a product makes of values is what the first makes of what the second makes -/
theorem mk_mk {as bs ts : List (List Rat)} {vs : List Rat} (la : 1 ≤ as.length) (lb : 1 ≤ bs.length) (lt : ts.length = as.length + bs.length - 1) (lv : ts.length ≤ vs.length + 1) (h : ∀ w x, sw ts w x = sw as (fun i => sw bs (fun j => w (i + j)) (x + (i : Rat))) x) : mk as (mk bs vs) = mk ts vs := by
  refine List.ext_getElem? fun n => ?_
  have l1 : (mk as (mk bs vs)).length = vs.length - (ts.length - 1) := by rw [mk_len, mk_len]; omega
  by_cases hn : n < vs.length - (ts.length - 1)
  · rw [mk_at hn, mk_at (by rw [mk_len]; omega), h]
    congr 1
    show sumN _ _ = sumN _ _
    refine sumN_congr _ fun i hi => ?_
    congr 1
    have h4 : ((n + i : Nat) : Rat) = (n : Rat) + (i : Rat) := Rat.natCast_add _ _
    show vat (mk bs vs) (n + i) = sw bs (fun j => vat vs (n + (i + j))) ((n : Rat) + (i : Rat))
    rw [vat_at (mk_at (by omega)), h4]
    congr 1
    funext j
    rw [Nat.add_assoc]
  · rw [List.getElem?_eq_none (by rw [l1]; omega), List.getElem?_eq_none (by rw [mk_len]; omega)]
theorem mk_take {ts : List (List Rat)} {vs : List Rat} {n : Nat} (hn : n ≤ vs.length) : mk ts (vs.take n) = (mk ts vs).take (n - (ts.length - 1)) := by
  refine List.ext_getElem? fun i => ?_
  have l1 : (mk ts (vs.take n)).length = n - (ts.length - 1) := by rw [mk_len, List.length_take]; omega
  by_cases hi : i < n - (ts.length - 1)
  · rw [mk_at (by rw [List.length_take]; omega), List.getElem?_take, if_pos hi, mk_at (by omega)]
    congr 1
    show sumN _ _ = sumN _ _
    refine sumN_congr _ fun j hj => ?_
    congr 1
    show vat (vs.take n) (i + j) = vat vs (i + j)
    rw [vat, vat, List.getD_eq_getElem?_getD, List.getD_eq_getElem?_getD, List.getElem?_take, if_pos (by omega)]
  · rw [List.getElem?_eq_none (by rw [l1]; omega), List.getElem?_eq_none (by rw [List.length_take]; omega)]
end EV

/-! EvZ28: moved rows; the order of a product from above; equal values. -/
namespace EV
open PySem
theorem rows_shift {B v m L w l K : Nat} {as ts : List (List Rat)} {a : Rat} (ha : Rws B v m L as) (oa : OT as) (hl : ts.length = as.length) (h : ∀ j, j < as.length → Rw B w l K (co ts j) ∧ ∀ x, ev (co ts j) x = ev (co as j) (a + x)) : Rws B w l K ts ∧ OT ts ∧ ∀ w x, sw ts w x = sw as w (a + x) := by
  refine ⟨fun t ht => ?_, fun t ht h0 => ?_, fun w x => ?_⟩
  · obtain ⟨j, hj⟩ := List.getElem?_of_mem ht
    have := (h j (by have := (List.getElem?_eq_some_iff.mp hj).1; omega)).1
    rw [co_at hj] at this
    exact this
  · subst h0
    rw [List.getLast?_eq_getElem?, hl] at ht
    have hlt := (List.getElem?_eq_some_iff.mp ht).1
    have h1 := (h (as.length - 1) (by omega)).2
    rw [co_at ht] at h1
    have h2 : as[as.length - 1]? = some as[as.length - 1] := List.getElem?_eq_getElem (by omega)
    rw [co_at h2] at h1
    refine oa _ (by rw [List.getLast?_eq_getElem?]; exact h2) ?_
    refine ev_inj (ha _ (List.getElem_mem _)).tr (fun q h => by cases h) fun x => ?_
    have := h1 (x - a)
    rw [show a + (x - a) = x by grind] at this
    rw [← this]
    rfl
  · show sumN _ _ = sumN _ _
    rw [hl]
    exact sumN_congr _ fun i hi => by rw [(h i hi).2]
theorem prod_ub {B v m L : Nat} {as bs ts : List (List Rat)} (ht : Rws B v m L ts) (ot : OT ts) (h : ∀ w x, sw ts w x = sw as (fun i => sw bs (fun j => w (i + j)) (x + (i : Rat))) x) : ts.length ≤ as.length + bs.length - 1 := by
  refine Nat.le_of_not_lt fun hlt => ?_
  obtain ⟨n, hn⟩ : ∃ n, ts.length = n + 1 := ⟨ts.length - 1, by omega⟩
  have h1 : ts[n]? = some ts[n] := List.getElem?_eq_getElem (by omega)
  refine ot _ (by rw [List.getLast?_eq_getElem?, show ts.length - 1 = n by omega]; exact h1) (ev_inj (ht _ (List.getElem_mem _)).tr (fun q h => by cases h) fun x => ?_)
  have e1 := h (fun i => if i = n then 1 else 0) x
  have e2 : sw ts (fun i => if i = n then 1 else 0) x = ev ts[n] x := by
    show sumN _ _ = _
    rw [sumN_one (k := n) _ (by omega) fun j hj => by
      show _ * (if j = n then (1 : Rat) else 0) = 0
      rw [if_neg hj]
      grind]
    show _ * (if n = n then (1 : Rat) else 0) = _
    rw [if_pos rfl, co_at h1]
    grind
  have e3 : sw as (fun i => sw bs (fun j => if i + j = n then (1 : Rat) else 0) (x + (i : Rat))) x = 0 := sumN_zero _ fun i hi => by
    show ev (co as i) x * sw bs (fun j => if i + j = n then (1 : Rat) else 0) (x + (i : Rat)) = 0
    have : sw bs (fun j => if i + j = n then (1 : Rat) else 0) (x + (i : Rat)) = 0 := sumN_zero _ fun j hj => by
      show _ * (if i + j = n then (1 : Rat) else 0) = 0
      rw [if_neg (by omega)]
      grind
    rw [this]
    grind
  rw [e2, e3] at e1
  exact e1
section
variable {fs : List Fn} {G : List PyData} {wf k : Nat} {ρ : Loc} {M : Mem} {e1 e2 : E} {t : List Rat}
theorem same_v (h1 : evalE (callF fs G wf (k + 8)) G wf e1 ρ M = some (.d (encP t), M)) (h2 : evalE (callF fs G wf (k + 8)) G wf e2 ρ M = some (.d (encP t), M)) (h : t.length < 1000000) : SM fs G wf k ρ M 2 e1 e2 := ⟨_, h1, h2, lk_encP t h⟩
end
end EV

/-! EvZ29: adjoints. -/
namespace EV
open PySem
def oAdjoint (mv tp : Nat) : Fn := ⟨1, 3,
  (.cons (.asg 1 (.op2 false .sub (.blt false .len (.cons (.var 0) .nil)) (.lit (.int 1))))
  (.cons (.ret (.call tp (.cons (.comp false [2] (.v 2) (.rng (.cons (.op2 false .add (.var 1) (.lit (.int 1))) .nil)) (.lit (.bool true)) (.call mv (.cons (.op2 false .ix (.var 0) (.op2 false .sub (.var 1) (.var 2))) (.cons (.var 2) .nil)))) .nil)))
  .nil))⟩
def lAdB (mv : Nat) : Ss := .cons (.asgIx (.var 2) (.op2 false .sub (.var 1) (.var 3)) (.call mv (.cons (.op2 false .ix (.var 0) (.var 3)) (.cons (.op2 false .sub (.var 1) (.var 3)) .nil)))) .nil
def lAdjoint (mv tp : Nat) : Fn := ⟨1, 4,
  (.cons (.asg 1 (.op2 false .sub (.blt false .len (.cons (.var 0) .nil)) (.lit (.int 1))))
  (.cons (.asg 2 (.op2 true .mul (.lst false (.cons (.tup .nil) .nil)) (.op2 false .add (.var 1) (.lit (.int 1)))))
  (.cons (.fr (.v 3) (.rng (.cons (.op2 false .add (.var 1) (.lit (.int 1))) .nil)) (lAdB mv))
  (.cons (.ret (.call tp (.cons (.var 2) .nil)))
  .nil))))⟩
abbrev ind (n : Nat) : Nat → Rat := fun i => if i = n then 1 else 0
/-- the sums of the adjoint of an operator of order r with the sums A -/
def AD (r : Nat) (A : (Nat → Rat) → Rat → Rat) (w : Nat → Rat) (x : Rat) : Rat := sumN (fun j => A (ind (r - j)) (x + (j : Rat)) * w j) (r + 1)
theorem sw_ind (ts : List (List Rat)) (n : Nat) (x : Rat) : sw ts (ind n) x = ev (co ts n) x := by
  by_cases hn : n < ts.length
  · show sumN _ _ = _
    rw [sumN_one (k := n) _ hn fun j hj => by
      show _ * (if j = n then (1 : Rat) else 0) = 0
      rw [if_neg hj]
      grind]
    show _ * (if n = n then (1 : Rat) else 0) = _
    rw [if_pos rfl]
    grind
  · rw [co_out (by omega), ev_nil]
    refine sumN_zero _ fun j hj => ?_
    show _ * (if j = n then (1 : Rat) else 0) = 0
    rw [if_neg (by omega)]
    grind
/-- the operator with the sums A has n members -/
structure LNA (A : (Nat → Rat) → Rat → Rat) (n : Nat) : Prop where
  up : ∀ i x, n ≤ i → A (ind i) x = 0
  lo : ∀ i, n = i + 1 → ∃ x, A (ind i) x ≠ 0
theorem lna_of {B v m L : Nat} {ts : List (List Rat)} (h : Rws B v m L ts) (ho : OT ts) : LNA (sw ts) ts.length := by
  refine ⟨fun i x hi => by rw [sw_ind, co_out hi, ev_nil], fun i hi => ?_⟩
  have h1 : ts[i]? = some ts[i] := List.getElem?_eq_getElem (by omega)
  have h2 : ts[i] ≠ [] := ho _ (by rw [List.getLast?_eq_getElem?, show ts.length - 1 = i by omega]; exact h1)
  refine Classical.byContradiction fun hn => h2 (ev_inj (h _ (List.getElem_mem _)).tr (fun q h => by cases h) fun x => ?_)
  have := Classical.byContradiction fun hx => hn ⟨x, hx⟩
  rw [sw_ind, co_at h1] at this
  rw [this]
  rfl
theorem len_of {B v m L n : Nat} {ts : List (List Rat)} {A : (Nat → Rat) → Rat → Rat} (h : Rws B v m L ts) (ho : OT ts) (hA : ∀ w x, sw ts w x = A w x) (hn : LNA A n) : ts.length = n := by
  have h1 := lna_of h ho
  refine Nat.le_antisymm (Nat.le_of_not_lt fun hlt => ?_) (Nat.le_of_not_lt fun hlt => ?_)
  · obtain ⟨x, hx⟩ := h1.lo (ts.length - 1) (by omega)
    rw [hA, hn.up _ _ (by omega)] at hx
    exact hx rfl
  · obtain ⟨x, hx⟩ := hn.lo (n - 1) (by omega)
    rw [← hA, h1.up _ _ (by omega)] at hx
    exact hx rfl
section
variable {G : List PyData} {wf : Nat} {M : Mem} {fs : List Fn} {i k mv tp B v m L w l K r : Nat} {as : List (List Rat)}
theorem ad_sw {ts : List (List Rat)} (hl : ts.length ≤ r + 1) (h : ∀ j x, j ≤ r → ev (co ts j) x = ev (co as (r - j)) (x + (j : Rat))) (w : Nat → Rat) (x : Rat) : sw ts w x = AD r (sw as) w x := by
  rw [← sw_ge hl]
  refine sumN_congr _ fun j hj => ?_
  rw [h j x (by omega), sw_ind]
theorem oadj_eq [FA fs i (oAdjoint mv tp)] [FA fs tp oTopP] [WF wf] (ha : Rws B v m L as) (hl : as.length = r + 1) (hr : r < 1000) (mov : Mov fs G wf k B mv v m L w l K 1000) :
    ∃ ts, callF fs G wf (k + 9) i [.d (encO as)] M = some (.d (encO ts), M) ∧ Rws B w l K ts ∧ OT ts ∧ ts.length ≤ r + 1 ∧ ∀ w x, sw ts w x = AD r (sw as) w x := by
  have hz := EV.sizeLine_eq
  let ρ1 : Loc := [some (.d (encO as)), some (.d (.int (r : Nat))), none]
  have a1 : evalE (callF fs G wf (k + 8)) G wf (.op2 false .sub (.blt false .len (.cons (.var 0) .nil)) (.lit (.int 1))) [some (.d (encO as)), none, none] M = some (.d (.int (r : Nat)), M) := by
    have := x_opG (e_lenO (cf := callF fs G wf (k + 8)) (G := G) (wf := wf) (ρ := [some (.d (encO as)), none, none]) (M := M) (M1 := M) (e1 := .var 0) (ts := as) (e_var rfl)) (b := .lit (.int 1)) (M2 := M) e_lit p_sub (by decide)
    rw [show ((as.length : Nat) : Int) - 1 = (r : Int) by omega] at this
    exact this
  have a2 : evalE (callF fs G wf (k + 8)) G wf (.op2 false .add (.var 1) (.lit (.int 1))) ρ1 M = some (.d (.int ((r + 1 : Nat) : Int)), M) := x_opG (x := .int (r : Nat)) (M1 := M) (e_var rfl) e_lit p_add (by decide)
  obtain ⟨ts, c1, c2, c3⟩ := compP (f := tc (callF fs G wf (k + 8)) G wf [2] (.v 2) (.lit (.bool true)) (.call mv (.cons (.op2 false .ix (.var 0) (.op2 false .sub (.var 1) (.var 2))) (.cons (.var 2) .nil))) ρ1) (M := M) (P := fun j t => Rw B w l K t ∧ ∀ x, ev t x = ev (co as (r - j)) (x + (j : Rat))) (irng 0 1 (r + 1)) 0 [] (by rw [irng_length, hz]; show 0 + (r + 1) ≤ _; omega) (fun j x hx => by
    obtain ⟨rfl, hj⟩ := irng_at hx
    let ρ2 : Loc := [some (.d (encO as)), some (.d (.int (r : Nat))), some (.d (.int (j : Nat)))]
    obtain ⟨t, t1, t2, t3⟩ := mov M (co as (r - j)) j (by omega) (co_rw ha _)
    have e1 : evalE (callF fs G wf (k + 8)) G wf (.op2 false .sub (.var 1) (.var 2)) ρ2 M = some (.d (.int ((r - j : Nat) : Int)), M) := by
      rw [show ((r - j : Nat) : Int) = (r : Int) - (j : Int) by omega]
      exact x_opG (x := .int (r : Nat)) (y := .int (j : Nat)) (M1 := M) (e_var rfl) (e_var rfl) p_sub (by decide)
    have e2 := x_ixO (cf := callF fs G wf (k + 8)) (G := G) (wf := wf) (ρ := ρ2) (M := M) (M1 := M) (M2 := M) (ts := as) (e1 := .var 0) (j := r - j) (e_var rfl) e1 (by omega)
    have e3 : evalE (callF fs G wf (k + 8)) G wf (.call mv (.cons (.op2 false .ix (.var 0) (.op2 false .sub (.var 1) (.var 2))) (.cons (.var 2) .nil))) ρ2 M = some (.d (encP t), M) := x_callE (es_cons e2 (es_cons (e_var rfl) es_nil)) t1
    exact ⟨t, fun acc ha2 => tc_go (ρ2 := ρ2) rfl t_lit e3 ha2, t2, fun x => by rw [Nat.zero_add]; exact t3 x⟩)
  rw [irng_length] at c2
  have hc : evalE (callF fs G wf (k + 8)) G wf (.comp false [2] (.v 2) (.rng (.cons (.op2 false .add (.var 1) (.lit (.int 1))) .nil)) (.lit (.bool true)) (.call mv (.cons (.op2 false .ix (.var 0) (.op2 false .sub (.var 1) (.var 2))) (.cons (.var 2) .nil)))) ρ1 M = some (.d (.list (encPs ts)), M) := x_comp (x_rngE a2 (by omega)) c1 rfl
  refine ⟨topR ts, ret_d (k := k + 8) FA.h rfl (x_cons (x_asg a1) (x_stop (x_ret (x_callE (es_cons hc es_nil) (otopP_eq (k := k + 7) rfl rfl (by omega)))))), Rws.top fun t ht => ?_, ot_top _, Nat.le_trans (topR_len _) (by omega), fun w x => ?_⟩
  · obtain ⟨j, hj⟩ := List.getElem?_of_mem ht
    exact (c3 j t hj).1
  · rw [sw_top]
    refine ad_sw (by omega) (fun j x hj => ?_) w x
    have h := List.getElem?_eq_getElem (show j < ts.length by omega)
    have := (c3 j _ h).2 x
    rw [Nat.zero_add] at this
    rw [co_at h]
    exact this
theorem ladj_eq [FA fs i (lAdjoint mv tp)] [FA fs tp oTopL] [WF wf] (ha : Rws B v m L as) (hl : as.length = r + 1) (hr : r < 1000) (mov : Mov fs G wf k B mv v m L w l K 1000) :
    ∃ ts, callF fs G wf (k + 9) i [.d (encO as)] M = some (.d (encO ts), M) ∧ Rws B w l K ts ∧ OT ts ∧ ts.length ≤ r + 1 ∧ ∀ w x, sw ts w x = AD r (sw as) w x := by
  have hz := EV.sizeLine_eq
  let st : Option W → Loc := fun x3 => [some (.d (encO as)), some (.d (.int (r : Nat))), some (.m M.length), x3]
  let ρ1 : Loc := [some (.d (encO as)), some (.d (.int (r : Nat))), none, none]
  have a1 : evalE (callF fs G wf (k + 8)) G wf (.op2 false .sub (.blt false .len (.cons (.var 0) .nil)) (.lit (.int 1))) [some (.d (encO as)), none, none, none] M = some (.d (.int (r : Nat)), M) := by
    have := x_opG (e_lenO (cf := callF fs G wf (k + 8)) (G := G) (wf := wf) (ρ := [some (.d (encO as)), none, none, none]) (M := M) (M1 := M) (e1 := .var 0) (ts := as) (e_var rfl)) (b := .lit (.int 1)) (M2 := M) e_lit p_sub (by decide)
    rw [show ((as.length : Nat) : Int) - 1 = (r : Int) by omega] at this
    exact this
  have a2 : evalE (callF fs G wf (k + 8)) G wf (.op2 false .add (.var 1) (.lit (.int 1))) ρ1 M = some (.d (.int ((r + 1 : Nat) : Int)), M) := x_opG (x := .int (r : Nat)) (M1 := M) (e_var rfl) e_lit p_add (by decide)
  have e1 : evalE (callF fs G wf (k + 8)) G wf (.lst false (.cons (.tup .nil) .nil)) ρ1 M = some (.d (.list [.tuple []]), M) := e_lstF (es_cons (e_tup es_nil rfl (Nat.zero_le _)) es_nil) rfl (by rw [hz]; show 1 ≤ _; decide)
  have s1 := x_opM e1 a2 (mul_repG _ (n := r + 1) (by omega)) (by decide)
  rw [← encPs_rep] at s1
  have a3 : evalE (callF fs G wf (k + 8)) G wf (.op2 false .add (.var 1) (.lit (.int 1))) (st none) (mO M (List.replicate (r + 1) [])) = some (.d (.int ((r + 1 : Nat) : Int)), mO M (List.replicate (r + 1) [])) := x_opG (x := .int (r : Nat)) (M1 := mO M (List.replicate (r + 1) [])) (e_var rfl) e_lit p_add (by decide)
  obtain ⟨ρ2, M2, f2, t2, y3, rfl, hM2, b1, b2⟩ := forL_for (f := turnG (callF fs G wf (k + 8)) G wf (.v 3) (lAdB mv)) (xs := irng 0 1 (r + 1)) (fun n ρ M' => ∃ (t : List (List Rat)) (x3 : Option W), ρ = st x3 ∧ M' = mO M t ∧ t.length = r + 1 ∧ ∀ j, j ≤ r → (r - j < n → Rw B w l K (co t j) ∧ ∀ x, ev (co t j) x = ev (co as (r - j)) (x + (j : Rat))) ∧ (n ≤ r - j → co t j = []))
    (fun ρ M' => ∃ (t : List (List Rat)) (x3 : Option W), ρ = st x3 ∧ M' = mO M t ∧ t.length = r + 1 ∧ ∀ j, j ≤ r → Rw B w l K (co t j) ∧ ∀ x, ev (co t j) x = ev (co as (r - j)) (x + (j : Rat))) (fun n x ρ M' hx hI => by
      obtain ⟨rfl, hn⟩ := irng_at hx
      obtain ⟨t, x3, rfl, rfl, h1, h2⟩ := hI
      rw [x_turn]
      let ρ2 : Loc := st (some (.d (.int (n : Nat))))
      obtain ⟨d, d1, d2, d3⟩ := mov (mO M t) (co as n) (r - n) (by omega) (co_rw ha _)
      have e1 : evalE (callF fs G wf (k + 8)) G wf (.op2 false .sub (.var 1) (.var 3)) ρ2 (mO M t) = some (.d (.int ((r - n : Nat) : Int)), mO M t) := by
        rw [show ((r - n : Nat) : Int) = (r : Int) - (n : Int) by omega]
        exact x_opG (x := .int (r : Nat)) (y := .int (n : Nat)) (M1 := mO M t) (e_var rfl) (e_var rfl) p_sub (by decide)
      have e2 := x_ixO (cf := callF fs G wf (k + 8)) (G := G) (wf := wf) (ρ := ρ2) (M := mO M t) (M1 := mO M t) (M2 := mO M t) (ts := as) (e1 := .var 0) (e2 := .var 3) (j := n) (e_var rfl) (e_var rfl) (by omega)
      have e3 : evalE (callF fs G wf (k + 8)) G wf (.call mv (.cons (.op2 false .ix (.var 0) (.var 3)) (.cons (.op2 false .sub (.var 1) (.var 3)) .nil))) ρ2 (mO M t) = some (.d (encP d), mO M t) := x_callE (es_cons e2 (es_cons e1 es_nil)) d1
      have q2 := s_ixMO (cf := callF fs G wf (k + 8)) (G := G) (wf := wf) (ρ := ρ2) (M := M) (ts := t) (e1 := .var 2) (j := r - n) e3 (e_var rfl) e1 (by omega)
      refine ⟨_, _, .inl ⟨x_cons q2 (by rw [evalSs]), t.set (r - n) d, _, rfl, rfl, by rw [List.length_set]; exact h1, fun j hj => ⟨fun h => ?_, fun h => ?_⟩⟩⟩
      · rw [co_set (by omega)]
        by_cases h4 : j = r - n
        · subst h4
          rw [if_pos rfl]
          refine ⟨d2, fun x => ?_⟩
          rw [d3, show r - (r - n) = n by omega]
        · rw [if_neg h4]
          exact (h2 j hj).1 (by omega)
      · rw [co_set (by omega), if_neg (by omega)]
        exact (h2 j hj).2 (by omega)) (fun ρ M' hI => by
      obtain ⟨t, x3, h1, h2, h3, h4⟩ := hI
      rw [irng_length] at h4
      exact ⟨t, x3, h1, h2, h3, fun j hj => (h4 j hj).1 (by omega)⟩) (ρ := st none) (M := mO M (List.replicate (r + 1) [])) ⟨List.replicate (r + 1) [], none, rfl, rfl, by simp, fun j hj => ⟨fun h => by omega, fun h => co_rep _ _⟩⟩
  subst hM2
  have htop : (mO M t2)[M.length]? = some (.lst (encPs t2)) := top_get
  have fin := x_fin (fs := fs) (G := G) (wf := wf) (k := k + 8) (i := i) (ws := [.d (encO as)]) (M := M) (x := encO (topR t2)) (M1 := mO M t2) (FA.h (fs := fs) (i := i) (fn := lAdjoint mv tp)) rfl
    (x_cons (x_asg a1) (x_cons (x_asg s1) (x_cons (x_for (x_rngE a3 (by omega)) f2) (x_stop (x_ret (x_callE (es_cons (w := .m M.length) (M1 := mO M t2) (e_var rfl) es_nil) (otopL_eq (k := k + 7) (by rw [derefR_m, deref_m, htop]) (by rw [deref_m, htop]) (by omega))))))))
  rw [show (mO M t2).take M.length = M from top_take] at fin
  refine ⟨topR t2, fin, Rws.top fun t ht => ?_, ot_top _, Nat.le_trans (topR_len _) (by omega), fun w x => ?_⟩
  · obtain ⟨j, hj⟩ := List.getElem?_of_mem ht
    have h3 := (List.getElem?_eq_some_iff.mp hj).1
    rw [← co_at hj]
    exact (b2 j (by omega)).1
  · rw [sw_top]
    exact ad_sw (by omega) (fun j x hj => (b2 j hj).2 x) w x
end
section
variable {fs : List Fn} {G : List PyData} {wf k : Nat} {ρ : Loc} {M : Mem} {B v m L w l K R Q : Nat} {A : (Nat → Rat) → Rat → Rat} {e : E} {i z s u c p o r N y g1 mu mv tp pa pm rr : Nat}
theorem mov_p [FA fs mv (pMoved y g1)] [FA fs y (pPut z s mu)] [FA fs s (pSum p c)] [FA fs mu (pMul z p o c)] [FA fs c (pCut z)] [FA fs p (pPlus r)] [FA fs o (pProd r)] [GA G z (pr 0 1)] [GA G g1 (pr 1 1)] [MK fs G wf r N] [WF wf] (hB : 0 < B) (hB2 : B ≤ 256) (hN : 16 * l + 2 ≤ N)
    (hv1 : 2 * (w + (K + 2) * (w + (10 + 1) + K * 3 * 2 + 1) + 2) + 16 * l + 2 < 100000000) (hK : K ≤ 100) : Mov fs G wf k B mv w l K (mvV w K) l (K * 3) 1000 := by
  intro M t n hn ht
  have hs : sm 10 (n : Int) := by show (n : Int).natAbs < 1024; omega
  obtain ⟨r', r1, r2, r3⟩ := of_peI (pe_mov (i := mv) (y := y) (g1 := g1) (z := z) (s := s) (u := mu) (c := c) (p := p) (o := o) (r := r) (N := N) (ht.pe (fs := fs) (G := G) (wf := wf) (k := k) (M := M) (ρ := [some (.d (encP t)), some (.d (.int (n : Nat)))]) (i := 0) rfl) (ie_var (i := 1) (a := (n : Int)) rfl hs) (hB := hB) (hB2 := hB2) (hN := by omega) (hv := by omega) (hL := hK))
  exact ⟨r', r1, r2, fun x => by
    rw [r3]
    show ev t ((n : Rat) + x) = ev t (x + (n : Rat))
    congr 1
    grind⟩
theorem mov_l [FA fs mv (lMoved y)] [FA fs y (lPut pa pm)] [FA fs pa (lPadd c p)] [FA fs pm (lMul c p o)] [FA fs c lTrim] [FA fs p (pPlus r)] [FA fs o (pProd r)] [MK fs G wf r N] [WF wf] (hB : 0 < B) (hB2 : B ≤ 256) (hN : 16 * l + 2 ≤ N)
    (hv1 : 2 * (w + (K + 2) * (w + (10 + 1) + K * 3 * 2 + 1) + 2) + 16 * l + 2 < 100000000) (hK : K ≤ 100) : Mov fs G wf k B mv w l K (mvV w K) l (K * 3) 1000 := by
  intro M t n hn ht
  have hs : sm 10 (n : Int) := by show (n : Int).natAbs < 1024; omega
  obtain ⟨r', r1, r2, r3⟩ := of_peI (pe_lmov (i := mv) (y := y) (s := pa) (u := pm) (c := c) (p := p) (o := o) (r := r) (N := N) (ht.pe (fs := fs) (G := G) (wf := wf) (k := k) (M := M) (ρ := [some (.d (encP t)), some (.d (.int (n : Nat)))]) (i := 0) rfl) (ie_var (i := 1) (a := (n : Int)) rfl hs) (hB := hB) (hB2 := hB2) (hN := by omega) (hv := by omega) (hL := hK))
  exact ⟨r', r1, r2, fun x => by
    rw [r3]
    show ev t ((n : Rat) + x) = ev t (x + (n : Rat))
    congr 1
    grind⟩
theorem ad_congr {A A2 : (Nat → Rat) → Rat → Rat} (h : ∀ w x, A w x = A2 w x) (w : Nat → Rat) (x : Rat) : AD rr A w x = AD rr A2 w x := sumN_congr _ fun j _ => by rw [h]
theorem oe_adj [FA fs i (oAdjoint mv tp)] [FA fs tp oTopP] [FA fs mv (pMoved y g1)] [FA fs y (pPut z s mu)] [FA fs s (pSum p c)] [FA fs mu (pMul z p o c)] [FA fs c (pCut z)] [FA fs p (pPlus r)] [FA fs o (pProd r)] [GA G z (pr 0 1)] [GA G g1 (pr 1 1)] [MK fs G wf r N] [WF wf] (h : OE fs G wf (k + 1) ρ M B e w l K R A) (hn : LNA A (rr + 1)) (hQ : rr + 1 ≤ Q) (hB : 0 < B := by decide) (hB2 : B ≤ 256 := by decide) (hN : 16 * l + 2 ≤ N := by decide)
    (hv1 : 2 * (w + (K + 2) * (w + (10 + 1) + K * 3 * 2 + 1) + 2) + 16 * l + 2 < 100000000 := by decide) (hK : K ≤ 100 := by decide) (hQ2 : Q ≤ 1000 := by decide) : OE fs G wf (k + 1) ρ M B (.call i (.cons e .nil)) (mvV w K) l (K * 3) Q (AD rr A) := by
  obtain ⟨f, a1, a2, a3, a4, a5⟩ := h
  obtain ⟨t, c1, c2, c3, c4, c5⟩ := oadj_eq (fs := fs) (G := G) (wf := wf) (M := M) (k := k) (i := i) (r := rr) a2 (len_of a2 a3 a5 hn) (by omega) (mov_p (z := z) (s := s) (mu := mu) (c := c) (p := p) (o := o) (r := r) (N := N) (y := y) (g1 := g1) hB hB2 hN hv1 hK)
  exact ⟨t, x_callE (es_cons a1 es_nil) c1, c2, c3, Nat.le_trans c4 hQ, fun w x => by rw [c5]; exact ad_congr a5 w x⟩
theorem oe_ladj [FA fs i (lAdjoint mv tp)] [FA fs tp oTopL] [FA fs mv (lMoved y)] [FA fs y (lPut pa pm)] [FA fs pa (lPadd c p)] [FA fs pm (lMul c p o)] [FA fs c lTrim] [FA fs p (pPlus r)] [FA fs o (pProd r)] [MK fs G wf r N] [WF wf] (h : OE fs G wf (k + 1) ρ M B e w l K R A) (hn : LNA A (rr + 1)) (hQ : rr + 1 ≤ Q) (hB : 0 < B := by decide) (hB2 : B ≤ 256 := by decide) (hN : 16 * l + 2 ≤ N := by decide)
    (hv1 : 2 * (w + (K + 2) * (w + (10 + 1) + K * 3 * 2 + 1) + 2) + 16 * l + 2 < 100000000 := by decide) (hK : K ≤ 100 := by decide) (hQ2 : Q ≤ 1000 := by decide) : OE fs G wf (k + 1) ρ M B (.call i (.cons e .nil)) (mvV w K) l (K * 3) Q (AD rr A) := by
  obtain ⟨f, a1, a2, a3, a4, a5⟩ := h
  obtain ⟨t, c1, c2, c3, c4, c5⟩ := ladj_eq (fs := fs) (G := G) (wf := wf) (M := M) (k := k) (i := i) (r := rr) a2 (len_of a2 a3 a5 hn) (by omega) (mov_l (pa := pa) (pm := pm) (c := c) (p := p) (o := o) (r := r) (N := N) (y := y) hB hB2 hN hv1 hK)
  exact ⟨t, x_callE (es_cons a1 es_nil) c1, c2, c3, Nat.le_trans c4 hQ, fun w x => by rw [c5]; exact ad_congr a5 w x⟩
end
end EV

/-! EvZ30: the sums of adjoints. No program here. -/
namespace EV
open PySem
abbrev pA (A A2 : (Nat → Rat) → Rat → Rat) : (Nat → Rat) → Rat → Rat := fun w x => A (fun i => A2 (fun j => w (i + j)) (x + (i : Rat))) x
theorem sumN_mulr (c : Rat) (f : Nat → Rat) (n : Nat) : sumN f n * c = sumN (fun i => f i * c) n := by
  rw [show sumN f n * c = c * sumN f n by grind, ← sumN_mul]
  exact sumN_congr _ fun i _ => by grind
theorem sumN_comm (f : Nat → Nat → Rat) (n : Nat) : ∀ m : Nat, sumN (fun i => sumN (fun j => f i j) n) m = sumN (fun j => sumN (fun i => f i j) m) n
  | 0 => (sumN_zero _ fun _ _ => rfl).symm
  | m + 1 => by
    show sumN (fun i => sumN (fun j => f i j) n) m + sumN (fun j => f m j) n = sumN (fun j => sumN (fun i => f i j) m + f m j) n
    rw [sumN_comm f n m, sumN_add]
theorem sumN_head (f : Nat → Rat) : ∀ n : Nat, sumN f (n + 1) = f 0 + sumN (fun i => f (i + 1)) n
  | 0 => by show (0 : Rat) + f 0 = f 0 + 0; grind
  | n + 1 => by
    show sumN f (n + 1) + f (n + 1) = f 0 + (sumN (fun i => f (i + 1)) n + f (n + 1))
    rw [sumN_head f n]
    grind
theorem sumN_rev (f : Nat → Rat) : ∀ n : Nat, sumN f (n + 1) = sumN (fun i => f (n - i)) (n + 1)
  | 0 => rfl
  | n + 1 => by
    rw [sumN_head (fun i => f (n + 1 - i)) (n + 1)]
    show sumN f (n + 1) + f (n + 1) = f (n + 1) + sumN (fun i => f (n + 1 - (i + 1))) (n + 1)
    rw [sumN_rev f n, show (fun i => f (n + 1 - (i + 1))) = fun i => f (n - i) by funext i; rw [Nat.add_sub_add_right]]
    grind
theorem sumN_oneB {f : Nat → Rat} {k : Nat} : ∀ n : Nat, k < n → (∀ i, i < n → i ≠ k → f i = 0) → sumN f n = f k
  | 0, h, _ => by omega
  | n + 1, h, h0 => by
    show sumN f n + f n = _
    by_cases e : k = n
    · subst e
      rw [sumN_zero k fun i hi => h0 i (by omega) (by omega)]
      grind
    · rw [sumN_oneB n (by omega) fun i hi => h0 i (by omega), h0 n (by omega) (by omega)]
      grind
theorem cast_add (a b : Nat) : ((a + b : Nat) : Rat) = (a : Rat) + (b : Rat) := Rat.natCast_add _ _
section
variable {a b : List (List Rat)} {r s : Nat}
theorem ad_prod (ha : a.length = r + 1) (hb : b.length = s + 1) (w : Nat → Rat) (x : Rat) : AD (r + s) (pA (sw a) (sw b)) w x = pA (fun w x => AD s (sw b) w ((r : Rat) + x)) (AD r (sw a)) w x := by
  let F : Nat → Nat → Rat := fun p q => ev (co a p) (x + ((s - q + (r - p) : Nat) : Rat)) * ev (co b q) (x + ((s - q + r : Nat) : Rat)) * w (s - q + (r - p))
  let H : Nat → Nat → Nat → Rat := fun n p q => ev (co a p) (x + (n : Rat)) * (ev (co b q) (x + (n : Rat) + (p : Rat)) * (if p + q = r + s - n then 1 else 0)) * w n
  have l1 : AD (r + s) (pA (sw a) (sw b)) w x = sumN (fun n => sumN (fun p => sumN (fun q => H n p q) (s + 1)) (r + 1)) (r + s + 1) := by
    refine sumN_congr _ fun n hn => ?_
    show sumN (fun p => ev (co a p) (x + (n : Rat)) * sumN (fun q => ev (co b q) (x + (n : Rat) + (p : Rat)) * (if p + q = r + s - n then 1 else 0)) b.length) a.length * w n = _
    rw [ha, hb, sumN_mulr]
    refine sumN_congr _ fun p hp => ?_
    rw [← sumN_mul, sumN_mulr]
  have l2 : sumN (fun n => sumN (fun p => sumN (fun q => H n p q) (s + 1)) (r + 1)) (r + s + 1) = sumN (fun p => sumN (fun q => F p q) (s + 1)) (r + 1) := by
    rw [sumN_comm (fun n p => sumN (fun q => H n p q) (s + 1))]
    refine sumN_congr _ fun p hp => ?_
    rw [sumN_comm (fun n q => H n p q)]
    refine sumN_congr _ fun q hq => ?_
    rw [sumN_oneB (k := s - q + (r - p)) _ (by omega) fun n hlt hn => by
      show _ * (_ * (if p + q = r + s - n then (1 : Rat) else 0)) * _ = 0
      rw [if_neg (by omega)]
      grind]
    show ev (co a p) (x + ((s - q + (r - p) : Nat) : Rat)) * (ev (co b q) (x + ((s - q + (r - p) : Nat) : Rat) + (p : Rat)) * (if p + q = r + s - (s - q + (r - p)) then 1 else 0)) * w (s - q + (r - p)) = _
    rw [if_pos (by omega), show x + ((s - q + (r - p) : Nat) : Rat) + (p : Rat) = x + ((s - q + r : Nat) : Rat) by
      rw [show s - q + r = (s - q + (r - p)) + p by omega, cast_add (s - q + (r - p)) p]
      grind]
    show _ = ev (co a p) (x + ((s - q + (r - p) : Nat) : Rat)) * ev (co b q) (x + ((s - q + r : Nat) : Rat)) * w (s - q + (r - p))
    grind
  have r1 : pA (fun w x => AD s (sw b) w ((r : Rat) + x)) (AD r (sw a)) w x = sumN (fun j => sumN (fun i => F (r - i) (s - j)) (r + 1)) (s + 1) := by
    show sumN (fun j => sw b (ind (s - j)) ((r : Rat) + x + (j : Rat)) * sumN (fun i => sw a (ind (r - i)) (x + (j : Rat) + (i : Rat)) * w (j + i)) (r + 1)) (s + 1) = _
    refine sumN_congr _ fun j hj => ?_
    rw [← sumN_mul]
    refine sumN_congr _ fun i hi => ?_
    rw [sw_ind, sw_ind]
    show _ = ev (co a (r - i)) (x + ((s - (s - j) + (r - (r - i)) : Nat) : Rat)) * ev (co b (s - j)) (x + ((s - (s - j) + r : Nat) : Rat)) * w (s - (s - j) + (r - (r - i)))
    rw [show s - (s - j) = j by omega, show r - (r - i) = i by omega, cast_add, cast_add, show (r : Rat) + x + (j : Rat) = x + ((j : Rat) + (r : Rat)) by grind, show x + (j : Rat) + (i : Rat) = x + ((j : Rat) + (i : Rat)) by grind]
    grind
  rw [l1, l2, r1, ← sumN_rev (fun q => sumN (fun i => F (r - i) q) (r + 1)) s]
  rw [sumN_comm F]
  exact sumN_congr _ fun q _ => sumN_rev (fun p => F p q) r
theorem ad_add (A C : (Nat → Rat) → Rat → Rat) (w : Nat → Rat) (x : Rat) : AD r (fun w x => A w x + C w x) w x = AD r A w x + AD r C w x := by
  show sumN _ _ = sumN _ _ + sumN _ _
  rw [← sumN_add]
  exact sumN_congr _ fun j _ => by grind
theorem ad_moved (A : (Nat → Rat) → Rat → Rat) (k : Rat) (w : Nat → Rat) (x : Rat) : AD r (fun w x => A w (k + x)) w x = AD r A w (k + x) := by
  refine sumN_congr _ fun j _ => ?_
  show A (ind (r - j)) (k + (x + (j : Rat))) * w j = A (ind (r - j)) (k + x + (j : Rat)) * w j
  rw [show k + (x + (j : Rat)) = k + x + (j : Rat) by grind]
theorem ad_at (A : (Nat → Rat) → Rat → Rat) {t : Nat} (ht : t ≤ r) (y : Rat) : AD r A (ind t) y = A (ind (r - t)) (y + (t : Rat)) := by
  show sumN _ _ = _
  rw [sumN_one (k := t) _ (by omega) fun i hi => by
    show _ * (if i = t then (1 : Rat) else 0) = 0
    rw [if_neg hi]
    grind]
  show _ * (if t = t then (1 : Rat) else 0) = _
  rw [if_pos rfl]
  grind
theorem ad_out (A : (Nat → Rat) → Rat → Rat) {t : Nat} (ht : r < t) (y : Rat) : AD r A (ind t) y = 0 :=
  sumN_zero _ fun i hi => by
    show _ * (if i = t then (1 : Rat) else 0) = 0
    rw [if_neg (by omega)]
    grind
theorem ad_ad (ha : a.length = r + 1) (w : Nat → Rat) (x : Rat) : AD r (AD r (sw a)) w x = sw a w ((r : Rat) + x) := by
  show sumN _ _ = sumN _ a.length
  rw [ha]
  refine sumN_congr _ fun j hj => ?_
  show AD r (sw a) (ind (r - j)) (x + (j : Rat)) * w j = ev (co a j) ((r : Rat) + x) * w j
  rw [ad_at _ (by omega), sw_ind, show r - (r - j) = j by omega, show x + (j : Rat) + ((r - j : Nat) : Rat) = (r : Rat) + x by
    have : (r : Rat) = (j : Rat) + ((r - j : Nat) : Rat) := by rw [← cast_add, show j + (r - j) = r by omega]
    rw [this]
    grind]
theorem lna_congr {A C : (Nat → Rat) → Rat → Rat} {n : Nat} (h : ∀ w x, A w x = C w x) (hA : LNA A n) : LNA C n :=
  ⟨fun i x hi => by rw [← h]; exact hA.up i x hi, fun i hi => by
    obtain ⟨x, hx⟩ := hA.lo i hi
    exact ⟨x, by rw [← h]; exact hx⟩⟩
theorem lna_moved {A : (Nat → Rat) → Rat → Rat} {n : Nat} (k : Rat) (hA : LNA A n) : LNA (fun w x => A w (k + x)) n :=
  ⟨fun i x hi => hA.up i _ hi, fun i hi => by
    obtain ⟨x, hx⟩ := hA.lo i hi
    refine ⟨x - k, ?_⟩
    show A _ (k + (x - k)) ≠ 0
    rw [show k + (x - k) = x by grind]
    exact hx⟩
theorem lna_prod {B v m L B2 v2 m2 L2 B3 v3 m3 L3 : Nat} {ts : List (List Rat)} (ha : Rws B v m L a) (hb : Rws B2 v2 m2 L2 b) (oa : OT a) (ob : OT b) (la : a.length = r + 1) (lb : b.length = s + 1) (ht : Rws B3 v3 m3 L3 ts) (ot : OT ts) (h : ∀ w x, sw ts w x = pA (sw a) (sw b) w x) : LNA (pA (sw a) (sw b)) (r + s + 1) := by
  have h1 : ts.length = r + s + 1 := by
    have := prod_len ha hb oa ob (by omega) (by omega) h
    have := prod_ub ht ot h
    omega
  rw [← h1]
  exact lna_congr h (lna_of ht ot)
theorem lna_ad {A : (Nat → Rat) → Rat → Rat} (h : ∃ x, A (ind 0) x ≠ 0) : LNA (AD r A) (r + 1) :=
  ⟨fun i x hi => ad_out A (by omega) x, fun i hi => by
    obtain ⟨x, hx⟩ := h
    have : i = r := by omega
    subst this
    refine ⟨x - (i : Rat), ?_⟩
    rw [ad_at _ (Nat.le_refl _), Nat.sub_self, show x - (i : Rat) + (i : Rat) = x by grind]
    exact hx⟩
theorem lna_mul {B v m L : Nat} {f : List Rat} (hf : Tr f) (h0 : f ≠ []) (ha : Rws B v m L a) (oa : OT a) : LNA (fun w x => ev f x * sw a w x) a.length :=
  ⟨fun i x hi => by
    show ev f x * sw a (ind i) x = 0
    rw [sw_ind, co_out hi, ev_nil]
    grind, fun i hi => by
    have h1 : a[i]? = some a[i] := List.getElem?_eq_getElem (by omega)
    have h2 : a[i] ≠ [] := oa _ (by rw [List.getLast?_eq_getElem?, show a.length - 1 = i by omega]; exact h1)
    refine Classical.byContradiction fun hn => ?_
    rcases domain hf (ha _ (List.getElem_mem _)).tr (fun x => by
      have : ev f x * sw a (ind i) x = 0 := Classical.byContradiction fun hx => hn ⟨x, hx⟩
      rw [sw_ind, co_at h1] at this
      exact this) with h | h
    · exact h0 h
    · exact h2 h⟩
theorem len_up {B v m L n : Nat} {ts : List (List Rat)} {A : (Nat → Rat) → Rat → Rat} (h : Rws B v m L ts) (ho : OT ts) (hA : ∀ w x, sw ts w x = A w x) (hn : ∀ i x, n ≤ i → A (ind i) x = 0) : ts.length ≤ n := by
  refine Nat.le_of_not_lt fun hlt => ?_
  obtain ⟨x, hx⟩ := (lna_of h ho).lo (ts.length - 1) (by omega)
  rw [hA, hn _ _ (by omega)] at hx
  exact hx rfl
end
end EV

/-! EvZ35: quotient; the next value of a sequence; values. -/
namespace EV
open PySem
def pQuot (r : Nat) : Fn := ⟨2, 2,
  (.cons (.ret (.call r (.cons (.op2 false .mul (.op2 false .ix (.var 0) (.lit (.int 0))) (.op2 false .ix (.var 1) (.lit (.int 1)))) (.cons (.op2 false .mul (.op2 false .ix (.var 0) (.lit (.int 1))) (.op2 false .ix (.var 1) (.lit (.int 0)))) .nil))))
  .nil)⟩
section
variable {G : List PyData} {wf : Nat} {M : Mem} {fs : List Fn} {B v w m l : Nat} {p q : Rat}
theorem quot_enc {i r k : Nat} (h : fs[i]? = some (pQuot r)) (hr : fs[r]? = some pRatio) (hB : 0 < B) (h2 : B ≤ 256) (hp : Qb B v m p) (hq : Qb B w l q) (h0 : q ≠ 0) (hN : 8 * m + 1 + (w + 8 * l) < 9000) (hv : v + w + 8 * m + 8 * l + 2 < 100000000) :
    callF fs G wf (k + 2) i [.d (enc p), .d (enc q)] M = some (.d (enc (p / q)), M) := by
  have hpd := p.den_nz
  have hqd := q.den_nz
  have sp := hp.sd hB h2
  have sq := hq.sd hB h2
  have m1 := (hp.sn hB h2).ok sq (by omega)
  have m2 := sp.ok (hq.sn hB h2) (by omega)
  have hn0 : q.num ≠ 0 := fun h => h0 (Rat.num_eq_zero.mp h)
  have hb : (p.den : Int) * q.num ≠ 0 := Int.mul_ne_zero (by omega) hn0
  have e := pratio_eq (fs := fs) (G := G) (wf := wf) (M := M) (k := k) (i := r) hr (a := p.num * q.den) hb (sp.mul (hq.sn hB h2)) hN
  have e2 : Rat.divInt (p.num * q.den) (p.den * q.num) = p / q := by
    rw [Rat.divInt_eq_div, Rat.intCast_mul, Rat.intCast_mul]
    have h1 := den_num p
    have h2 := den_num q
    have d1 : (p.den : Rat) ≠ 0 := fun h => p.den_nz (by have := Rat.natCast_inj.mp (show ((p.den : Nat) : Rat) = ((0 : Nat) : Rat) from h); exact this)
    have d2 : (q.num : Rat) ≠ 0 := fun h => hn0 (Rat.intCast_inj.mp (show ((q.num : Int) : Rat) = ((0 : Int) : Rat) from h))
    have hBq : (((p.den : Nat) : Int) : Rat) * ((q.num : Int) : Rat) ≠ 0 := fun h => by
      rcases Rat.mul_eq_zero.mp h with h | h
      · exact d1 h
      · exact d2 h
    have hi := Rat.mul_inv_cancel _ hBq
    have hq1 := Rat.mul_inv_cancel q h0
    rw [Rat.div_def, Rat.div_def]
    have e3 : ((p.num : Int) : Rat) * (((q.den : Nat) : Int) : Rat) = p * q⁻¹ * ((((p.den : Nat) : Int) : Rat) * ((q.num : Int) : Rat)) := by
      have g1 : ((p.num : Int) : Rat) = (((p.den : Nat) : Int) : Rat) * p := h1.symm
      have g2 : ((q.num : Int) : Rat) = (((q.den : Nat) : Int) : Rat) * q := h2.symm
      rw [g1, g2]
      generalize (((p.den : Nat) : Int) : Rat) = a at *
      generalize (((q.den : Nat) : Int) : Rat) = b at *
      generalize q⁻¹ = c at *
      have : p * c * (a * (b * q)) = (q * c) * (a * p * b) := by grind
      rw [this, hq1]
      grind
    rw [e3]
    generalize ((((p.den : Nat) : Int) : Rat) * ((q.num : Int) : Rat)) = x at *
    generalize x⁻¹ = y at *
    have : p * q⁻¹ * x * y = p * q⁻¹ * (x * y) := by grind
    rw [this, hi]
    grind
  rw [rat_enc hb, e2] at e
  refine ret_d h rfl (x_stop (x_ret (x_callE (ws := [.d (.int (p.num * q.den)), .d (.int (p.den * q.num))]) (M1 := M) ?_ e)))
  simp [evalE, evalEs, evalB, evalIt, evalS, evalSs, evalTg, allB, allI, deref_d, deref_m, derefR_d, derefR_m, derefR_r, db_len, db_abs, db_int, db_all, db_any, db_sum, db_tuple, db_list, db_max, db_min, db_gcd, db_isi, derefs_nil, derefs_cons, plain_nil, plain_d, give_f, give_t, p_add, p_addT, p_addL, p_sub, p_mul, p_fdiv, p_mod, p_pow, p_lt, p_le, p_gt, p_ge, p_ixL, p_ixT, at_0, at_1, at_2, at_n, p_eqI, p_neI, s_nn, s_bb, s_in, s_bn, s_tn, s_ln, s_sn, s_nb, s_ib, s_tb, s_lb, s_sb, p_is, p_isn, q_lenL, q_lenT, q_abs, q_int, q_intb, q_all, q_any, q_sum, q_tupL, q_tupT, q_lstL, q_lstT, q_max, q_min, q_gcd, q_isi, t_tt, t_tl, t_ti, t_tb, t_tn, t_ts, t_it, t_il, t_ii, t_ib, t_in, t_is, t_bt, t_bl, t_bi, t_bb, t_bn, t_bs, t_st, t_sl, t_si, t_sb, t_sn, t_ss, r_none, r_bool, r_int, r_list, r_tup, f_d, st_m, pl_n, pl_0, pl_1, m_app, m_pop, tof_s, bt_v, sw_c, sw_n, ag_a, enc, m1, m2]
end
def nvB (p o vl : Nat) : Ss := .cons (.ife (.op2 false .ix (.var 0) (.var 5)) (.cons (.asg 4 (.call p (.cons (.var 4) (.cons (.call o (.cons (.call vl (.cons (.op2 false .ix (.var 0) (.var 5)) (.cons (.tup (.cons (.var 3) (.cons (.lit (.int 1)) .nil))) .nil))) (.cons (.op2 false .ix (.var 1) (.op2 false .add (.var 3) (.var 5))) .nil))) .nil)))) .nil) .nil) .nil
def pNext (z p o vl mi qu : Nat) : Fn := ⟨2, 6,
  (.cons (.asg 2 (.op2 false .sub (.blt false .len (.cons (.var 0) .nil)) (.lit (.int 1))))
  (.cons (.asg 3 (.op2 false .sub (.blt false .len (.cons (.var 1) .nil)) (.var 2)))
  (.cons (.asg 4 (.glb z))
  (.cons (.fr (.v 5) (.rng (.cons (.var 2) .nil)) (nvB p o vl))
  (.cons (.ret (.call qu (.cons (.call mi (.cons (.glb z) (.cons (.var 4) .nil))) (.cons (.call vl (.cons (.op2 false .ix (.var 0) (.var 2)) (.cons (.tup (.cons (.var 3) (.cons (.lit (.int 1)) .nil))) .nil))) .nil))))
  .nil)))))⟩
def vsB (nv : Nat) : Ss := .cons (.expr (.meth .append (.var 2) (.cons (.call nv (.cons (.op2 false .ix (.var 0) (.lit (.int 1))) (.cons (.var 2) .nil))) .nil))) .nil
def pValues (nv : Nat) : Fn := ⟨2, 3,
  (.cons (.asg 2 (.blt true .list (.cons (.slc false false true (.op2 false .ix (.var 0) (.lit (.int 2))) (.lit .none) (.var 1)) .nil)))
  (.cons (.whl (.op2 false .lt (.blt false .len (.cons (.var 2) .nil)) (.var 1)) (vsB nv))
  (.cons (.ret (.blt false .tuple (.cons (.var 2) .nil)))
  .nil)))⟩
/-- the next value of vs by as -/
abbrev nxt (as : List (List Rat)) (r : Nat) (V : Nat → Rat) (n : Nat) : Rat := (0 - sumN (fun i => ev (co as i) (n : Rat) * V (n + i)) r) / ev (co as r) (n : Rat)
section
variable {G : List PyData} {wf : Nat} {M : Mem} {fs : List Fn} {i k z p o vl mi qu r N B v m L w l b n R nv : Nat} {as : List (List Rat)} {V : Nat → Rat}
theorem e_lenM {cf : Nat → List W → Mem → Option (W × Mem)} {ρ : Loc} {e : E} {c : Nat} {xs : List PyData} (h : evalE cf G wf e ρ M = some (.m c, M)) (hM : M[c]? = some (.lst xs)) : evalE cf G wf (.blt false .len (.cons e .nil)) ρ M = some (.d (.int (xs.length : Nat)), M) := by
  rw [evalE, es_cons h es_nil]
  simp only [db_len, derefR_m, deref_m, hM, Option.map_some, q_lenL, give_f]
/-- sequences' values as a list -/
abbrev vl' (V : Nat → Rat) (n : Nat) : List Rat := (List.range n).map V
theorem vl_at {V : Nat → Rat} {n i : Nat} (h : i < n) : (vl' V n)[i]? = some (V i) := by rw [List.getElem?_map, List.getElem?_range h]; rfl
theorem vl_len (V : Nat → Rat) (n : Nat) : (vl' V n).length = n := by rw [List.length_map, List.length_range]
theorem vl_succ (V : Nat → Rat) (n : Nat) : vl' V (n + 1) = vl' V n ++ [V n] := by
  unfold vl'
  rw [List.range_succ, List.map_append]
  rfl
theorem next_eq {c : Nat} [FA fs i (pNext z p o vl mi qu)] [FA fs qu (pQuot r)] [FA fs r pRatio] [FA fs mi (pMinus r)] [FA fs vl (pValE (.glb z) p o)] [FA fs p (pPlus r)] [FA fs o (pProd r)] [GA G z (pr 0 1)] [MK fs G wf r N]
    (ha : Rws B v m L as) (hl : as.length = R + 1) (hM : M[c]? = some (.lst (encs (vl' V (n + R))))) (hV : ∀ j, j < n + R → Qb B w l (V j)) (hn : n < 2 ^ b) (hR : R ≤ 1000) (h0 : ev (co as R) (n : Rat) ≠ 0) (hB : 0 < B) (hB2 : B ≤ 256) (hN : 16 * (m + l) + 2 ≤ N) (hN2 : 8 * (m + l) + 1 + (v + L * (b + 1) + 8 * m) < 9000) (hVV : 2 * (mkV v L b w + R + L * (b + 1) + 2 * (b + 1) + v) + 16 * (m + l) + 2 < 100000000) :
    callF fs G wf (k + 9) i [.d (encO as), .m c] M = some (.d (enc (nxt as R V n)), M) := by
  have hmk : mkV v L b w = v + L * (b + 1) + w := rfl
  let st : Option W → Option W → Loc := fun x4 x5 => [some (.d (encO as)), some (.m c), some (.d (.int (R : Nat))), some (.d (.int (n : Nat))), x4, x5]
  have a1 : evalE (callF fs G wf (k + 8)) G wf (.op2 false .sub (.blt false .len (.cons (.var 0) .nil)) (.lit (.int 1))) [some (.d (encO as)), some (.m c), none, none, none, none] M = some (.d (.int (R : Nat)), M) := by
    have := x_opG (e_lenO (cf := callF fs G wf (k + 8)) (G := G) (wf := wf) (ρ := [some (.d (encO as)), some (.m c), none, none, none, none]) (M := M) (M1 := M) (e1 := .var 0) (ts := as) (e_var rfl)) (b := .lit (.int 1)) (M2 := M) e_lit p_sub (by decide)
    rw [show ((as.length : Nat) : Int) - 1 = (R : Int) by omega] at this
    exact this
  have a2 : evalE (callF fs G wf (k + 8)) G wf (.op2 false .sub (.blt false .len (.cons (.var 1) .nil)) (.var 2)) [some (.d (encO as)), some (.m c), some (.d (.int (R : Nat))), none, none, none] M = some (.d (.int (n : Nat)), M) := by
    have := x_opG (e_lenM (cf := callF fs G wf (k + 8)) (G := G) (wf := wf) (ρ := [some (.d (encO as)), some (.m c), some (.d (.int (R : Nat))), none, none, none]) (M := M) (e := .var 1) (e_var rfl) hM) (b := .var 2) (y := .int (R : Nat)) (M2 := M) (e_var rfl) p_sub (by decide)
    rw [List.length_map, vl_len, show ((n + R : Nat) : Int) - (R : Int) = (n : Int) by omega] at this
    exact this
  have hs : sm b (n : Int) := by show (n : Int).natAbs < _; omega
  obtain ⟨ρ', M', e, q, x5, rfl, hM', hq, hq2⟩ := forL_for (f := turnG (callF fs G wf (k + 8)) G wf (.v 5) (nvB p o vl)) (xs := irng 0 1 R) (fun j ρ M' => ∃ (q : Rat) (x5 : Option W), ρ = st (some (.d (enc q))) x5 ∧ M' = M ∧ Qb B (mkV v L b w + j) (m + l) q ∧ q = sumN (fun i => ev (co as i) (n : Rat) * V (n + i)) j)
    (fun ρ M' => ∃ (q : Rat) (x5 : Option W), ρ = st (some (.d (enc q))) x5 ∧ M' = M ∧ Qb B (mkV v L b w + R) (m + l) q ∧ q = sumN (fun i => ev (co as i) (n : Rat) * V (n + i)) R) (fun j x ρ M' hx hI => by
      obtain ⟨rfl, hj⟩ := irng_at hx
      obtain ⟨q, x5, rfl, rfl, hq, hq2⟩ := hI
      rw [x_turn]
      have ht := co_rw ha j
      let ρ1 : Loc := st (some (.d (enc q))) (some (.d (.int (j : Nat))))
      show ∃ ρ' M'', (evalSs (callF fs G wf (k + 8)) G wf (nvB p o vl) ρ1 M' = some (.nx ρ' M'') ∧ _) ∨ _
      have e05 := x_ixO (cf := callF fs G wf (k + 8)) (G := G) (wf := wf) (ρ := ρ1) (M := M') (M1 := M') (M2 := M') (ts := as) (e1 := .var 0) (e2 := .var 5) (j := j) (e_var rfl) (e_var rfl) (by omega)
      have hte : testOf (evalE (callF fs G wf (k + 8)) G wf (.op2 false .ix (.var 0) (.var 5)) ρ1 M') = some (!(encs (co as j)).isEmpty, M') := t_tup e05
      cases h0 : (encs (co as j)).isEmpty with
      | true =>
        rw [h0] at hte
        have h1 : co as j = [] := by
          cases hc : co as j with
          | nil => rfl
          | cons _ _ => rw [hc] at h0; cases h0
        refine ⟨ρ1, M', .inl ⟨x_cons (x_ifF hte) (by rw [evalSs]), q, some (.d (.int (j : Nat))), rfl, rfl, hq.mono (by omega) (Nat.le_refl _), ?_⟩⟩
        show q = sumN _ j + ev (co as j) (n : Rat) * V (n + j)
        rw [h1, ev_nil, hq2]
        grind
      | false =>
        rw [h0] at hte
        have p5 : PE fs G wf k ρ1 M' B (.op2 false .ix (.var 0) (.var 5)) v m L (ev (co as j)) := pe_list e05 ht.tr ht.qb ht.ln
        have q1 := qe_val (i := vl) (p := p) (o := o) (r := r) (N := N) _ (fun k ρ => e_glb GA.h) p5 (qe_int (B := B) (ie_var (ρ := ρ1) (i := 3) (a := (n : Int)) rfl hs)) (hB := hB) (hB2 := hB2) (hN := by omega) (hv := by
          have h3 : (L + 2) * (b + 1) = L * (b + 1) + 2 * (b + 1) := Nat.add_mul _ _ _
          rw [h3]
          omega)
        have i24 : evalE (callF fs G wf (k + 8)) G wf (.op2 false .add (.var 3) (.var 5)) ρ1 M' = some (.d (.int ((n + j : Nat) : Int)), M') := x_opG (x := .int (n : Nat)) (y := .int (j : Nat)) (M1 := M') (e_var rfl) (e_var rfl) p_add (by decide)
        have v1 : evalE (callF fs G wf (k + 8)) G wf (.var 1) ρ1 M' = some (.m c, M') := e_var rfl
        have q2 : QE fs G wf k ρ1 M' B (.op2 false .ix (.var 1) (.op2 false .add (.var 3) (.var 5))) w l (V (n + j)) := ⟨x_ixMG v1 i24 hM (by rw [at_n, List.getElem?_map, vl_at (by omega)]; rfl), hV _ (by omega)⟩
        have q3 := (qe_prod (i := o) (r := r) (N := N) q1 q2 (hB := hB) (hB2 := hB2) (hN := by omega) (hv := by omega)).mono (w := mkV v L b w + j) (l := m + l) (h1 := by omega) (h2 := by omega)
        have q4 : QE fs G wf k ρ1 M' B (.var 4) (mkV v L b w + j) (m + l) q := qe_var rfl hq
        have q5 := qe_plus (i := p) (r := r) (N := N) q4 q3 (hB := hB) (hB2 := hB2) (hN := hN) (hv := by omega)
        refine ⟨_, M', .inl ⟨x_cons (x_ifT hte (x_cons (x_asg q5.1) (by rw [evalSs]; try rfl))) (by rw [evalSs]; try rfl), _, some (.d (.int (j : Nat))), rfl, rfl, q5.2, ?_⟩⟩
        show q + ev (co as j) (n : Rat) * V (n + j) = sumN _ j + ev (co as j) (n : Rat) * V (n + j)
        rw [hq2]) (fun ρ M' hI => by
      rw [irng_length] at hI
      exact hI) (ρ := st (some (.d (enc 0))) none) (M := M) ⟨0, none, rfl, rfl, qb_zero, rfl⟩
  rw [hM'] at e
  let ρ9 : Loc := st (some (.d (enc q))) x5
  have qz : QE fs G wf k ρ9 M B (.glb z) (mkV v L b w + R) (m + l) 0 := ⟨e_glb GA.h, qb_zero⟩
  have q9 : QE fs G wf k ρ9 M B (.var 4) (mkV v L b w + R) (m + l) q := qe_var rfl hq
  have mi1 := minus_enc (fs := fs) (G := G) (wf := wf) (M := M) (i := mi) (k := k + 7) (N := N) FA.h (MK.h (k + 5)) hB hB2 qz.2 q9.2 (by omega) (by omega)
  have e1 : evalE (callF fs G wf (k + 8)) G wf (.call mi (.cons (.glb z) (.cons (.var 4) .nil))) ρ9 M = some (.d (enc (0 - q)), M) := x_callE (args2 qz.1 q9.1) mi1
  have qm : Qb B (mkV v L b w + R + 1) (m + l) (0 - q) := qz.2.sub hB q9.2
  have htR := co_rw ha R
  have e0R := x_ixO (cf := callF fs G wf (k + 8)) (G := G) (wf := wf) (ρ := ρ9) (M := M) (M1 := M) (M2 := M) (ts := as) (e1 := .var 0) (e2 := .var 2) (j := R) (e_var rfl) (e_var rfl) (by omega)
  have pR : PE fs G wf k ρ9 M B (.op2 false .ix (.var 0) (.var 2)) v m L (ev (co as R)) := pe_list e0R htR.tr htR.qb htR.ln
  have qR := qe_val (i := vl) (p := p) (o := o) (r := r) (N := N) _ (fun k ρ => e_glb GA.h) pR (qe_int (B := B) (ie_var (ρ := ρ9) (i := 3) (a := (n : Int)) rfl hs)) (hB := hB) (hB2 := hB2) (hN := by omega) (hv := by
    have h3 : (L + 2) * (b + 1) = L * (b + 1) + 2 * (b + 1) := Nat.add_mul _ _ _
    rw [h3]
    omega)
  have hd := quot_enc (fs := fs) (G := G) (wf := wf) (M := M) (i := qu) (k := k + 6) FA.h FA.h hB hB2 qm qR.2 h0 (by omega) (by omega)
  have g0 : evalE (callF fs G wf (k + 8)) G wf (.glb z) [some (.d (encO as)), some (.m c), some (.d (.int (R : Nat))), some (.d (.int (n : Nat))), none, none] M = some (.d (enc 0), M) := e_glb GA.h
  have := ret_d (fs := fs) (G := G) (wf := wf) (k := k + 8) (i := i) (ws := [.d (encO as), .m c]) (M := M) (x := enc ((0 - q) / ev (co as R) ((n : Int) : Rat))) (FA.h (fs := fs) (i := i) (fn := pNext z p o vl mi qu)) rfl (x_cons (x_asg a1) (x_cons (x_asg a2) (x_cons (x_asg g0) (x_cons (x_for (x_rngE (n := R) (e_var rfl) (by omega)) e) (x_stop (x_ret (x_callE (args2 e1 qR.1) hd)))))))
  rw [this, hq2]
  rfl
end
end EV

/-! EvZ36: values of sequences; rows of places where they are nought. -/
namespace EV
open PySem
section
variable {G : List PyData} {wf : Nat} {M : Mem} {fs : List Fn} {i k z p o vl mi qu r N B v m L w l b R nv K T : Nat} {as : List (List Rat)} {V : Nat → Rat}
theorem while_up {cf : Nat → List W → Mem → Option (W × Mem)} {C : E} {bo : Ss} {ρ : Loc} {S : Nat → Mem} {T : Nat} (ht : ∀ j, testOf (evalE cf G wf C ρ (S j)) = some (decide (j < T), S j)) (hb : ∀ j, K ≤ j → j < T → evalSs cf G wf bo ρ (S j) = some (.nx ρ (S (j + 1)))) : ∀ (n j : Nat), K ≤ j → j ≤ T → T - j < n →
    whileL (fun ρ M => testOf (evalE cf G wf C ρ M)) (fun ρ M => evalSs cf G wf bo ρ M) n ρ (S j) = some (.nx ρ (S T))
  | 0, j, _, _, h => by omega
  | n + 1, j, h1, h2, h3 => by
    unfold whileL
    rw [ht]
    by_cases h : j < T
    · rw [decide_eq_true h]
      dsimp only
      rw [hb j h1 h]
      exact while_up ht hb n (j + 1) (by omega) (by omega) (by omega)
    · rw [decide_eq_false h, show j = T by omega]
theorem values_eq {d0 : PyData} [FA fs i (pValues nv)] [FA fs nv (pNext z p o vl mi qu)] [FA fs qu (pQuot r)] [FA fs r pRatio] [FA fs mi (pMinus r)] [FA fs vl (pValE (.glb z) p o)] [FA fs p (pPlus r)] [FA fs o (pProd r)] [GA G z (pr 0 1)] [MK fs G wf r N] [WF wf]
    (ha : Rws B v m L as) (hl : as.length = R + 1) (hK : R ≤ K) (hT : K ≤ T) (hT2 : T ≤ 2 ^ b) (hT3 : T ≤ 100000) (hV : ∀ j, j < T → Qb B w l (V j)) (hR : R ≤ 1000) (h0 : ∀ n, n + R < T → ev (co as R) (n : Rat) ≠ 0) (hrec : ∀ n, K ≤ n + R → n + R < T → V (n + R) = nxt as R V n)
    (hB : 0 < B) (hB2 : B ≤ 256) (hN : 16 * (m + l) + 2 ≤ N) (hN2 : 8 * (m + l) + 1 + (v + L * (b + 1) + 8 * m) < 9000) (hVV : 2 * (mkV v L b w + R + L * (b + 1) + 2 * (b + 1) + v) + 16 * (m + l) + 2 < 100000000) :
    callF fs G wf (k + 10) i [.d (.tuple [d0, encO as, encP (vl' V K)]), .d (.int (T : Nat))] M = some (.d (encP (vl' V T)), M) := by
  have hz := EV.sizeLine_eq
  have hW : 1000000 ≤ wf := WF.h
  let sq : PyData := .tuple [d0, encO as, encP (vl' V K)]
  let ρ0 : Loc := [some (.d sq), some (.d (.int (T : Nat))), none]
  let ρ1 : Loc := [some (.d sq), some (.d (.int (T : Nat))), some (.m M.length)]
  have x2 : evalE (callF fs G wf (k + 9)) G wf (.op2 false .ix (.var 0) (.lit (.int 2))) ρ0 M = some (.d (encP (vl' V K)), M) := x_ixG (e_var rfl) e_lit rfl
  have x3 : evalE (callF fs G wf (k + 9)) G wf (.slc false false true (.op2 false .ix (.var 0) (.lit (.int 2))) (.lit .none) (.var 1)) ρ0 M = some (.d (encP (vl' V K)), M) := by
    have := x_take (n := T) x2 (hi := .var 1) (M2 := M) (e_var rfl)
    rw [List.take_of_length_le (by rw [List.length_map, vl_len]; exact hT)] at this
    exact this
  have x4 : evalE (callF fs G wf (k + 9)) G wf (.blt true .list (.cons (.slc false false true (.op2 false .ix (.var 0) (.lit (.int 2))) (.lit .none) (.var 1)) .nil)) ρ0 M = some (.m M.length, mM M (vl' V K)) := by
    rw [evalE, es_cons x3 es_nil]
    simp only [db_list, derefs_cons, derefs_nil, deref_d, q_lstT, give_t]
  have htop : ∀ j, (mM M (vl' V j))[M.length]? = some (.lst (encs (vl' V j))) := fun j => top_get
  have wl : evalS (callF fs G wf (k + 9)) G wf (.whl (.op2 false .lt (.blt false .len (.cons (.var 2) .nil)) (.var 1)) (vsB nv)) ρ1 (mM M (vl' V K)) = some (.nx ρ1 (mM M (vl' V T))) := by
    rw [evalS]
    refine while_up (S := fun j => mM M (vl' V j)) (K := K) (T := T) (fun j => ?_) (fun j h1 h2 => ?_) wf K (Nat.le_refl _) hT (by omega)
    · have := x_opG (e_lenM (cf := callF fs G wf (k + 9)) (G := G) (wf := wf) (ρ := ρ1) (M := mM M (vl' V j)) (e := .var 2) (e_var rfl) (htop j)) (b := .var 1) (y := .int (T : Nat)) (M2 := mM M (vl' V j)) (e_var rfl) p_lt (by decide)
      rw [List.length_map, vl_len] at this
      rw [t_bool this]
      congr 2
      exact decide_eq_decide.mpr (by omega)
    · obtain ⟨n, hn⟩ : ∃ n, j = n + R := ⟨j - R, by omega⟩
      subst hn
      have e1 : evalE (callF fs G wf (k + 9)) G wf (.op2 false .ix (.var 0) (.lit (.int 1))) ρ1 (mM M (vl' V (n + R))) = some (.d (encO as), mM M (vl' V (n + R))) := x_ixG (e_var rfl) e_lit rfl
      have e2 := next_eq (fs := fs) (G := G) (wf := wf) (M := mM M (vl' V (n + R))) (k := k) (i := nv) (b := b) (c := M.length) ha hl (htop _) (fun j hj => hV j (by omega)) (by omega) hR (h0 n h2) hB hB2 hN hN2 hVV
      rw [← hrec n h1 h2] at e2
      have v2 : evalE (callF fs G wf (k + 9)) G wf (.var 2) ρ1 (mM M (vl' V (n + R))) = some (.m M.length, mM M (vl' V (n + R))) := e_var rfl
      have st := x_app (cf := callF fs G wf (k + 9)) (G := G) (wf := wf) (ρ := ρ1) (a := .var 2) v2 (htop _) (x_callE (es_cons e1 (es_cons v2 es_nil)) e2) (by rw [hz, List.length_map, vl_len]; omega)
      have hset : (mM M (vl' V (n + R))).set M.length (.lst (encs (vl' V (n + R)) ++ [enc (V (n + R))])) = mM M (vl' V (n + R + 1)) := by
        rw [show mM M (vl' V (n + R)) = M ++ [.lst (encs (vl' V (n + R)))] from rfl, top_set, vl_succ]
        show _ = M ++ [.lst (encs (vl' V (n + R) ++ [V (n + R)]))]
        rw [show encs (vl' V (n + R) ++ [V (n + R)]) = encs (vl' V (n + R)) ++ [enc (V (n + R))] from List.map_append]
      rw [hset] at st
      exact x_cons st (by rw [evalSs])
  have fin := x_fin (fs := fs) (G := G) (wf := wf) (k := k + 9) (i := i) (ws := [.d sq, .d (.int (T : Nat))]) (M := M) (x := encP (vl' V T)) (M1 := mM M (vl' V T)) (FA.h (fs := fs) (i := i) (fn := pValues nv)) rfl
    (x_cons (x_asg x4) (x_cons wl (x_stop (x_ret (x_tupM (e_var rfl) (htop T))))))
  rw [show (mM M (vl' V T)).take M.length = M from top_take] at fin
  exact fin
end
/-! ### rows of places -/
def known (t : List (Nat × Nat)) (s j : Nat) : Bool := t.any fun q => decide (s % q.1 = 0) && decide (j % q.1 = q.2)
def stp (Z : Nat → Nat → Bool) (s j : Nat) (t : List (Nat × Nat)) : List (Nat × Nat) := if !known t s j && Z s j then t ++ [(s, j)] else t
def inn (Z : Nat → Nat → Bool) (s : Nat) : Nat → List (Nat × Nat) → List (Nat × Nat)
  | 0, t => t
  | j + 1, t => stp Z s j (inn Z s j t)
def out (Z : Nat → Nat → Bool) : Nat → List (Nat × Nat)
  | 0 => []
  | s + 1 => inn Z (s + 1) (s + 1) (out Z s)
abbrev enpr (q : Nat × Nat) : PyData := .tuple [.int (q.1 : Nat), .int (q.2 : Nat)]
abbrev enprs (t : List (Nat × Nat)) : List PyData := t.map enpr
theorem inn_congr {Z Z2 : Nat → Nat → Bool} {s : Nat} : ∀ (j : Nat) (t : List (Nat × Nat)), (∀ i, i < j → Z s i = Z2 s i) → inn Z s j t = inn Z2 s j t
  | 0, t, _ => rfl
  | j + 1, t, h => by
    show stp Z s j (inn Z s j t) = stp Z2 s j (inn Z2 s j t)
    rw [inn_congr j t fun i hi => h i (by omega)]
    unfold stp
    rw [h j (by omega)]
theorem out_congr {Z Z2 : Nat → Nat → Bool} : ∀ (n : Nat), (∀ s j, 1 ≤ s → s ≤ n → j < s → Z s j = Z2 s j) → out Z n = out Z2 n
  | 0, _ => rfl
  | n + 1, h => by
    show inn Z (n + 1) (n + 1) (out Z n) = inn Z2 (n + 1) (n + 1) (out Z2 n)
    rw [out_congr n fun s j h1 h2 h3 => h s j h1 (by omega) h3]
    exact inn_congr (n + 1) _ fun i hi => h (n + 1) i (by omega) (by omega) hi
/-- what is told: steps above nought, places below them, few -/
structure Ok (n : Nat) (t : List (Nat × Nat)) : Prop where
  pos : ∀ q ∈ t, 1 ≤ q.1
  len : t.length ≤ n
theorem stp_ok {Z : Nat → Nat → Bool} {s j n : Nat} {t : List (Nat × Nat)} (hs : 1 ≤ s) (h : Ok n t) : Ok (n + 1) (stp Z s j t) := by
  unfold stp
  split
  · exact ⟨fun q hq => by
      rcases List.mem_append.mp hq with hq | hq
      · exact h.pos q hq
      · rw [List.mem_singleton] at hq
        subst hq
        exact hs, by rw [List.length_append]; have := h.len; show _ + 1 ≤ _; omega⟩
  · exact ⟨h.pos, by have := h.len; omega⟩
theorem inn_ok {Z : Nat → Nat → Bool} {s n : Nat} {t : List (Nat × Nat)} (hs : 1 ≤ s) (h : Ok n t) : ∀ j, Ok (n + j) (inn Z s j t)
  | 0 => h
  | j + 1 => stp_ok hs (inn_ok hs h j)
theorem out_ok {Z : Nat → Nat → Bool} : ∀ s, Ok (s * 13) (out Z s) ∨ 12 < s
  | 0 => .inl ⟨fun q h => (by cases h), Nat.le_refl _⟩
  | s + 1 => by
    by_cases h : 12 < s + 1
    · exact .inr h
    · left
      rcases out_ok s with h1 | h1
      · have := inn_ok (Z := Z) (s := s + 1) (by omega) h1 (s + 1)
        exact ⟨this.pos, by
          have h2 := this.len
          show (inn Z (s + 1) (s + 1) (out Z s)).length ≤ _
          omega⟩
      · omega
theorem x_compC {cf : Nat → List W → Mem → Option (W × Mem)} {G : List PyData} {wf : Nat} {mu : Bool} {own : List Nat} {tg : T} {it : It} {c elt : E} {ρ : Loc} {M M1 M2 : Mem} {i : Nat} {ys : List PyData} {r : Option (W × Mem)} (hi : evalIt cf G wf it ρ M = some (.cur i, M1)) (h : compC (tc cf G wf own tg c elt ρ) i wf 0 [] M1 = some (ys, M2)) (hg : give mu (.list ys) M2 = r) :
    evalE cf G wf (.comp mu own tg it c elt) ρ M = r := by
  rw [evalE, hi]
  show (match compC (tc cf G wf own tg c elt ρ) i wf 0 [] M1 with
    | some (ys, M2) => give mu (.list ys) M2
    | none => none) = r
  rw [h]
  exact hg
theorem compC_flat {f : PyData → List PyData → Mem → Option (List PyData × Mem)} {M : Mem} {i : Nat} {t : List (Nat × Nat)} {g : Nat × Nat → List PyData} (hM : M[i]? = some (.lst (enprs t))) (hf : ∀ q ∈ t, ∀ acc : List PyData, acc.length < 1000 → f (enpr q) acc M = some (acc ++ g q, M)) (h1 : ∀ q, (g q).length ≤ 1) : ∀ (n k : Nat) (acc : List PyData), acc.length + (t.length - k) ≤ 1000 → t.length - k < n → compC f i n k acc M = some (acc ++ (t.drop k).flatMap g, M)
  | 0, k, acc, _, h => by omega
  | n + 1, k, acc, hl, h => by
    unfold compC
    rw [hM]
    dsimp only
    rw [List.getElem?_map]
    cases hk : t[k]? with
    | none =>
      rw [List.drop_eq_nil_of_le (List.getElem?_eq_none_iff.mp hk)]
      simp
    | some q =>
      have hlt := (List.getElem?_eq_some_iff.mp hk).1
      rw [List.drop_eq_getElem_cons hlt, (List.getElem?_eq_some_iff.mp hk).2]
      show (match f (enpr q) acc M with
        | some (acc', M') => compC f i n (k + 1) acc' M'
        | none => none) = _
      rw [hf q (List.mem_of_getElem? hk) acc (by omega)]
      dsimp only
      have hg := h1 q
      rw [compC_flat hM hf h1 n (k + 1) _ (by rw [List.length_append]; omega) (by omega)]
      simp
/-- a comprehension over a list of pairs, that keeps the memory: what it makes, member by member -/
theorem comp_pairs {cf : Nat → List W → Mem → Option (W × Mem)} {G : List PyData} {wf : Nat} {M : Mem} {ρ : Loc} {own : List Nat} {tg : T} {c elt e : E} {n : Nat} {t : List (Nat × Nat)} {g : Nat × Nat → List PyData} [WF wf] (he : evalE cf G wf e ρ M = some (.m n, M)) (hM : M[n]? = some (.lst (enprs t))) (hl : t.length < 1000) (hg : ∀ q ∈ t, ∀ acc : List PyData, acc.length < 1000 → tc cf G wf own tg c elt ρ (enpr q) acc M = some (acc ++ g q, M)) (h1 : ∀ q, (g q).length ≤ 1) :
    evalE cf G wf (.comp false own tg (.seq e) c elt) ρ M = some (.d (.list (t.flatMap g)), M) := by
  have hW : 1000000 ≤ wf := WF.h
  have hi : evalIt cf G wf (.seq e) ρ M = some (.cur n, M) := by
    rw [evalIt, he]
    dsimp only
    rw [hM]
  refine x_compC hi ?_ rfl
  rw [compC_flat hM hg h1 wf 0 [] (by show 0 + _ ≤ _; omega) (by omega), List.drop_zero]
  rfl
end EV

/-! EvZ37: nought_rows. -/
namespace EV
open PySem
theorem fmod_nat (a b : Nat) : Int.fmod (a : Int) (b : Int) = ((a % b : Nat) : Int) := by
  rw [Int.fmod_eq_emod_of_nonneg _ (Int.natCast_nonneg b), Int.natCast_emod]
theorem allB_mapG {α : Type} (p : α → Bool) : ∀ xs : List α, allB (xs.map fun x => PyData.bool (p x)) = some (xs.map p)
  | [] => rfl
  | x :: xs => by
    show (allB (xs.map fun x => PyData.bool (p x))).map (p x :: ·) = _
    rw [allB_mapG p xs]; rfl
theorem flat_one {α β : Type} (h : α → β) : ∀ t : List α, t.flatMap (fun q => [h q]) = t.map h
  | [] => rfl
  | q :: t => by
    show [h q] ++ t.flatMap (fun q => [h q]) = h q :: t.map h
    rw [flat_one h t]
    rfl
abbrev mN (M : Mem) (t : List (Nat × Nat)) : Mem := M ++ [.lst (enprs t)]
section
variable {cf : Nat → List W → Mem → Option (W × Mem)} {G : List PyData} {wf : Nat} {ρ : Loc} {M M1 M2 : Mem} {a b e : E} {m n : Nat}
theorem e_modN (h1 : evalE cf G wf a ρ M = some (.d (.int (m : Nat)), M1)) (h2 : evalE cf G wf b ρ M1 = some (.d (.int (n : Nat)), M2)) (hn : 1 ≤ n) : evalE cf G wf (.op2 false .mod a b) ρ M = some (.d (.int ((m % n : Nat) : Int)), M2) := by
  refine x_opG h1 h2 ?_ (by decide)
  rw [p_mod, if_pos (by omega), fmod_nat]
theorem e_eqN (h1 : evalE cf G wf a ρ M = some (.d (.int (m : Nat)), M1)) (h2 : evalE cf G wf b ρ M1 = some (.d (.int (n : Nat)), M2)) : evalE cf G wf (.op2 false .eq a b) ρ M = some (.d (.bool (decide (m = n))), M2) := by
  have := x_opG h1 h2 p_eqI (p := .eq) (by decide)
  rw [this]
  congr 3
  have : ((m : Int) = (n : Int)) ↔ m = n := by omega
  exact congrArg PyData.bool (decide_eq_decide.mpr this)
theorem e_and2 {u v : Bool} (h1 : evalE cf G wf a ρ M = some (.d (.bool u), M)) (h2 : evalE cf G wf b ρ M = some (.d (.bool v), M)) : evalE cf G wf (.and (.cons a (.cons b .nil))) ρ M = some (.d (.bool (u && v)), M) := by
  cases u with
  | true => exact e_and (b_go h1 (b_one h2))
  | false => exact e_and (b_stop (c := false) h1 (by decide))
theorem e_any {xs : List PyData} {ps : List Bool} (h : evalE cf G wf e ρ M = some (.d (.list xs), M1)) (hx : allB xs = some ps) : evalE cf G wf (.blt false .any (.cons e .nil)) ρ M = some (.d (.bool (ps.any id)), M1) := by
  rw [evalE, es_cons h es_nil]
  simp only [db_any, derefs_cons, derefs_nil, deref_d, q_any, hx, Option.map_some, give_f]
theorem e_all {xs : List PyData} {ps : List Bool} (h : evalE cf G wf e ρ M = some (.d (.list xs), M1)) (hx : allB xs = some ps) : evalE cf G wf (.blt false .all (.cons e .nil)) ρ M = some (.d (.bool (ps.all id)), M1) := by
  rw [evalE, es_cons h es_nil]
  simp only [db_all, derefs_cons, derefs_nil, deref_d, q_all, hx, Option.map_some, give_f]
end
def nrA : E := .blt false .any (.cons (.comp false [7, 8] (.tv [7, 8]) (.seq (.var 3)) (.lit (.bool true)) (.and (.cons (.op2 false .eq (.op2 false .mod (.var 4) (.var 7)) (.lit (.int 0))) (.cons (.op2 false .eq (.op2 false .mod (.var 5) (.var 7)) (.var 8)) .nil)))) .nil)
def nrZ (zw : Nat) : E := .blt false .all (.cons (.comp false [9] (.v 9) (.rng (.cons (.var 1) .nil)) (.lit (.bool true)) (.op2 false .eq (.op2 false .ix (.var 2) (.op2 false .add (.op2 false .mul (.var 4) (.var 9)) (.var 5))) (.glb zw))) .nil)
def nrB (zw : Nat) : Ss :=
    (.cons (.asg 6 nrA)
    (.cons (.ife (.and (.cons (.not (.var 6)) (.cons (nrZ zw) .nil)))
     (.cons (.expr (.meth .append (.var 3) (.cons (.tup (.cons (.var 4) (.cons (.var 5) .nil))) .nil)))
     .nil)
     .nil)
    .nil))
def pRows (vs zw : Nat) : Fn := ⟨1, 10,
  (.cons (.asg 1 (.op2 false .sub (.blt false .len (.cons (.op2 false .ix (.var 0) (.lit (.int 1))) .nil)) (.lit (.int 1))))
  (.cons (.asg 2 (.call vs (.cons (.var 0) (.cons (.op2 false .add (.op2 false .mul (.lit (.int 12)) (.op2 false .add (.var 1) (.lit (.int 1)))) (.lit (.int 12))) .nil))))
  (.cons (.asg 3 (.lst true .nil))
  (.cons (.fr (.v 4) (.rng (.cons (.lit (.int 1)) (.cons (.lit (.int 13)) .nil)))
   (.cons (.fr (.v 5) (.rng (.cons (.var 4) .nil)) (nrB zw))
   .nil))
  (.cons (.ret (.blt false .tuple (.cons (.var 3) .nil)))
  .nil)))))⟩
/-- nought at all of the first r places of the row -/
def Zv (V : Nat → Rat) (r : Nat) (s j : Nat) : Bool := (List.range r).all fun n => decide (V (s * n + j) = 0)
section
variable {G : List PyData} {wf : Nat} {M : Mem} {fs : List Fn} {i k zw r T s j : Nat} {V : Nat → Rat} {sq : PyData} {cf : Nat → List W → Mem → Option (W × Mem)} {t : List (Nat × Nat)}
abbrev nrR (sq : PyData) (r : Nat) (V : Nat → Rat) (T c : Nat) (x4 x5 x6 : Option W) : Loc := [some (.d sq), some (.d (.int (r : Nat))), some (.d (encP (vl' V T))), some (.m c), x4, x5, x6, none, none, none]
theorem nrA_eq {x6 : Option W} [WF wf] (ht : ∀ q ∈ t, 1 ≤ q.1) (hl : t.length < 1000) : evalE cf G wf nrA (nrR sq r V T M.length (some (.d (.int (s : Nat)))) (some (.d (.int (j : Nat)))) x6) (mN M t) = some (.d (.bool (known t s j)), mN M t) := by
  have hz := EV.sizeLine_eq
  have htop : (mN M t)[M.length]? = some (.lst (enprs t)) := top_get
  let ρ := nrR sq r V T M.length (some (.d (.int (s : Nat)))) (some (.d (.int (j : Nat)))) x6
  have hc := comp_pairs (cf := cf) (G := G) (wf := wf) (M := mN M t) (ρ := ρ) (own := [7, 8]) (tg := .tv [7, 8]) (c := .lit (.bool true)) (elt := .and (.cons (.op2 false .eq (.op2 false .mod (.var 4) (.var 7)) (.lit (.int 0))) (.cons (.op2 false .eq (.op2 false .mod (.var 5) (.var 7)) (.var 8)) .nil))) (e := .var 3) (g := fun q => [PyData.bool (decide (s % q.1 = 0) && decide (j % q.1 = q.2))]) (e_var rfl) htop hl (fun q hq acc ha => by
    let ρ2 : Loc := [some (.d sq), some (.d (.int (r : Nat))), some (.d (encP (vl' V T))), some (.m M.length), some (.d (.int (s : Nat))), some (.d (.int (j : Nat))), x6, some (.d (.int (q.1 : Nat))), some (.d (.int (q.2 : Nat))), none]
    have h7 := ht q hq
    have e1 := e_eqN (cf := cf) (G := G) (wf := wf) (ρ := ρ2) (M := mN M t) (n := 0) (e_modN (a := .var 4) (b := .var 7) (M1 := mN M t) (M2 := mN M t) (m := s) (n := q.1) (e_var rfl) (e_var rfl) h7) (b := .lit (.int 0)) (M2 := mN M t) e_lit
    have e2 := e_eqN (cf := cf) (G := G) (wf := wf) (ρ := ρ2) (M := mN M t) (n := q.2) (e_modN (a := .var 5) (b := .var 7) (M1 := mN M t) (M2 := mN M t) (m := j) (n := q.1) (e_var rfl) (e_var rfl) h7) (b := .var 8) (M2 := mN M t) (e_var rfl)
    exact tc_go (ρ2 := ρ2) rfl t_lit (e_and2 e1 e2) (by rw [hz]; omega)) (fun q => Nat.le_refl _)
  rw [flat_one] at hc
  have := e_any hc (allB_mapG _ _)
  rw [List.any_map] at this
  exact this
theorem nrZ_eq {x6 : Option W} (hz0 : G[zw]? = some (pr 0 1)) (hr : r ≤ 1000) (hb : ∀ n, n < r → s * n + j < T) (hs : s ≤ 1000) : evalE cf G wf (nrZ zw) (nrR sq r V T M.length (some (.d (.int (s : Nat)))) (some (.d (.int (j : Nat)))) x6) (mN M t) = some (.d (.bool (Zv V r s j)), mN M t) := by
  have hz := EV.sizeLine_eq
  let ρ := nrR sq r V T M.length (some (.d (.int (s : Nat)))) (some (.d (.int (j : Nat)))) x6
  have hrg := x_rngE (cf := cf) (G := G) (wf := wf) (ρ := ρ) (M := mN M t) (M1 := mN M t) (e := .var 1) (n := r) (e_var rfl) (by omega)
  have hc : evalE cf G wf (.comp false [9] (.v 9) (.rng (.cons (.var 1) .nil)) (.lit (.bool true)) (.op2 false .eq (.op2 false .ix (.var 2) (.op2 false .add (.op2 false .mul (.var 4) (.var 9)) (.var 5))) (.glb zw))) ρ (mN M t) = some (.d (.list ((List.range r).map fun n => PyData.bool (decide (V (s * n + j) = 0)))), mN M t) := by
    refine x_comp hrg (compL_map _ _ [] (by rw [irng_length, List.length_map, List.length_range]) (by rw [hz, List.length_map, List.length_range]; simp; omega) fun n x y hx hy acc ha => ?_) rfl
    obtain ⟨rfl, hn⟩ := irng_at hx
    rw [List.getElem?_map, List.getElem?_range hn] at hy
    have hy : PyData.bool (decide (V (s * n + j) = 0)) = y := Option.some.inj hy
    subst hy
    let ρ2 : Loc := [some (.d sq), some (.d (.int (r : Nat))), some (.d (encP (vl' V T))), some (.m M.length), some (.d (.int (s : Nat))), some (.d (.int (j : Nat))), x6, none, none, some (.d (.int (n : Nat)))]
    have e1 : evalE cf G wf (.op2 false .mul (.var 4) (.var 9)) ρ2 (mN M t) = some (.d (.int ((s * n : Nat) : Int)), mN M t) := by
      rw [Int.natCast_mul]
      exact e_mul (i := (s : Int)) (j := (n : Int)) (M1 := mN M t) (e_var rfl) (e_var rfl) (okR (by omega))
    have e2 : evalE cf G wf (.op2 false .add (.op2 false .mul (.var 4) (.var 9)) (.var 5)) ρ2 (mN M t) = some (.d (.int ((s * n + j : Nat) : Int)), mN M t) := by
      rw [Int.natCast_add]
      exact x_opG e1 (y := .int (j : Nat)) (M2 := mN M t) (e_var rfl) p_add (by decide)
    have e3 : evalE cf G wf (.op2 false .ix (.var 2) (.op2 false .add (.op2 false .mul (.var 4) (.var 9)) (.var 5))) ρ2 (mN M t) = some (.d (enc (V (s * n + j))), mN M t) := by
      have hlt := hb n hn
      refine x_ixG (xs := encs (vl' V T)) (M1 := mN M t) (e_var rfl) e2 ?_
      rw [at_n, List.getElem?_map, vl_at hlt]
      rfl
    exact tc_go (ρ2 := ρ2) rfl t_lit (x_opG e3 (y := pr 0 1) (M2 := mN M t) (e_glb hz0) (eq_enc0 _) (by decide)) ha
  have := e_all hc (allB_mapG _ _)
  rw [List.all_map] at this
  exact this
theorem nr_step {x6 : Option W} [WF wf] (hz0 : G[zw]? = some (pr 0 1)) (hr : r ≤ 1000) (hb : ∀ n, n < r → s * n + j < T) (hs : s ≤ 1000) (ht : ∀ q ∈ t, 1 ≤ q.1) (hl : t.length < 1000) :
    ∃ y6, evalSs cf G wf (nrB zw) (nrR sq r V T M.length (some (.d (.int (s : Nat)))) (some (.d (.int (j : Nat)))) x6) (mN M t) = some (.nx (nrR sq r V T M.length (some (.d (.int (s : Nat)))) (some (.d (.int (j : Nat)))) y6) (mN M (stp (Zv V r) s j t))) := by
  have hz := EV.sizeLine_eq
  have htop : (mN M t)[M.length]? = some (.lst (enprs t)) := top_get
  let y6 : Option W := some (.d (.bool (known t s j)))
  let ρ1 := nrR sq r V T M.length (some (.d (.int (s : Nat)))) (some (.d (.int (j : Nat)))) y6
  have c1 := e_not (e_var (cf := cf) (G := G) (wf := wf) (ρ := ρ1) (M := mN M t) (i := 6) (w := .d (.bool (known t s j))) rfl)
  have c2 := t_bool (e_and2 c1 (nrZ_eq (cf := cf) (sq := sq) (M := M) (t := t) (x6 := y6) (V := V) hz0 hr hb hs))
  refine ⟨y6, x_cons (ρ' := ρ1) (M' := mN M t) (x_asg (nrA_eq ht hl)) ?_⟩
  cases hc : (!known t s j && Zv V r s j) with
  | true =>
    rw [hc] at c2
    have st := x_app (cf := cf) (G := G) (wf := wf) (ρ := ρ1) (a := .var 3) (b := .tup (.cons (.var 4) (.cons (.var 5) .nil))) (x := enpr (s, j)) (e_var rfl) htop (e_tup (es_cons (w := .d (.int (s : Nat))) (M1 := mN M t) (e_var rfl) (es_cons (w := .d (.int (j : Nat))) (M1 := mN M t) (e_var rfl) es_nil)) rfl (by rw [hz]; show 2 ≤ _; decide)) (by rw [hz, List.length_map]; omega)
    have hset : (mN M t).set M.length (.lst (enprs t ++ [enpr (s, j)])) = mN M (stp (Zv V r) s j t) := by
      rw [show mN M t = M ++ [.lst (enprs t)] from rfl, top_set]
      unfold stp
      rw [if_pos hc]
      show _ = M ++ [.lst (enprs (t ++ [(s, j)]))]
      rw [show enprs (t ++ [(s, j)]) = enprs t ++ [enpr (s, j)] from List.map_append]
    rw [hset] at st
    exact x_cons (x_ifT c2 (x_cons st (by rw [evalSs]; try rfl))) (by rw [evalSs]; try rfl)
  | false =>
    rw [hc] at c2
    have : stp (Zv V r) s j t = t := by
      unfold stp
      rw [if_neg (by rw [hc]; decide)]
    rw [this]
    exact x_cons (x_ifF c2) (by rw [evalSs])
theorem rng_13 {c : Nat → List W → Mem → Option (W × Mem)} {ρ : Loc} : evalIt c G wf (.rng (.cons (.lit (.int 1)) (.cons (.lit (.int 13)) .nil))) ρ M = some (.its (irng 1 1 12), M) := x_rng (es_cons e_lit (es_cons e_lit es_nil)) rfl (rng_2 (by decide) (by decide))
theorem irng1_at {n j : Nat} {x : PyData} (h : (irng 1 1 n)[j]? = some x) : x = .int ((j + 1 : Nat) : Int) ∧ j < n := by
  have hl := (List.getElem?_eq_some_iff.mp h).1
  rw [irng_length] at hl
  refine ⟨?_, hl⟩
  unfold irng at h
  rw [List.getElem?_map, List.getElem?_range hl] at h
  have h : PyData.int (1 + (j : Int) * 1) = x := Option.some.inj h
  rw [← h]
  congr 1
  omega
/-- the two loops -/
theorem nr_loops [WF wf] (hz0 : G[zw]? = some (pr 0 1)) (hr : r ≤ 100) (hT2 : ∀ s j n, 1 ≤ s → s ≤ 12 → j < s → n < r → s * n + j < T) :
    ∃ x4 x5 x6, evalS cf G wf (.fr (.v 4) (.rng (.cons (.lit (.int 1)) (.cons (.lit (.int 13)) .nil))) (.cons (.fr (.v 5) (.rng (.cons (.var 4) .nil)) (nrB zw)) .nil)) (nrR sq r V T M.length none none none) (mN M []) = some (.nx (nrR sq r V T M.length x4 x5 x6) (mN M (out (Zv V r) 12))) := by
  obtain ⟨ρ', M', e, x4, x5, x6, rfl, hM⟩ := forL_for (f := turnG cf G wf (.v 4) (.cons (.fr (.v 5) (.rng (.cons (.var 4) .nil)) (nrB zw)) .nil)) (xs := irng 1 1 12) (fun n ρ M' => ∃ x4 x5 x6, ρ = nrR sq r V T M.length x4 x5 x6 ∧ M' = mN M (out (Zv V r) n))
    (fun ρ M' => ∃ x4 x5 x6, ρ = nrR sq r V T M.length x4 x5 x6 ∧ M' = mN M (out (Zv V r) 12)) (fun n x ρ M' hx hI => by
      obtain ⟨rfl, hn⟩ := irng1_at hx
      obtain ⟨x4, x5, x6, rfl, rfl⟩ := hI
      rw [x_turn]
      have ho : Ok (n * 13) (out (Zv V r) n) := (out_ok n).resolve_right (by omega)
      obtain ⟨ρ2, M2, f1, y5, y6, rfl, hM2⟩ := forL_for (f := turnG cf G wf (.v 5) (nrB zw)) (xs := irng 0 1 (n + 1)) (fun j ρ M' => ∃ x5 x6, ρ = nrR sq r V T M.length (some (.d (.int ((n + 1 : Nat) : Int)))) x5 x6 ∧ M' = mN M (inn (Zv V r) (n + 1) j (out (Zv V r) n)))
        (fun ρ M' => ∃ x5 x6, ρ = nrR sq r V T M.length (some (.d (.int ((n + 1 : Nat) : Int)))) x5 x6 ∧ M' = mN M (inn (Zv V r) (n + 1) (n + 1) (out (Zv V r) n))) (fun j x ρ M' hx hI => by
          obtain ⟨rfl, hj⟩ := irng_at hx
          obtain ⟨x5, x6, rfl, rfl⟩ := hI
          rw [x_turn]
          have hi := inn_ok (Z := Zv V r) (s := n + 1) (by omega) ho j
          obtain ⟨y6, q⟩ := nr_step (cf := cf) (G := G) (wf := wf) (sq := sq) (M := M) (s := n + 1) (j := j) (x6 := x6) (r := r) (T := T) (V := V) hz0 (by omega) (fun m hm => hT2 (n + 1) j m (by omega) (by omega) hj hm) (by omega) hi.pos (by have := hi.len; omega)
          exact ⟨_, _, .inl ⟨q, some (.d (.int (j : Nat))), y6, rfl, rfl⟩⟩) (fun ρ M' hI => by
          rw [irng_length] at hI
          exact hI) (ρ := nrR sq r V T M.length (some (.d (.int ((n + 1 : Nat) : Int)))) x5 x6) (M := mN M (out (Zv V r) n)) ⟨x5, x6, rfl, rfl⟩
      subst hM2
      have rg := x_rngE (cf := cf) (G := G) (wf := wf) (ρ := nrR sq r V T M.length (some (.d (.int ((n + 1 : Nat) : Int)))) x5 x6) (M := mN M (out (Zv V r) n)) (M1 := mN M (out (Zv V r) n)) (e := .var 4) (n := n + 1) (e_var rfl) (by omega)
      exact ⟨_, _, .inl ⟨x_cons (x_for rg f1) (by rw [evalSs]; try rfl), some (.d (.int ((n + 1 : Nat) : Int))), y5, y6, rfl, rfl⟩⟩) (fun ρ M' hI => by
      rw [irng_length] at hI
      exact hI) (ρ := nrR sq r V T M.length none none none) (M := mN M []) ⟨none, none, none, rfl, rfl⟩
  subst hM
  exact ⟨x4, x5, x6, x_for rng_13 e⟩
end
section
variable {G : List PyData} {wf : Nat} {M : Mem} {fs : List Fn} {i k z zw p o vl mi qu r N B v m L w l b R nv vs K T : Nat} {as : List (List Rat)} {V : Nat → Rat}
theorem nrows_eq {d0 : PyData} [FA fs i (pRows vs zw)] [FA fs vs (pValues nv)] [FA fs nv (pNext z p o vl mi qu)] [FA fs qu (pQuot r)] [FA fs r pRatio] [FA fs mi (pMinus r)] [FA fs vl (pValE (.glb z) p o)] [FA fs p (pPlus r)] [FA fs o (pProd r)] [GA G z (pr 0 1)] [GA G zw (pr 0 1)] [MK fs G wf r N] [WF wf]
    (ha : Rws B v m L as) (hl : as.length = R + 1) (hK : R ≤ K) (hTe : 12 * (R + 1) + 12 = T) (hT : K ≤ T) (hT2 : T ≤ 2 ^ b) (hV : ∀ j, j < T → Qb B w l (V j)) (hR : R ≤ 100) (h0 : ∀ n, n + R < T → ev (co as R) (n : Rat) ≠ 0) (hrec : ∀ n, K ≤ n + R → n + R < T → V (n + R) = nxt as R V n)
    (hB : 0 < B) (hB2 : B ≤ 256) (hN : 16 * (m + l) + 2 ≤ N) (hN2 : 8 * (m + l) + 1 + (v + L * (b + 1) + 8 * m) < 9000) (hVV : 2 * (mkV v L b w + R + L * (b + 1) + 2 * (b + 1) + v) + 16 * (m + l) + 2 < 100000000) :
    callF fs G wf (k + 11) i [.d (.tuple [d0, encO as, encP (vl' V K)])] M = some (.d (.tuple (enprs (out (Zv V R) 12))), M) := by
  have hz := EV.sizeLine_eq
  let sq : PyData := .tuple [d0, encO as, encP (vl' V K)]
  let ρ0 : Loc := [some (.d sq), none, none, none, none, none, none, none, none, none]
  let ρ1 : Loc := [some (.d sq), some (.d (.int (R : Nat))), none, none, none, none, none, none, none, none]
  have x1 : evalE (callF fs G wf (k + 10)) G wf (.op2 false .ix (.var 0) (.lit (.int 1))) ρ0 M = some (.d (encO as), M) := x_ixG (e_var rfl) e_lit rfl
  have a1 : evalE (callF fs G wf (k + 10)) G wf (.op2 false .sub (.blt false .len (.cons (.op2 false .ix (.var 0) (.lit (.int 1))) .nil)) (.lit (.int 1))) ρ0 M = some (.d (.int (R : Nat)), M) := by
    have := x_opG (e_lenO x1) (b := .lit (.int 1)) (M2 := M) e_lit p_sub (by decide)
    rw [show ((as.length : Nat) : Int) - 1 = (R : Int) by omega] at this
    exact this
  have a2 : evalE (callF fs G wf (k + 10)) G wf (.op2 false .add (.op2 false .mul (.lit (.int 12)) (.op2 false .add (.var 1) (.lit (.int 1)))) (.lit (.int 12))) ρ1 M = some (.d (.int (T : Nat)), M) := by
    rw [show ((T : Nat) : Int) = 12 * ((R : Int) + 1) + 12 by omega]
    exact x_opG (e_mul (i := 12) (j := (R : Int) + 1) (M1 := M) (M2 := M) e_lit (x_opG (x := .int (R : Nat)) (M1 := M) (e_var rfl) e_lit p_add (by decide)) (okR (by omega))) e_lit p_add (by decide)
  have a3 := values_eq (fs := fs) (G := G) (wf := wf) (M := M) (k := k) (i := vs) (d0 := d0) ha hl hK hT hT2 (by omega) hV (by omega) h0 hrec hB hB2 hN hN2 hVV
  have a4 : evalE (callF fs G wf (k + 10)) G wf (.call vs (.cons (.var 0) (.cons (.op2 false .add (.op2 false .mul (.lit (.int 12)) (.op2 false .add (.var 1) (.lit (.int 1)))) (.lit (.int 12))) .nil))) ρ1 M = some (.d (encP (vl' V T)), M) := x_callE (es_cons (w := .d sq) (M1 := M) (e_var rfl) (es_cons a2 es_nil)) a3
  have a5 : evalE (callF fs G wf (k + 10)) G wf (.lst true .nil) [some (.d sq), some (.d (.int (R : Nat))), some (.d (encP (vl' V T))), none, none, none, none, none, none, none] M = some (.m M.length, mN M []) := x_lstM (xs := []) es_nil rfl (Nat.zero_le _)
  obtain ⟨x4, x5, x6, e⟩ := nr_loops (cf := callF fs G wf (k + 10)) (G := G) (wf := wf) (M := M) (sq := sq) (zw := zw) (r := R) (T := T) (V := V) GA.h hR (fun s j n h1 h2 h3 h4 => by
    have : s * n ≤ 12 * n := Nat.mul_le_mul_right _ h2
    omega)
  have htop : (mN M (out (Zv V R) 12))[M.length]? = some (.lst (enprs (out (Zv V R) 12))) := top_get
  have fin := x_fin (fs := fs) (G := G) (wf := wf) (k := k + 10) (i := i) (ws := [.d sq]) (M := M) (x := .tuple (enprs (out (Zv V R) 12))) (M1 := mN M (out (Zv V R) 12)) (FA.h (fs := fs) (i := i) (fn := pRows vs zw)) rfl
    (x_cons (x_asg a1) (x_cons (x_asg a4) (x_cons (x_asg a5) (x_cons e (x_stop (x_ret (x_tupM (e_var rfl) htop)))))))
  rw [show (mN M (out (Zv V R) 12)).take M.length = M from top_take] at fin
  exact fin
end
end EV

/-! the defs of a law, as Ev terms (printed by gen.py) -/
namespace EVL
open PySem PySem.Spec PyProof.Rows L2 EV
def top (i : Nat) : Stmt := PySem.Challenge.pw_termstead_k35_noughts_in_rows.main.body.getD i (.Pass ⟨0, 0, 0, 0⟩)
def fn0 : Fn := ⟨2, 3,
  (.cons (.asg 2 (.blt false .gcd (.cons (.var 0) (.cons (.var 1) .nil))))
  (.cons (.ife (.op2 false .lt (.var 1) (.lit (.int 0)))
   (.cons (.asg 2 (.neg (.var 2)))
   .nil)
   .nil)
  (.cons (.ret (.tup (.cons (.op2 false .fdiv (.var 0) (.var 2)) (.cons (.op2 false .fdiv (.var 1) (.var 2)) .nil))))
  .nil)))⟩
def df0 : DF := ⟨"ratio", ⟨("ratio", none), "ratio", "ratio", defArgs (top 2), defBody (top 2), defScope (top 2), [], []⟩, ["a", "b"], ["a", "b", "common"], fn0⟩
theorem bd0 : BindOk df0 := fun _ _ _ _ _ _ us hl => match us, hl with | [_, _], _ => rfl
def fn1 : Fn := ⟨2, 2,
  (.cons (.ret (.call 0 (.cons (.op2 false .add (.op2 false .mul (.op2 false .ix (.var 0) (.lit (.int 0))) (.op2 false .ix (.var 1) (.lit (.int 1)))) (.op2 false .mul (.op2 false .ix (.var 1) (.lit (.int 0))) (.op2 false .ix (.var 0) (.lit (.int 1))))) (.cons (.op2 false .mul (.op2 false .ix (.var 0) (.lit (.int 1))) (.op2 false .ix (.var 1) (.lit (.int 1)))) .nil))))
  .nil)⟩
def df1 : DF := ⟨"plus", ⟨("plus", none), "plus", "plus", defArgs (top 3), defBody (top 3), defScope (top 3), [], []⟩, ["one", "other"], ["one", "other"], fn1⟩
theorem bd1 : BindOk df1 := fun _ _ _ _ _ _ us hl => match us, hl with | [_, _], _ => rfl
def fn2 : Fn := ⟨2, 2,
  (.cons (.ret (.call 0 (.cons (.op2 false .sub (.op2 false .mul (.op2 false .ix (.var 0) (.lit (.int 0))) (.op2 false .ix (.var 1) (.lit (.int 1)))) (.op2 false .mul (.op2 false .ix (.var 1) (.lit (.int 0))) (.op2 false .ix (.var 0) (.lit (.int 1))))) (.cons (.op2 false .mul (.op2 false .ix (.var 0) (.lit (.int 1))) (.op2 false .ix (.var 1) (.lit (.int 1)))) .nil))))
  .nil)⟩
def df2 : DF := ⟨"minus", ⟨("minus", none), "minus", "minus", defArgs (top 4), defBody (top 4), defScope (top 4), [], []⟩, ["one", "other"], ["one", "other"], fn2⟩
theorem bd2 : BindOk df2 := fun _ _ _ _ _ _ us hl => match us, hl with | [_, _], _ => rfl
def fn3 : Fn := ⟨2, 2,
  (.cons (.ret (.call 0 (.cons (.op2 false .mul (.op2 false .ix (.var 0) (.lit (.int 0))) (.op2 false .ix (.var 1) (.lit (.int 0)))) (.cons (.op2 false .mul (.op2 false .ix (.var 0) (.lit (.int 1))) (.op2 false .ix (.var 1) (.lit (.int 1)))) .nil))))
  .nil)⟩
def df3 : DF := ⟨"product", ⟨("product", none), "product", "product", defArgs (top 5), defBody (top 5), defScope (top 5), [], []⟩, ["one", "other"], ["one", "other"], fn3⟩
theorem bd3 : BindOk df3 := fun _ _ _ _ _ _ us hl => match us, hl with | [_, _], _ => rfl
def fn4 : Fn := ⟨2, 2,
  (.cons (.ret (.call 0 (.cons (.op2 false .mul (.op2 false .ix (.var 0) (.lit (.int 0))) (.op2 false .ix (.var 1) (.lit (.int 1)))) (.cons (.op2 false .mul (.op2 false .ix (.var 0) (.lit (.int 1))) (.op2 false .ix (.var 1) (.lit (.int 0)))) .nil))))
  .nil)⟩
def df4 : DF := ⟨"quotient", ⟨("quotient", none), "quotient", "quotient", defArgs (top 6), defBody (top 6), defScope (top 6), [], []⟩, ["one", "other"], ["one", "other"], fn4⟩
theorem bd4 : BindOk df4 := fun _ _ _ _ _ _ us hl => match us, hl with | [_, _], _ => rfl
def fn5 : Fn := ⟨2, 4,
  (.cons (.asg 2 (.glb 0))
  (.cons (.fr (.v 3) (.seq (.rev false (.var 0)))
   (.cons (.asg 2 (.call 1 (.cons (.call 3 (.cons (.var 2) (.cons (.var 1) .nil))) (.cons (.var 3) .nil))))
   .nil))
  (.cons (.ret (.var 2))
  .nil)))⟩
def df5 : DF := ⟨"value", ⟨("value", none), "value", "value", defArgs (top 9), defBody (top 9), defScope (top 9), [], []⟩, ["poly", "number"], ["poly", "number", "told", "one"], fn5⟩
theorem bd5 : BindOk df5 := fun _ _ _ _ _ _ us hl => match us, hl with | [_, _], _ => rfl
def fn6 : Fn := ⟨2, 6,
  (.cons (.asg 2 (.op2 false .sub (.blt false .len (.cons (.var 0) .nil)) (.lit (.int 1))))
  (.cons (.asg 3 (.op2 false .sub (.blt false .len (.cons (.var 1) .nil)) (.var 2)))
  (.cons (.asg 4 (.glb 0))
  (.cons (.fr (.v 5) (.rng (.cons (.var 2) .nil))
   (.cons (.ife (.op2 false .ix (.var 0) (.var 5))
    (.cons (.asg 4 (.call 1 (.cons (.var 4) (.cons (.call 3 (.cons (.call 5 (.cons (.op2 false .ix (.var 0) (.var 5)) (.cons (.tup (.cons (.var 3) (.cons (.lit (.int 1)) .nil))) .nil))) (.cons (.op2 false .ix (.var 1) (.op2 false .add (.var 3) (.var 5))) .nil))) .nil))))
    .nil)
    .nil)
   .nil))
  (.cons (.ret (.call 4 (.cons (.call 2 (.cons (.glb 0) (.cons (.var 4) .nil))) (.cons (.call 5 (.cons (.op2 false .ix (.var 0) (.var 2)) (.cons (.tup (.cons (.var 3) (.cons (.lit (.int 1)) .nil))) .nil))) .nil))))
  .nil)))))⟩
def df6 : DF := ⟨"next_value", ⟨("next_value", none), "next_value", "next_value", defArgs (top 11), defBody (top 11), defScope (top 11), [], []⟩, ["operator", "told"], ["operator", "told", "order", "n", "whole", "i"], fn6⟩
theorem bd6 : BindOk df6 := fun _ _ _ _ _ _ us hl => match us, hl with | [_, _], _ => rfl
def fn7 : Fn := ⟨2, 3,
  (.cons (.asg 2 (.blt true .list (.cons (.slc false false true (.op2 false .ix (.var 0) (.lit (.int 2))) (.lit .none) (.var 1)) .nil)))
  (.cons (.whl (.op2 false .lt (.blt false .len (.cons (.var 2) .nil)) (.var 1))
   (.cons (.expr (.meth .append (.var 2) (.cons (.call 6 (.cons (.op2 false .ix (.var 0) (.lit (.int 1))) (.cons (.var 2) .nil))) .nil)))
   .nil))
  (.cons (.ret (.blt false .tuple (.cons (.var 2) .nil)))
  .nil)))⟩
def df7 : DF := ⟨"values", ⟨("values", none), "values", "values", defArgs (top 12), defBody (top 12), defScope (top 12), [], []⟩, ["seq", "m"], ["seq", "m", "told"], fn7⟩
theorem bd7 : BindOk df7 := fun _ _ _ _ _ _ us hl => match us, hl with | [_, _], _ => rfl
def fn8 : Fn := ⟨1, 10,
  (.cons (.asg 1 (.op2 false .sub (.blt false .len (.cons (.op2 false .ix (.var 0) (.lit (.int 1))) .nil)) (.lit (.int 1))))
  (.cons (.asg 2 (.call 7 (.cons (.var 0) (.cons (.op2 false .add (.op2 false .mul (.lit (.int 12)) (.op2 false .add (.var 1) (.lit (.int 1)))) (.lit (.int 12))) .nil))))
  (.cons (.asg 3 (.lst true .nil))
  (.cons (.fr (.v 4) (.rng (.cons (.lit (.int 1)) (.cons (.lit (.int 13)) .nil)))
   (.cons (.fr (.v 5) (.rng (.cons (.var 4) .nil))
    (.cons (.asg 6 (.blt false .any (.cons (.comp false [7, 8] (.tv [7, 8]) (.seq (.var 3)) (.lit (.bool true)) (.and (.cons (.op2 false .eq (.op2 false .mod (.var 4) (.var 7)) (.lit (.int 0))) (.cons (.op2 false .eq (.op2 false .mod (.var 5) (.var 7)) (.var 8)) .nil)))) .nil)))
    (.cons (.ife (.and (.cons (.not (.var 6)) (.cons (.blt false .all (.cons (.comp false [9] (.v 9) (.rng (.cons (.var 1) .nil)) (.lit (.bool true)) (.op2 false .eq (.op2 false .ix (.var 2) (.op2 false .add (.op2 false .mul (.var 4) (.var 9)) (.var 5))) (.glb 1))) .nil)) .nil)))
     (.cons (.expr (.meth .append (.var 3) (.cons (.tup (.cons (.var 4) (.cons (.var 5) .nil))) .nil)))
     .nil)
     .nil)
    .nil)))
   .nil))
  (.cons (.ret (.blt false .tuple (.cons (.var 3) .nil)))
  .nil)))))⟩
def df8 : DF := ⟨"nought_rows", ⟨("nought_rows", none), "nought_rows", "nought_rows", defArgs (top 15), defBody (top 15), defScope (top 15), [], []⟩, ["seq"], ["seq", "r", "row", "told", "k", "j", "known", "other", "its", "n"], fn8⟩
theorem bd8 : BindOk df8 := fun _ _ _ _ _ _ us hl => match us, hl with | [_], _ => rfl
def fn9 : Fn := ⟨2, 2,
  (.cons (.ife (.op2 false .lt (.var 1) (.blt false .len (.cons (.var 0) .nil)))
   (.cons (.ret (.op2 false .ix (.var 0) (.var 1)))
   .nil)
   .nil)
  (.cons (.ret (.lit (.int 0)))
  .nil))⟩
def df9 : DF := ⟨"_law_cell", ⟨("_law_cell", none), "_law_cell", "_law_cell", defArgs (top 17), defBody (top 17), defScope (top 17), [], []⟩, ["script", "k"], ["script", "k"], fn9⟩
theorem bd9 : BindOk df9 := fun _ _ _ _ _ _ us hl => match us, hl with | [_, _], _ => rfl
def fn10 : Fn := ⟨3, 8,
  (.cons (.asg 3 (.lst true .nil))
  (.cons (.fr (.v 4) (.rng (.cons (.var 1) (.cons (.var 2) .nil)))
   (.cons (.asg 5 (.call 9 (.cons (.var 0) (.cons (.var 4) .nil))))
   (.cons (.ife (.op2 false .lt (.var 5) (.lit (.int 0)))
    (.cons (.asg 5 (.op2 false .sub (.lit (.int 1)) (.op2 false .mul (.lit (.int 2)) (.var 5))))
    .nil)
    .nil)
   (.cons (.ife (.op2 false .gt (.blt false .len (.cons (.var 3) .nil)) (.lit (.int 1500)))
    (.cons .brk
    .nil)
    .nil)
   (.cons (.ife (.op2 false .ge (.var 5) (.op2 false .pow (.lit (.int 10)) (.lit (.int 18))))
    (.cons (.fr (.v 6) (.rng (.cons (.lit (.int 60)) .nil))
     (.cons (.ife (.op2 false .gt (.var 5) (.lit (.int 0)))
      (.cons (.expr (.meth .append (.var 3) (.cons (.op2 false .mod (.blt false .int (.cons (.var 5) .nil)) (.lit (.int 1000))) .nil)))
      (.cons (.asg 5 (.op2 false .fdiv (.var 5) (.lit (.int 1000))))
      .nil))
      .nil)
     .nil))
    .nil)
    (.cons (.asg 7 (.op2 false .mod (.blt false .int (.cons (.op2 false .add (.op2 false .add (.op2 false .mul (.var 5) (.lit (.int 48271))) (.op2 false .mul (.var 4) (.lit (.int 69621)))) (.lit (.int 11))) .nil)) (.lit (.int 2147483647))))
    (.cons (.fr (.v 6) (.rng (.cons (.lit (.int 12)) .nil))
     (.cons (.asg 7 (.op2 false .mod (.blt false .int (.cons (.op2 false .add (.op2 false .add (.op2 false .mul (.var 7) (.lit (.int 16807))) (.op2 false .mul (.lit (.int 7)) (.var 6))) (.lit (.int 1))) .nil)) (.lit (.int 2147483647))))
     (.cons (.expr (.meth .append (.var 3) (.cons (.op2 false .mod (.blt false .int (.cons (.op2 false .fdiv (.var 7) (.lit (.int 997))) .nil)) (.lit (.int 1000))) .nil)))
     .nil)))
    .nil)))
   .nil)))))
  (.cons (.ret (.var 3))
  .nil)))⟩
def df10 : DF := ⟨"_law_digits", ⟨("_law_digits", none), "_law_digits", "_law_digits", defArgs (top 18), defBody (top 18), defScope (top 18), [], []⟩, ["script", "first", "last"], ["script", "first", "last", "digits", "k", "cell", "turn", "seed"], fn10⟩
theorem bd10 : BindOk df10 := fun _ _ _ _ _ _ us hl => match us, hl with | [_, _, _], _ => rfl
def fn11 : Fn := ⟨2, 3,
  (.cons (.asg 2 (.op2 false .ix (.var 0) (.lit (.int 1))))
  (.cons (.asgIx (.var 0) (.lit (.int 1)) (.op2 false .add (.var 2) (.lit (.int 1))))
  (.cons (.ife (.op2 false .lt (.var 2) (.blt false .len (.cons (.op2 false .ix (.var 0) (.lit (.int 0))) .nil)))
   (.cons (.ret (.op2 false .mod (.blt false .int (.cons (.op2 false .ix (.op2 false .ix (.var 0) (.lit (.int 0))) (.var 2)) .nil)) (.var 1)))
   .nil)
   .nil)
  (.cons (.ret (.op2 false .mod (.blt false .int (.cons (.op2 false .mul (.var 2) (.lit (.int 7))) .nil)) (.var 1)))
  .nil))))⟩
def df11 : DF := ⟨"_law_draw", ⟨("_law_draw", none), "_law_draw", "_law_draw", defArgs (top 19), defBody (top 19), defScope (top 19), [], []⟩, ["box", "many"], ["box", "many", "at"], fn11⟩
theorem bd11 : BindOk df11 := fun _ _ _ _ _ _ us hl => match us, hl with | [_, _], _ => rfl
def fn12 : Fn := ⟨2, 2,
  (.cons (.ret (.op2 false .ix (.var 1) (.op2 false .mod (.blt false .int (.cons (.call 11 (.cons (.var 0) (.cons (.lit (.int 900)) .nil))) .nil)) (.blt false .len (.cons (.var 1) .nil)))))
  .nil)⟩
def df12 : DF := ⟨"_law_pick", ⟨("_law_pick", none), "_law_pick", "_law_pick", defArgs (top 20), defBody (top 20), defScope (top 20), [], []⟩, ["box", "things"], ["box", "things"], fn12⟩
theorem bd12 : BindOk df12 := fun _ _ _ _ _ _ us hl => match us, hl with | [_, _], _ => rfl
def fn13 : Fn := ⟨2, 3,
  (.cons (.ife (.blt false (.isi .tuple) (.cons (.var 1) .nil))
   (.cons (.ife (.or (.cons (.not (.blt false (.isi .tuple) (.cons (.var 0) .nil))) (.cons (.op2 false .ne (.blt false .len (.cons (.var 0) .nil)) (.blt false .len (.cons (.var 1) .nil))) .nil)))
    (.cons (.ret (.lit (.bool false)))
    .nil)
    .nil)
   (.cons (.ret (.op2 false .eq (.comp false [2] (.v 2) (.rng (.cons (.blt false .len (.cons (.var 1) .nil)) .nil)) (.not (.call 13 (.cons (.op2 false .ix (.var 0) (.var 2)) (.cons (.op2 false .ix (.var 1) (.var 2)) .nil)))) (.lit (.int 1))) (.lst false .nil)))
   .nil))
   .nil)
  (.cons (.ife (.op2 false .is (.var 1) (.lit .none))
   (.cons (.ret (.op2 false .is (.var 0) (.lit .none)))
   .nil)
   .nil)
  (.cons (.ife (.op2 false .is (.var 1) (.lit (.bool true)))
   (.cons (.ret (.op2 false .is (.var 0) (.lit (.bool true))))
   .nil)
   .nil)
  (.cons (.ife (.op2 false .is (.var 1) (.lit (.bool false)))
   (.cons (.ret (.op2 false .is (.var 0) (.lit (.bool false))))
   .nil)
   .nil)
  (.cons (.ife (.blt false (.isi .str) (.cons (.var 1) .nil))
   (.cons (.ret (.and (.cons (.blt false (.isi .str) (.cons (.var 0) .nil)) (.cons (.op2 false .eq .stuck (.var 1)) .nil))))
   .nil)
   .nil)
  (.cons (.ret (.and (.cons (.blt false (.isi .int) (.cons (.var 0) .nil)) (.cons (.not (.blt false (.isi .bool) (.cons (.var 0) .nil))) (.cons (.op2 false .eq (.var 0) (.var 1)) .nil)))))
  .nil))))))⟩
def df13 : DF := ⟨"_law_like", ⟨("_law_like", none), "_law_like", "_law_like", defArgs (top 21), defBody (top 21), defScope (top 21), [], []⟩, ["told", "due"], ["told", "due", "k"], fn13⟩
theorem bd13 : BindOk df13 := fun _ _ _ _ _ _ us hl => match us, hl with | [_, _], _ => rfl
def fn14 : Fn := ⟨2, 2,
  (.cons (.whl (.op2 false .ne (.var 1) (.lit (.int 0)))
   (.cons (.par [0, 1] (.cons (.var 1) (.cons (.op2 false .mod (.blt false .int (.cons (.var 0) .nil)) (.var 1)) .nil)))
   .nil))
  (.cons (.ret (.var 0))
  .nil))⟩
def df14 : DF := ⟨"_law_gcd", ⟨("_law_gcd", none), "_law_gcd", "_law_gcd", defArgs (top 22), defBody (top 22), defScope (top 22), [], []⟩, ["one", "other"], ["one", "other"], fn14⟩
theorem bd14 : BindOk df14 := fun _ _ _ _ _ _ us hl => match us, hl with | [_, _], _ => rfl
def fn15 : Fn := ⟨2, 3,
  (.cons (.asg 2 (.call 14 (.cons (.blt false .abs (.cons (.var 0) .nil)) (.cons (.var 1) .nil))))
  (.cons (.ret (.tup (.cons (.op2 false .fdiv (.var 0) (.var 2)) (.cons (.op2 false .fdiv (.var 1) (.var 2)) .nil))))
  .nil))⟩
def df15 : DF := ⟨"_law_ratio", ⟨("_law_ratio", none), "_law_ratio", "_law_ratio", defArgs (top 23), defBody (top 23), defScope (top 23), [], []⟩, ["a", "b"], ["a", "b", "step"], fn15⟩
theorem bd15 : BindOk df15 := fun _ _ _ _ _ _ us hl => match us, hl with | [_, _], _ => rfl
def fn16 : Fn := ⟨2, 2,
  (.cons (.ret (.call 15 (.cons (.op2 false .add (.op2 false .mul (.op2 false .ix (.var 0) (.lit (.int 0))) (.op2 false .ix (.var 1) (.lit (.int 1)))) (.op2 false .mul (.op2 false .ix (.var 1) (.lit (.int 0))) (.op2 false .ix (.var 0) (.lit (.int 1))))) (.cons (.op2 false .mul (.op2 false .ix (.var 0) (.lit (.int 1))) (.op2 false .ix (.var 1) (.lit (.int 1)))) .nil))))
  .nil)⟩
def df16 : DF := ⟨"_law_plus", ⟨("_law_plus", none), "_law_plus", "_law_plus", defArgs (top 24), defBody (top 24), defScope (top 24), [], []⟩, ["one", "other"], ["one", "other"], fn16⟩
theorem bd16 : BindOk df16 := fun _ _ _ _ _ _ us hl => match us, hl with | [_, _], _ => rfl
def fn17 : Fn := ⟨2, 2,
  (.cons (.ret (.call 15 (.cons (.op2 false .mul (.op2 false .ix (.var 0) (.lit (.int 0))) (.op2 false .ix (.var 1) (.lit (.int 0)))) (.cons (.op2 false .mul (.op2 false .ix (.var 0) (.lit (.int 1))) (.op2 false .ix (.var 1) (.lit (.int 1)))) .nil))))
  .nil)⟩
def df17 : DF := ⟨"_law_product", ⟨("_law_product", none), "_law_product", "_law_product", defArgs (top 25), defBody (top 25), defScope (top 25), [], []⟩, ["one", "other"], ["one", "other"], fn17⟩
theorem bd17 : BindOk df17 := fun _ _ _ _ _ _ us hl => match us, hl with | [_, _], _ => rfl
def fn18 : Fn := ⟨1, 2,
  (.cons (.asg 1 (.blt false .len (.cons (.var 0) .nil)))
  (.cons (.whl (.and (.cons (.op2 false .gt (.var 1) (.lit (.int 0))) (.cons (.op2 false .eq (.op2 false .ix (.op2 false .ix (.var 0) (.op2 false .sub (.var 1) (.lit (.int 1)))) (.lit (.int 0))) (.lit (.int 0))) .nil)))
   (.cons (.asg 1 (.op2 false .sub (.var 1) (.lit (.int 1))))
   .nil))
  (.cons (.ret (.blt false .tuple (.cons (.slc false false true (.var 0) (.lit .none) (.var 1)) .nil)))
  .nil)))⟩
def df18 : DF := ⟨"_law_trim", ⟨("_law_trim", none), "_law_trim", "_law_trim", defArgs (top 26), defBody (top 26), defScope (top 26), [], []⟩, ["row"], ["row", "many"], fn18⟩
theorem bd18 : BindOk df18 := fun _ _ _ _ _ _ us hl => match us, hl with | [_], _ => rfl
def fn19 : Fn := ⟨2, 4,
  (.cons (.asg 2 (.op2 true .mul (.lst false (.cons (.tup (.cons (.lit (.int 0)) (.cons (.lit (.int 1)) .nil))) .nil)) (.blt false .max (.cons (.blt false .len (.cons (.var 0) .nil)) (.cons (.blt false .len (.cons (.var 1) .nil)) .nil)))))
  (.cons (.fr (.v 3) (.rng (.cons (.blt false .len (.cons (.var 0) .nil)) .nil))
   (.cons (.asgIx (.var 2) (.var 3) (.op2 false .ix (.var 0) (.var 3)))
   .nil))
  (.cons (.fr (.v 3) (.rng (.cons (.blt false .len (.cons (.var 1) .nil)) .nil))
   (.cons (.asgIx (.var 2) (.var 3) (.call 16 (.cons (.op2 false .ix (.var 2) (.var 3)) (.cons (.op2 false .ix (.var 1) (.var 3)) .nil))))
   .nil))
  (.cons (.ret (.call 18 (.cons (.var 2) .nil)))
  .nil))))⟩
def df19 : DF := ⟨"_law_padd", ⟨("_law_padd", none), "_law_padd", "_law_padd", defArgs (top 27), defBody (top 27), defScope (top 27), [], []⟩, ["f", "g"], ["f", "g", "found", "k"], fn19⟩
theorem bd19 : BindOk df19 := fun _ _ _ _ _ _ us hl => match us, hl with | [_, _], _ => rfl
def fn20 : Fn := ⟨2, 5,
  (.cons (.ife (.or (.cons (.op2 false .eq (.var 0) (.tup .nil)) (.cons (.op2 false .eq (.var 1) (.tup .nil)) .nil)))
   (.cons (.ret (.tup .nil))
   .nil)
   .nil)
  (.cons (.asg 2 (.op2 true .mul (.lst false (.cons (.tup (.cons (.lit (.int 0)) (.cons (.lit (.int 1)) .nil))) .nil)) (.op2 false .sub (.op2 false .add (.blt false .len (.cons (.var 0) .nil)) (.blt false .len (.cons (.var 1) .nil))) (.lit (.int 1)))))
  (.cons (.fr (.v 3) (.rng (.cons (.blt false .len (.cons (.var 0) .nil)) .nil))
   (.cons (.fr (.v 4) (.rng (.cons (.blt false .len (.cons (.var 1) .nil)) .nil))
    (.cons (.asgIx (.var 2) (.op2 false .add (.var 3) (.var 4)) (.call 16 (.cons (.op2 false .ix (.var 2) (.op2 false .add (.var 3) (.var 4))) (.cons (.call 17 (.cons (.op2 false .ix (.var 0) (.var 3)) (.cons (.op2 false .ix (.var 1) (.var 4)) .nil))) .nil))))
    .nil))
   .nil))
  (.cons (.ret (.call 18 (.cons (.var 2) .nil)))
  .nil))))⟩
def df20 : DF := ⟨"_law_pmul", ⟨("_law_pmul", none), "_law_pmul", "_law_pmul", defArgs (top 28), defBody (top 28), defScope (top 28), [], []⟩, ["f", "g"], ["f", "g", "found", "i", "j"], fn20⟩
theorem bd20 : BindOk df20 := fun _ _ _ _ _ _ us hl => match us, hl with | [_, _], _ => rfl
def fn21 : Fn := ⟨2, 4,
  (.cons (.asg 2 (.tup .nil))
  (.cons (.fr (.v 3) (.seq (.rev false (.var 0)))
   (.cons (.asg 2 (.call 19 (.cons (.call 20 (.cons (.var 2) (.cons (.var 1) .nil))) (.cons (.ife (.op2 false .ne (.op2 false .ix (.var 3) (.lit (.int 0))) (.lit (.int 0))) (.tup (.cons (.var 3) .nil)) (.tup .nil)) .nil))))
   .nil))
  (.cons (.ret (.var 2))
  .nil)))⟩
def df21 : DF := ⟨"_law_put", ⟨("_law_put", none), "_law_put", "_law_put", defArgs (top 29), defBody (top 29), defScope (top 29), [], []⟩, ["f", "g"], ["f", "g", "total", "one"], fn21⟩
theorem bd21 : BindOk df21 := fun _ _ _ _ _ _ us hl => match us, hl with | [_, _], _ => rfl
def fn22 : Fn := ⟨2, 2,
  (.cons (.ret (.call 21 (.cons (.var 0) (.cons (.ife (.op2 false .ne (.var 1) (.lit (.int 0))) (.tup (.cons (.tup (.cons (.var 1) (.cons (.lit (.int 1)) .nil))) (.cons (.tup (.cons (.lit (.int 1)) (.cons (.lit (.int 1)) .nil))) .nil))) (.tup (.cons (.tup (.cons (.lit (.int 0)) (.cons (.lit (.int 1)) .nil))) (.cons (.tup (.cons (.lit (.int 1)) (.cons (.lit (.int 1)) .nil))) .nil)))) .nil))))
  .nil)⟩
def df22 : DF := ⟨"_law_moved", ⟨("_law_moved", none), "_law_moved", "_law_moved", defArgs (top 30), defBody (top 30), defScope (top 30), [], []⟩, ["f", "k"], ["f", "k"], fn22⟩
theorem bd22 : BindOk df22 := fun _ _ _ _ _ _ us hl => match us, hl with | [_, _], _ => rfl
def fn23 : Fn := ⟨1, 2,
  (.cons (.asg 1 (.blt false .len (.cons (.var 0) .nil)))
  (.cons (.whl (.and (.cons (.op2 false .gt (.var 1) (.lit (.int 0))) (.cons (.op2 false .eq (.op2 false .ix (.var 0) (.op2 false .sub (.var 1) (.lit (.int 1)))) (.tup .nil)) .nil)))
   (.cons (.asg 1 (.op2 false .sub (.var 1) (.lit (.int 1))))
   .nil))
  (.cons (.ret (.blt false .tuple (.cons (.slc false false true (.var 0) (.lit .none) (.var 1)) .nil)))
  .nil)))⟩
def df23 : DF := ⟨"_law_top", ⟨("_law_top", none), "_law_top", "_law_top", defArgs (top 31), defBody (top 31), defScope (top 31), [], []⟩, ["op"], ["op", "many"], fn23⟩
theorem bd23 : BindOk df23 := fun _ _ _ _ _ _ us hl => match us, hl with | [_], _ => rfl
def fn24 : Fn := ⟨2, 5,
  (.cons (.ife (.or (.cons (.op2 false .eq (.var 0) (.tup .nil)) (.cons (.op2 false .eq (.var 1) (.tup .nil)) .nil)))
   (.cons (.ret (.tup .nil))
   .nil)
   .nil)
  (.cons (.asg 2 (.op2 true .mul (.lst false (.cons (.tup .nil) .nil)) (.op2 false .sub (.op2 false .add (.blt false .len (.cons (.var 0) .nil)) (.blt false .len (.cons (.var 1) .nil))) (.lit (.int 1)))))
  (.cons (.fr (.v 3) (.rng (.cons (.blt false .len (.cons (.var 0) .nil)) .nil))
   (.cons (.fr (.v 4) (.rng (.cons (.blt false .len (.cons (.var 1) .nil)) .nil))
    (.cons (.asgIx (.var 2) (.op2 false .add (.var 3) (.var 4)) (.call 19 (.cons (.op2 false .ix (.var 2) (.op2 false .add (.var 3) (.var 4))) (.cons (.call 20 (.cons (.op2 false .ix (.var 0) (.var 3)) (.cons (.call 22 (.cons (.op2 false .ix (.var 1) (.var 4)) (.cons (.var 3) .nil))) .nil))) .nil))))
    .nil))
   .nil))
  (.cons (.ret (.call 23 (.cons (.var 2) .nil)))
  .nil))))⟩
def df24 : DF := ⟨"_law_omul", ⟨("_law_omul", none), "_law_omul", "_law_omul", defArgs (top 32), defBody (top 32), defScope (top 32), [], []⟩, ["one", "other"], ["one", "other", "found", "i", "j"], fn24⟩
theorem bd24 : BindOk df24 := fun _ _ _ _ _ _ us hl => match us, hl with | [_, _], _ => rfl
def fn25 : Fn := ⟨1, 17,
  (.cons (.asg 1 (.lst true (.cons (.call 10 (.cons (.var 0) (.cons (.lit (.int 0)) (.cons (.lit (.int 63)) .nil)))) (.cons (.lit (.int 0)) .nil))))
  (.cons (.asg 2 (.op2 false .add (.lit (.int 1)) (.call 11 (.cons (.var 1) (.cons (.lit (.int 4)) .nil)))))
  (.cons (.asg 3 (.call 15 (.cons (.call 12 (.cons (.var 1) (.cons (.lst false (.cons (.op2 false .sub (.lit (.int 0)) (.lit (.int 2))) (.cons (.op2 false .sub (.lit (.int 0)) (.lit (.int 1))) (.cons (.lit (.int 1)) (.cons (.lit (.int 2)) (.cons (.lit (.int 3)) .nil)))))) .nil))) (.cons (.op2 false .add (.lit (.int 1)) (.call 11 (.cons (.var 1) (.cons (.lit (.int 2)) .nil)))) .nil))))
  (.cons (.asg 4 (.blt false .tuple (.cons (.comp false [14] (.v 14) (.rng (.cons (.var 2) .nil)) (.lit (.bool true)) (.tup (.cons (.op2 false .sub (.call 11 (.cons (.var 1) (.cons (.lit (.int 3)) .nil))) (.lit (.int 1))) (.cons (.lit (.int 1)) .nil)))) .nil)))
  (.cons (.asg 5 (.op2 false .add (.op2 false .add (.tup (.cons (.tup (.cons (.tup (.cons (.op2 false .sub (.lit (.int 0)) (.op2 false .ix (.var 3) (.lit (.int 0)))) (.cons (.op2 false .ix (.var 3) (.lit (.int 1))) .nil))) .nil)) .nil)) (.op2 false .mul (.tup (.cons (.tup .nil) .nil)) (.op2 false .sub (.var 2) (.lit (.int 1))))) (.tup (.cons (.tup (.cons (.tup (.cons (.lit (.int 1)) (.cons (.lit (.int 1)) .nil))) .nil)) .nil))))
  (.cons (.asg 6 (.tup (.cons (.lit (.str "seq")) (.cons (.var 5) (.cons (.var 4) .nil)))))
  (.cons (.asg 7 (.lst true .nil))
  (.cons (.fr (.v 8) (.rng (.cons (.lit (.int 1)) (.cons (.lit (.int 13)) .nil)))
   (.cons (.fr (.v 12) (.rng (.cons (.var 8) .nil))
    (.cons (.asg 13 (.comp false [15, 16] (.tv [15, 16]) (.seq (.var 7)) (.and (.cons (.op2 false .eq (.op2 false .mod (.blt false .int (.cons (.var 8) .nil)) (.var 15)) (.lit (.int 0))) (.cons (.op2 false .eq (.op2 false .mod (.blt false .int (.cons (.var 12) .nil)) (.var 15)) (.var 16)) .nil))) (.lit (.int 1))))
    (.cons (.ife (.and (.cons (.op2 false .eq (.var 13) (.lst false .nil)) (.cons (.op2 false .eq (.comp false [14] (.v 14) (.rng (.cons (.var 2) .nil)) (.op2 false .ne (.op2 false .ix (.op2 false .ix (.var 4) (.op2 false .mod (.blt false .int (.cons (.op2 false .add (.op2 false .mul (.var 8) (.var 14)) (.var 12)) .nil)) (.var 2))) (.lit (.int 0))) (.lit (.int 0))) (.var 14)) (.lst false .nil)) .nil)))
     (.cons (.expr (.meth .append (.var 7) (.cons (.tup (.cons (.var 8) (.cons (.var 12) .nil))) .nil)))
     .nil)
     .nil)
    .nil)))
   .nil))
  (.cons (.ife (.not (.call 13 (.cons (.call 8 (.cons (.var 6) .nil)) (.cons (.blt false .tuple (.cons (.var 7) .nil)) .nil))))
   (.cons (.ret (.lit (.bool false)))
   .nil)
   .nil)
  (.cons (.asg 9 (.ife (.op2 false .lt (.var 2) (.lit (.int 4))) (.call 24 (.cons (.tup (.cons (.tup (.cons (.tup (.cons (.lit (.int 5)) (.cons (.lit (.int 1)) .nil))) .nil)) (.cons (.tup (.cons (.tup (.cons (.lit (.int 1)) (.cons (.lit (.int 1)) .nil))) .nil)) .nil))) (.cons (.var 5) .nil))) (.var 5)))
  (.cons (.asg 10 (.blt true .list (.cons (.var 4) .nil)))
  (.cons (.whl (.op2 false .lt (.blt false .len (.cons (.var 10) .nil)) (.op2 false .sub (.blt false .len (.cons (.var 9) .nil)) (.lit (.int 1))))
   (.cons (.expr (.meth .append (.var 10) (.cons (.call 17 (.cons (.var 3) (.cons (.op2 false .ix (.var 10) (.op2 false .sub (.blt false .len (.cons (.var 10) .nil)) (.var 2))) .nil))) .nil)))
   .nil))
  (.cons (.ife (.not (.call 13 (.cons (.call 8 (.cons (.tup (.cons (.lit (.str "seq")) (.cons (.var 9) (.cons (.blt false .tuple (.cons (.var 10) .nil)) .nil)))) .nil)) (.cons (.blt false .tuple (.cons (.var 7) .nil)) .nil))))
   (.cons (.ret (.lit (.bool false)))
   .nil)
   .nil)
  (.cons (.asg 11 (.tup (.cons (.lit (.str "seq")) (.cons (.tup (.cons (.tup (.cons (.tup (.cons (.op2 false .sub (.lit (.int 0)) (.op2 false .ix (.var 3) (.lit (.int 0)))) (.cons (.op2 false .ix (.var 3) (.lit (.int 1))) .nil))) .nil)) (.cons (.tup (.cons (.tup (.cons (.lit (.int 1)) (.cons (.lit (.int 1)) .nil))) .nil)) .nil))) (.cons (.tup (.cons (.tup (.cons (.lit (.int 0)) (.cons (.lit (.int 1)) .nil))) .nil)) .nil)))))
  (.cons (.ret (.call 13 (.cons (.tup (.cons (.call 8 (.cons (.var 11) .nil)) (.cons (.call 8 (.cons (.tup (.cons (.lit (.str "seq")) (.cons (.tup (.cons (.tup (.cons (.tup (.cons (.lit (.int 1)) (.cons (.lit (.int 1)) .nil))) .nil)) .nil)) (.cons (.tup .nil) .nil)))) .nil)) .nil))) (.cons (.tup (.cons (.tup (.cons (.tup (.cons (.lit (.int 1)) (.cons (.lit (.int 0)) .nil))) .nil)) (.cons (.tup (.cons (.tup (.cons (.lit (.int 1)) (.cons (.lit (.int 0)) .nil))) .nil)) .nil))) .nil))))
  .nil)))))))))))))))⟩
def df25 : DF := ⟨"law", ⟨("law", none), "law", "law", defArgs (top 33), defBody (top 33), defScope (top 33), [], []⟩, ["script"], ["script", "box", "k", "x", "row", "op", "seq", "due", "step", "wide", "first", "lone", "j", "known", "n", "other", "its"], fn25⟩
theorem bd25 : BindOk df25 := fun _ _ _ _ _ _ us hl => match us, hl with | [_], _ => rfl
def T : PG0 where
  defs := [df0, df1, df2, df3, df4, df5, df6, df7, df8, df9, df10, df11, df12, df13, df14, df15, df16, df17, df18, df19, df20, df21, df22, df23, df24, df25]
  gs := [("NOUGHT_polys", (.tuple [(.int 0), (.int 1)])), ("NOUGHT_wnames", (.tuple [(.int 0), (.int 1)]))]
  im := [.gcd]
theorem ab : AllB T.defs := (.cons bd0 (.cons bd1 (.cons bd2 (.cons bd3 (.cons bd4 (.cons bd5 (.cons bd6 (.cons bd7 (.cons bd8 (.cons bd9 (.cons bd10 (.cons bd11 (.cons bd12 (.cons bd13 (.cons bd14 (.cons bd15 (.cons bd16 (.cons bd17 (.cons bd18 (.cons bd19 (.cons bd20 (.cons bd21 (.cons bd22 (.cons bd23 (.cons bd24 (.cons bd25 .nil))))))))))))))))))))))))))
theorem ok0 : df0.ok T = true := by decide +kernel
theorem ok1 : df1.ok T = true := by decide +kernel
theorem ok2 : df2.ok T = true := by decide +kernel
theorem ok3 : df3.ok T = true := by decide +kernel
theorem ok4 : df4.ok T = true := by decide +kernel
theorem ok5 : df5.ok T = true := by decide +kernel
theorem ok6 : df6.ok T = true := by decide +kernel
theorem ok7 : df7.ok T = true := by decide +kernel
theorem ok8 : df8.ok T = true := by decide +kernel
theorem ok9 : df9.ok T = true := by decide +kernel
theorem ok10 : df10.ok T = true := by decide +kernel
theorem ok11 : df11.ok T = true := by decide +kernel
theorem ok12 : df12.ok T = true := by decide +kernel
theorem ok13 : df13.ok T = true := by decide +kernel
theorem ok14 : df14.ok T = true := by decide +kernel
theorem ok15 : df15.ok T = true := by decide +kernel
theorem ok16 : df16.ok T = true := by decide +kernel
theorem ok17 : df17.ok T = true := by decide +kernel
theorem ok18 : df18.ok T = true := by decide +kernel
theorem ok19 : df19.ok T = true := by decide +kernel
theorem ok20 : df20.ok T = true := by decide +kernel
theorem ok21 : df21.ok T = true := by decide +kernel
theorem ok22 : df22.ok T = true := by decide +kernel
theorem ok23 : df23.ok T = true := by decide +kernel
theorem ok24 : df24.ok T = true := by decide +kernel
theorem ok25 : df25.ok T = true := by decide +kernel
theorem okAll : T.defs.all (DF.ok T) = true := by
  simp only [T, List.all_cons, List.all_nil, Bool.and_true, Bool.and_eq_true]
  exact ⟨ok0, ok1, ok2, ok3, ok4, ok5, ok6, ok7, ok8, ok9, ok10, ok11, ok12, ok13, ok14, ok15, ok16, ok17, ok18, ok19, ok20, ok21, ok22, ok23, ok24, ok25⟩
def loose0 : List PySem.Str := ["ratio", "plus", "minus", "product", "quotient", "NOUGHT_polys", "value", "next_value", "values", "NOUGHT_wnames", "nought_rows", "_law_cell", "_law_digits", "_law_draw", "_law_pick", "_law_like", "_law_gcd", "_law_ratio", "_law_plus", "_law_product", "_law_trim", "_law_padd", "_law_pmul", "_law_put", "_law_moved", "_law_top", "_law_omul"]
def loose : List PySem.Str := loose0
abbrev R : PySem.W.OpenRow := PySem.W.OpenLaw.row PySem.Challenge.rw_termstead_k35_noughts_in_rows
abbrev vw : Program := PySem.W.view R.prog [0, 33]
abbrev hk : PySem.W.Hook := hookV 4 T
def ob (s : PySem.W.SharedT) : AlV := obsVG 4 T (HandSHeadRun.getT s)
theorem ob_eq (s : PySem.W.SharedT) : ob s = hk.obs s.abs := obsVG_eq (HandSHeadRun.getT_eq s)
theorem run (w : World) : HandSHeadRun.RunEqI R vw hk ob 6000 loose w := by
  unfold HandSHeadRun.RunEqI
  kernel_rfl
abbrev lawI : Nat := 25

end EVL

/-! K35a: facts of k35; the sequence that comes round. -/
namespace EVL
open PySem EV
abbrev wf : Nat := 2 ^ 8500
abbrev kk : Nat := 40
abbrev F := T.fns
instance : FA F 0 pRatio := ⟨rfl⟩
instance : FA F 1 (pPlus 0) := ⟨rfl⟩
instance : FA F 2 (pMinus 0) := ⟨rfl⟩
instance : FA F 3 (pProd 0) := ⟨rfl⟩
instance : FA F 4 (pQuot 0) := ⟨rfl⟩
instance : FA F 5 (pValE (.glb 0) 1 3) := ⟨rfl⟩
instance : FA F 6 (pNext 0 1 3 5 2 4) := ⟨rfl⟩
instance : FA F 7 (pValues 6) := ⟨rfl⟩
instance : FA F 8 (pRows 7 1) := ⟨rfl⟩
instance : FA F 9 lCell := ⟨rfl⟩
instance : FA F 10 (lDigits 9) := ⟨rfl⟩
instance : FA F 11 lDraw := ⟨rfl⟩
instance : FA F 13 (lLike 13) := ⟨rfl⟩
instance : FA F 14 lGcd := ⟨rfl⟩
instance : FA F 15 (lRatio 14) := ⟨rfl⟩
instance : FA F 16 (pPlus 15) := ⟨rfl⟩
instance : FA F 17 (pProd 15) := ⟨rfl⟩
instance : FA F 18 lTrim := ⟨rfl⟩
instance : FA F 19 (lPadd 18 16) := ⟨rfl⟩
instance : FA F 20 (lMul 18 16 17) := ⟨rfl⟩
instance : FA F 21 (lPut 19 20) := ⟨rfl⟩
instance : FA F 22 (lMoved 21) := ⟨rfl⟩
instance : FA F 23 oTopL := ⟨rfl⟩
instance : FA F 24 (lOMul 19 20 22 23) := ⟨rfl⟩
instance : GA T.G 0 (pr 0 1) := ⟨rfl⟩
instance : GA T.G 1 (pr 0 1) := ⟨rfl⟩
instance : MK F T.G wf 0 8500 := ⟨fun k => makes_p (k := k + 1) FA.h (by decide)⟩
instance : MK F T.G wf 15 8500 := ⟨fun k => makes_l FA.h FA.h (by decide) (Nat.le_refl _)⟩
instance : WF wf := ⟨Nat.le_trans (by decide : 1000000 ≤ 2 ^ 20) (Nat.pow_le_pow_right (by decide) (by decide))⟩
abbrev cf := callF F T.G wf (31 + 8)
def nth : Nat → Ss → S
  | 0, .cons s _ => s
  | n + 1, .cons _ r => nth n r
  | _, .nil => .pass
/-- x^(n div k) times the n mod k-th of rr -/
def Vx (x : Rat) (rr : List Rat) (k n : Nat) : Rat := pw x (n / k) * vat rr (n % k)
/-- S^k less x -/
abbrev opx (x : Rat) (k : Nat) : List (List Rat) := [-x] :: (List.replicate (k - 1) [] ++ [[1]])
section
variable {x : Rat} {rr : List Rat} {k : Nat}
theorem Vx_step (hk : 1 ≤ k) (n : Nat) : Vx x rr k (n + k) = x * Vx x rr k n := by
  unfold Vx
  rw [Nat.add_div_right n (by omega), Nat.add_mod_right]
  show x * pw x (n / k) * vat rr (n % k) = _
  grind
theorem pw_ne (h : x ≠ 0) : ∀ n : Nat, pw x n ≠ 0
  | 0 => by show (1 : Rat) ≠ 0; decide
  | n + 1 => fun h0 => by
    rcases Rat.mul_eq_zero.mp h0 with h1 | h1
    · exact h h1
    · exact pw_ne h n h1
theorem Vx_zero (h : x ≠ 0) (n : Nat) : Vx x rr k n = 0 ↔ vat rr (n % k) = 0 := by
  unfold Vx
  constructor
  · intro h0
    rcases Rat.mul_eq_zero.mp h0 with h1 | h1
    · exact absurd h1 (pw_ne h _)
    · exact h1
  · intro h0
    rw [h0]
    grind
theorem opx_len (hk : 1 ≤ k) : (opx x k).length = k + 1 := by
  simp
  omega
theorem co_opx (hk : 1 ≤ k) (i : Nat) : co (opx x k) (i + 1) = if i + 1 = k then [1] else [] := by
  show co (List.replicate (k - 1) [] ++ [[1]]) i = _
  by_cases h : i + 1 = k
  · rw [if_pos h]
    have : (List.replicate (k - 1) ([] : List Rat) ++ [[1]])[i]? = some [1] := by
      rw [List.getElem?_append_right (by rw [List.length_replicate]; omega), List.length_replicate, show i - (k - 1) = 0 by omega]
      rfl
    exact co_at this
  · rw [if_neg h]
    by_cases h2 : i < k - 1
    · have : (List.replicate (k - 1) ([] : List Rat) ++ [[1]])[i]? = some [] := by
        rw [List.getElem?_append_left (by rw [List.length_replicate]; exact h2), List.getElem?_replicate, if_pos h2]
      exact co_at this
    · exact co_out (by rw [List.length_append, List.length_replicate]; show k - 1 + 1 ≤ i; omega)
theorem sw_opx (hk : 1 ≤ k) (w : Nat → Rat) (y : Rat) : sw (opx x k) w y = w k - x * w 0 := by
  show sumN _ (opx x k).length = _
  rw [opx_len hk, sumN_head, sumN_oneB (k := k - 1) _ (by omega) fun i hi hn => by
    rw [co_opx hk, if_neg (by omega), ev_nil]
    grind]
  rw [co_opx hk, if_pos (by omega), show k - 1 + 1 = k by omega]
  show (-x + y * 0) * w 0 + (1 + y * 0) * w k = _
  grind
theorem opx_ot (hk : 1 ≤ k) : OT (opx x k) := fun t ht => by
  have : (opx x k).getLast? = some [1] := by
    rw [List.getLast?_eq_getElem?, opx_len hk]
    show ([-x] :: (List.replicate (k - 1) [] ++ [[1]]))[k]? = _
    rw [show k = (k - 1) + 1 by omega, List.getElem?_cons_succ, show k - 1 + 1 - 1 = k - 1 by omega, List.getElem?_append_right (by rw [List.length_replicate]; exact Nat.le_refl _), List.length_replicate, Nat.sub_self]
    rfl
  rw [this] at ht
  cases ht
  exact fun h => by cases h
theorem opx_rw (hx : Qb 2 2 1 x) (h0 : x ≠ 0) : Rws 2 2 1 1 (opx x k) := fun t ht => by
  rcases List.mem_cons.mp ht with rfl | ht
  · refine ⟨fun q h => ?_, fun q h => ?_, Nat.le_refl _⟩
    · injection h with h
      rw [← h]
      show -x ≠ 0
      grind
    · rw [List.mem_singleton] at h
      subst h
      exact hx.neg
  · rcases List.mem_append.mp ht with ht | ht
    · rw [(List.mem_replicate.mp ht).2]
      exact rw_nil
    · rw [List.mem_singleton] at ht
      subst ht
      exact (rw_one (v := 1) (L := 0))
/-- what kills the values, tells the next one -/
theorem nxt_kill {as : List (List Rat)} {R n : Nat} {V : Nat → Rat} (hl : as.length = R + 1) (h : sw as (fun i => V (n + i)) (n : Rat) = 0) (h0 : ev (co as R) (n : Rat) ≠ 0) : V (n + R) = nxt as R V n := by
  have e : sw as (fun i => V (n + i)) (n : Rat) = sumN (fun i => ev (co as i) (n : Rat) * V (n + i)) R + ev (co as R) (n : Rat) * V (n + R) := by
    show sumN _ as.length = _
    rw [hl]
    rfl
  rw [h] at e
  show V (n + R) = (0 - sumN (fun i => ev (co as i) (n : Rat) * V (n + i)) R) / ev (co as R) (n : Rat)
  have hi := Rat.mul_inv_cancel _ h0
  rw [Rat.div_def]
  generalize sumN (fun i => ev (co as i) (n : Rat) * V (n + i)) R = s at *
  generalize ev (co as R) (n : Rat) = c at *
  generalize V (n + R) = u at *
  generalize c⁻¹ = d at *
  have : (0 - s) * d = u * (c * d) := by grind
  rw [this, hi]
  grind
theorem pw_q (hx : Qb 2 2 1 x) : ∀ n : Nat, Qb 2 (2 * n + 1) n (pw x n)
  | 0 => qb_one (v := 0)
  | n + 1 => by
    have := hx.mul (by decide) (pw_q hx n)
    exact this.mono (by omega) (by omega)
theorem Vx_q (hx : Qb 2 2 1 x) (hr : Qbs 2 1 0 rr) {n : Nat} (hn : n < 84) : Qb 2 170 84 (Vx x rr k n) := by
  have h1 : n / k ≤ n := Nat.div_le_self n k
  have := (pw_q hx (n / k)).mul (by decide) (vat_q hr (n % k))
  exact this.mono (by omega) (by omega)
theorem Vx_first (hr : rr.length = k) : vl' (Vx x rr k) k = rr := by
  refine List.ext_getElem? fun i => ?_
  by_cases hi : i < k
  · rw [vl_at hi]
    have h := List.getElem?_eq_getElem (show i < rr.length by omega)
    rw [h]
    unfold Vx
    rw [Nat.div_eq_of_lt hi, Nat.mod_eq_of_lt hi, vat_at h]
    show some (1 * _) = _
    congr 1
    grind
  · rw [List.getElem?_eq_none (by rw [vl_len]; omega), List.getElem?_eq_none (by omega)]
end
end EVL

/-! K35b: what the law makes due. -/
namespace EVL
open PySem EV
theorem eq_nilG {xs : List PyData} (h : PyData.canLayAll0 xs = true) : prim2 .eq (.list xs) (.list []) = some (.bool xs.isEmpty) := by
  have h1 : shEq (.list xs) (.list []) = true := by
    have h2 : PyData.canLay0 (.list xs) = true := by rw [PyData.canLay0]; exact h
    have h3 : PyData.canLay0 (.list []) = true := by decide +kernel
    have h4 : min (PyData.list xs).depth (PyData.list []).depth ≤ 64 := Nat.le_trans (Nat.min_le_right _ _) (by decide +kernel)
    unfold shEq
    rw [h2, h3, decide_eq_true h4]; rfl
  show (peq (.list xs) (.list [])).map PyData.bool = _
  unfold peq
  rw [if_pos h1]
  cases xs <;> simp [PyData.eqv, PyData.eqvAll]
theorem lay_ints : ∀ (ns : List Int), PyData.canLayAll0 (ns.map PyData.int) = true
  | [] => rfl
  | n :: ns => by
    show PyData.canLayAll0 (PyData.int n :: ns.map PyData.int) = true
    rw [PyData.canLayAll0, lay_ints ns]
    rfl
/-- the state of the law's loops -/
abbrev dR (s x3 x5 x6 x8 x12 x13 : Option W) (rr : List Rat) (k : Nat) : EV.Loc := [s, some (.m 0), some (.d (.int (k : Nat))), x3, some (.d (encP rr)), x5, x6, some (.m 1), x8, none, none, none, x12, x13, none, none, none]
abbrev duK : E := .comp false [15, 16] (.tv [15, 16]) (.seq (.var 7)) (.and (.cons (.op2 false .eq (.op2 false .mod (.blt false .int (.cons (.var 8) .nil)) (.var 15)) (.lit (.int 0))) (.cons (.op2 false .eq (.op2 false .mod (.blt false .int (.cons (.var 12) .nil)) (.var 15)) (.var 16)) .nil))) (.lit (.int 1))
abbrev duC : E := .op2 false .ne (.op2 false .ix (.op2 false .ix (.var 4) (.op2 false .mod (.blt false .int (.cons (.op2 false .add (.op2 false .mul (.var 8) (.var 14)) (.var 12)) .nil)) (.var 2))) (.lit (.int 0))) (.lit (.int 0))
abbrev duZ : E := .comp false [14] (.v 14) (.rng (.cons (.var 2) .nil)) duC (.var 14)
abbrev duB : Ss :=
    (.cons (.asg 13 duK)
    (.cons (.ife (.and (.cons (.op2 false .eq (.var 13) (.lst false .nil)) (.cons (.op2 false .eq duZ (.lst false .nil)) .nil)))
     (.cons (.expr (.meth .append (.var 7) (.cons (.tup (.cons (.var 8) (.cons (.var 12) .nil))) .nil)))
     .nil)
     .nil)
    .nil))
/-- the first k places are nought -/
def Zr (rr : List Rat) (k s j : Nat) : Bool := (List.range k).all fun n => decide (vat rr ((s * n + j) % k) = 0)
section
variable {s x3 x5 x6 x8 x12 x13 : Option W} {rr : List Rat} {k st j : Nat} {ds : List Int} {u : Nat} {t : List (Nat × Nat)}
abbrev dM (ds : List Int) (u : Nat) (t : List (Nat × Nat)) : Mem := [bx ds u, .lst (enprs t)]
theorem e_intN {ρ : EV.Loc} {M M1 : Mem} {e : E} {n : Nat} (h : evalE cf T.G wf e ρ M = some (.d (.int (n : Nat)), M1)) : evalE cf T.G wf (.blt false .int (.cons e .nil)) ρ M = some (.d (.int (n : Nat)), M1) := by
  rw [evalE, es_cons h es_nil]
  simp only [db_int, derefs_cons, derefs_nil, deref_d, q_int, give_f]
theorem duK_eq (ht : ∀ q ∈ t, 1 ≤ q.1) (hl : t.length < 1000) : ∃ ns : List Int, evalE cf T.G wf duK (dR s x3 x5 x6 (some (.d (.int (st : Nat)))) (some (.d (.int (j : Nat)))) x13 rr k) (dM ds u t) = some (.d (.list (ns.map .int)), dM ds u t) ∧ (ns.map PyData.int).isEmpty = !known t st j := by
  have hz := EV.sizeLine_eq
  let ρ := dR s x3 x5 x6 (some (.d (.int (st : Nat)))) (some (.d (.int (j : Nat)))) x13 rr k
  let M := dM ds u t
  let g : Nat × Nat → List PyData := fun q => if (decide (st % q.1 = 0) && decide (j % q.1 = q.2)) = true then [.int 1] else []
  have hc := comp_pairs (cf := cf) (G := T.G) (wf := wf) (M := M) (ρ := ρ) (own := [15, 16]) (tg := .tv [15, 16]) (c := .and (.cons (.op2 false .eq (.op2 false .mod (.blt false .int (.cons (.var 8) .nil)) (.var 15)) (.lit (.int 0))) (.cons (.op2 false .eq (.op2 false .mod (.blt false .int (.cons (.var 12) .nil)) (.var 15)) (.var 16)) .nil))) (elt := .lit (.int 1)) (e := .var 7) (n := 1) (g := g) (e_var rfl) rfl hl (fun q hq acc ha => by
    let ρ2 : EV.Loc := [s, some (.m 0), some (.d (.int (k : Nat))), x3, some (.d (encP rr)), x5, x6, some (.m 1), some (.d (.int (st : Nat))), none, none, none, some (.d (.int (j : Nat))), x13, none, some (.d (.int (q.1 : Nat))), some (.d (.int (q.2 : Nat)))]
    have h7 := ht q hq
    have v8 : evalE cf T.G wf (.var 8) ρ2 M = some (.d (.int (st : Nat)), M) := e_var rfl
    have v12 : evalE cf T.G wf (.var 12) ρ2 M = some (.d (.int (j : Nat)), M) := e_var rfl
    have e1 := e_eqN (n := 0) (e_modN (b := .var 15) (M2 := M) (n := q.1) (e_intN v8) (e_var rfl) h7) (b := .lit (.int 0)) (M2 := M) e_lit
    have e2 := e_eqN (n := q.2) (e_modN (b := .var 15) (M2 := M) (n := q.1) (e_intN v12) (e_var rfl) h7) (b := .var 16) (M2 := M) (e_var rfl)
    have e3 := t_bool (e_and2 e1 e2)
    cases hc : (decide (st % q.1 = 0) && decide (j % q.1 = q.2)) with
    | true =>
      rw [hc] at e3
      have hg : g q = [.int 1] := if_pos hc
      rw [hg]
      exact tc_go (ρ2 := ρ2) rfl e3 e_lit (by rw [hz]; omega)
    | false =>
      rw [hc] at e3
      have hg : g q = [] := if_neg (by rw [hc]; decide)
      rw [hg, List.append_nil]
      exact tc_no (ρ2 := ρ2) rfl e3) (fun q => by
    show (if (decide (st % q.1 = 0) && decide (j % q.1 = q.2)) = true then [PyData.int 1] else []).length ≤ 1
    split
    · exact Nat.le_refl _
    · exact Nat.zero_le _)
  have hns : ∀ t : List (Nat × Nat), ∃ ns : List Int, t.flatMap g = ns.map .int ∧ (ns.map PyData.int).isEmpty = !known t st j := fun t => by
    induction t with
    | nil => exact ⟨[], rfl, rfl⟩
    | cons q t ih =>
      obtain ⟨ns, h1, h2⟩ := ih
      cases hc : (decide (st % q.1 = 0) && decide (j % q.1 = q.2)) with
      | true =>
        have hg : g q = [.int 1] := if_pos hc
        refine ⟨1 :: ns, ?_, ?_⟩
        · show g q ++ t.flatMap g = _
          rw [hg, h1]
          rfl
        · show false = !(List.any (q :: t) _)
          rw [List.any_cons, hc]
          rfl
      | false =>
        have hg : g q = [] := if_neg (by rw [hc]; decide)
        refine ⟨ns, ?_, ?_⟩
        · show g q ++ t.flatMap g = _
          rw [hg, h1]
          rfl
        · rw [h2]
          show _ = !(List.any (q :: t) _)
          rw [List.any_cons, hc]
          rfl
  obtain ⟨ns, h1, h2⟩ := hns t
  exact ⟨ns, by rw [← h1]; exact hc, h2⟩
theorem duZ_eq (hk : 1 ≤ k) (hk2 : k ≤ 4) (hr : rr.length = k) (hs : st ≤ 12) (x13 : Option W) : ∃ ns : List Int, evalE cf T.G wf duZ (dR s x3 x5 x6 (some (.d (.int (st : Nat)))) (some (.d (.int (j : Nat)))) x13 rr k) (dM ds u t) = some (.d (.list (ns.map .int)), dM ds u t) ∧ (ns.map PyData.int).isEmpty = Zr rr k st j := by
  have hz := EV.sizeLine_eq
  let ρ := dR s x3 x5 x6 (some (.d (.int (st : Nat)))) (some (.d (.int (j : Nat)))) x13 rr k
  let M := dM ds u t
  have hrg := x_rngE (cf := cf) (G := T.G) (wf := wf) (ρ := ρ) (M := M) (M1 := M) (e := .var 2) (n := k) (e_var rfl) (by omega)
  obtain ⟨acc, M', e, ns, rfl, hM, hn, hE⟩ := compL_inv (f := tc cf T.G wf [14] (.v 14) duC (.var 14) ρ) (fun n acc M' => ∃ ns : List Int, acc = ns.map .int ∧ M' = M ∧ ns.length ≤ n ∧ (ns.map PyData.int).isEmpty = (List.range n).all fun n => decide (vat rr ((st * n + j) % k) = 0)) (irng 0 1 k) 0 [] M ⟨[], rfl, rfl, Nat.le_refl _, rfl⟩ (fun n x acc M' hx hI => by
    obtain ⟨rfl, hn⟩ := irng_at hx
    obtain ⟨ns, rfl, rfl, h1, h2⟩ := hI
    let ρ2 : EV.Loc := [s, some (.m 0), some (.d (.int (k : Nat))), x3, some (.d (encP rr)), x5, x6, some (.m 1), some (.d (.int (st : Nat))), none, none, none, some (.d (.int (j : Nat))), x13, some (.d (.int (n : Nat))), none, none]
    have e1 : evalE cf T.G wf (.op2 false .mul (.var 8) (.var 14)) ρ2 M = some (.d (.int ((st * n : Nat) : Int)), M) := by
      rw [Int.natCast_mul]
      exact e_mul (i := (st : Int)) (j := (n : Int)) (M1 := M) (e_var rfl) (e_var rfl) (okR (by omega))
    have e2 : evalE cf T.G wf (.op2 false .add (.op2 false .mul (.var 8) (.var 14)) (.var 12)) ρ2 M = some (.d (.int ((st * n + j : Nat) : Int)), M) := by
      rw [Int.natCast_add]
      exact x_opG e1 (y := .int (j : Nat)) (M2 := M) (e_var rfl) p_add (by decide)
    have e3 := e_modN (b := .var 2) (M2 := M) (n := k) (e_intN e2) (e_var rfl) hk
    have hlt : (st * n + j) % k < rr.length := by rw [hr]; exact Nat.mod_lt _ (by omega)
    have v4 : evalE cf T.G wf (.var 4) ρ2 M = some (.d (encP rr), M) := e_var rfl
    have e4 := x_ixV v4 e3 hlt
    have e5 : evalE cf T.G wf (.op2 false .ix (.op2 false .ix (.var 4) (.op2 false .mod (.blt false .int (.cons (.op2 false .add (.op2 false .mul (.var 8) (.var 14)) (.var 12)) .nil)) (.var 2))) (.lit (.int 0))) ρ2 M = some (.d (.int (vat rr ((st * n + j) % k)).num), M) := x_ixG e4 e_lit rfl
    have e6 := x_opG e5 (y := .int 0) (M2 := M) e_lit (ne_of_eq p_eqI) (p := .ne) (by decide)
    rw [num_zero] at e6
    have e7 := t_bool e6
    have hs2 : ((List.range (0 + n + 1)).all fun n => decide (vat rr ((st * n + j) % k) = 0)) = (((List.range (0 + n)).all fun n => decide (vat rr ((st * n + j) % k) = 0)) && decide (vat rr ((st * n + j) % k) = 0)) := by
      rw [Nat.zero_add, List.range_succ, List.all_append]
      simp only [List.all_cons, List.all_nil, Bool.and_true]
    by_cases h0 : vat rr ((st * n + j) % k) = 0
    · rw [decide_eq_true h0] at e7
      refine ⟨ns.map .int, M, tc_no (ρ2 := ρ2) rfl e7, ns, rfl, rfl, by omega, ?_⟩
      rw [hs2, h2, decide_eq_true h0, Bool.and_true]
    · rw [decide_eq_false h0] at e7
      refine ⟨(ns ++ [(n : Int)]).map .int, M, ?_, ns ++ [(n : Int)], rfl, rfl, by rw [List.length_append]; show ns.length + 1 ≤ _; omega, ?_⟩
      · rw [List.map_append]
        exact tc_go (ρ2 := ρ2) (y := .int (n : Nat)) rfl e7 (e_var rfl) (by rw [hz, List.length_map]; omega)
      · rw [hs2, decide_eq_false h0, Bool.and_false]
        cases ns <;> rfl)
  rw [Nat.zero_add, irng_length] at hE
  subst hM
  exact ⟨ns, x_comp hrg e rfl, hE⟩
theorem du_step (hk : 1 ≤ k) (hk2 : k ≤ 4) (hr : rr.length = k) (hs : st ≤ 12) (ht : ∀ q ∈ t, 1 ≤ q.1) (hl : t.length < 1000) :
    ∃ y13, evalSs cf T.G wf duB (dR s x3 x5 x6 (some (.d (.int (st : Nat)))) (some (.d (.int (j : Nat)))) x13 rr k) (dM ds u t) = some (.nx (dR s x3 x5 x6 (some (.d (.int (st : Nat)))) (some (.d (.int (j : Nat)))) y13 rr k) (dM ds u (stp (Zr rr k) st j t))) := by
  have hz := EV.sizeLine_eq
  obtain ⟨ns, a1, a2⟩ := duK_eq (s := s) (x3 := x3) (x5 := x5) (x6 := x6) (x13 := x13) (rr := rr) (k := k) (st := st) (j := j) (ds := ds) (u := u) ht hl
  let y13 : Option W := some (.d (.list (ns.map .int)))
  let ρ1 := dR s x3 x5 x6 (some (.d (.int (st : Nat)))) (some (.d (.int (j : Nat)))) y13 rr k
  let M := dM ds u t
  obtain ⟨ms, b1, b2⟩ := duZ_eq (s := s) (x3 := x3) (x5 := x5) (x6 := x6) (rr := rr) (st := st) (j := j) (ds := ds) (u := u) (t := t) hk hk2 hr hs y13
  have c1 := x_opG (e_var (cf := cf) (G := T.G) (wf := wf) (ρ := ρ1) (M := M) (i := 13) (w := .d (.list (ns.map .int))) rfl) (y := .list []) (M2 := M) (e_lstF es_nil rfl (Nat.zero_le _)) (eq_nilG (lay_ints ns)) (p := .eq) (by decide)
  have c2 := x_opG b1 (y := .list []) (M2 := M) (e_lstF es_nil rfl (Nat.zero_le _)) (eq_nilG (lay_ints ms)) (p := .eq) (by decide)
  rw [a2] at c1
  rw [b2] at c2
  have c3 := t_bool (e_and2 c1 c2)
  refine ⟨y13, x_cons (ρ' := ρ1) (M' := M) (x_asg a1) ?_⟩
  cases hc : (!known t st j && Zr rr k st j) with
  | true =>
    rw [hc] at c3
    have sa := x_app (cf := cf) (G := T.G) (wf := wf) (ρ := ρ1) (M := M) (n := 1) (xs := enprs t) (a := .var 7) (b := .tup (.cons (.var 8) (.cons (.var 12) .nil))) (x := enpr (st, j)) (e_var rfl) rfl (e_tup (es_cons (w := .d (.int (st : Nat))) (M1 := M) (e_var rfl) (es_cons (w := .d (.int (j : Nat))) (M1 := M) (e_var rfl) es_nil)) rfl (by rw [hz]; show 2 ≤ _; decide)) (by rw [hz, List.length_map]; omega)
    have hset : M.set 1 (.lst (enprs t ++ [enpr (st, j)])) = dM ds u (stp (Zr rr k) st j t) := by
      unfold stp
      rw [if_pos hc]
      show [bx ds u, .lst (enprs t ++ [enpr (st, j)])] = [bx ds u, .lst (enprs (t ++ [(st, j)]))]
      rw [show enprs (t ++ [(st, j)]) = enprs t ++ [enpr (st, j)] from List.map_append]
    rw [hset] at sa
    exact x_cons (x_ifT c3 (x_cons sa (by rw [evalSs]; try rfl))) (by rw [evalSs]; try rfl)
  | false =>
    rw [hc] at c3
    have : stp (Zr rr k) st j t = t := by
      unfold stp
      rw [if_neg (by rw [hc]; decide)]
    rw [this]
    exact x_cons (x_ifF c3) (by rw [evalSs])
theorem row7 (hk : 1 ≤ k) (hk2 : k ≤ 4) (hr : rr.length = k) : ∃ x8 x12 x13, evalS cf T.G wf (nth 7 fn25.body) (dR s x3 x5 x6 none none none rr k) (dM ds u []) = some (.nx (dR s x3 x5 x6 x8 x12 x13 rr k) (dM ds u (out (Zr rr k) 12))) := by
  obtain ⟨ρ', M', e, x8, x12, x13, rfl, hM⟩ := forL_for (f := turnG cf T.G wf (.v 8) (.cons (.fr (.v 12) (.rng (.cons (.var 8) .nil)) duB) .nil)) (xs := irng 1 1 12) (fun n ρ M' => ∃ x8 x12 x13, ρ = dR s x3 x5 x6 x8 x12 x13 rr k ∧ M' = dM ds u (out (Zr rr k) n))
    (fun ρ M' => ∃ x8 x12 x13, ρ = dR s x3 x5 x6 x8 x12 x13 rr k ∧ M' = dM ds u (out (Zr rr k) 12)) (fun n x ρ M' hx hI => by
      obtain ⟨rfl, hn⟩ := irng1_at hx
      obtain ⟨x8, x12, x13, rfl, rfl⟩ := hI
      rw [x_turn]
      have ho : Ok (n * 13) (out (Zr rr k) n) := (out_ok n).resolve_right (by omega)
      obtain ⟨ρ2, M2, f1, y12, y13, rfl, hM2⟩ := forL_for (f := turnG cf T.G wf (.v 12) duB) (xs := irng 0 1 (n + 1)) (fun j ρ M' => ∃ x12 x13, ρ = dR s x3 x5 x6 (some (.d (.int ((n + 1 : Nat) : Int)))) x12 x13 rr k ∧ M' = dM ds u (inn (Zr rr k) (n + 1) j (out (Zr rr k) n)))
        (fun ρ M' => ∃ x12 x13, ρ = dR s x3 x5 x6 (some (.d (.int ((n + 1 : Nat) : Int)))) x12 x13 rr k ∧ M' = dM ds u (inn (Zr rr k) (n + 1) (n + 1) (out (Zr rr k) n))) (fun j x ρ M' hx hI => by
          obtain ⟨rfl, hj⟩ := irng_at hx
          obtain ⟨x12, x13, rfl, rfl⟩ := hI
          rw [x_turn]
          have hi := inn_ok (Z := Zr rr k) (s := n + 1) (by omega) ho j
          obtain ⟨y13, q⟩ := du_step (s := s) (x3 := x3) (x5 := x5) (x6 := x6) (x13 := x13) (ds := ds) (u := u) (st := n + 1) (j := j) hk hk2 hr (by omega) hi.pos (by have := hi.len; omega)
          exact ⟨_, _, .inl ⟨q, some (.d (.int (j : Nat))), y13, rfl, rfl⟩⟩) (fun ρ M' hI => by
          rw [irng_length] at hI
          exact hI) (ρ := dR s x3 x5 x6 (some (.d (.int ((n + 1 : Nat) : Int)))) x12 x13 rr k) (M := dM ds u (out (Zr rr k) n)) ⟨x12, x13, rfl, rfl⟩
      subst hM2
      have rg := x_rngE (cf := cf) (G := T.G) (wf := wf) (ρ := dR s x3 x5 x6 (some (.d (.int ((n + 1 : Nat) : Int)))) x12 x13 rr k) (M := dM ds u (out (Zr rr k) n)) (M1 := dM ds u (out (Zr rr k) n)) (e := .var 8) (n := n + 1) (e_var rfl) (by omega)
      exact ⟨_, _, .inl ⟨x_cons (x_for rg f1) (by rw [evalSs]; try rfl), some (.d (.int ((n + 1 : Nat) : Int))), y12, y13, rfl, rfl⟩⟩) (fun ρ M' hI => by
      rw [irng_length] at hI
      exact hI) (ρ := dR s x3 x5 x6 none none none rr k) (M := dM ds u []) ⟨none, none, none, rfl, rfl⟩
  subst hM
  exact ⟨x8, x12, x13, x_for rng_13 e⟩
/-- the program's test is the law's -/
theorem Zv_eq {x : Rat} (hx : x ≠ 0) (s j : Nat) : Zv (Vx x rr k) k s j = Zr rr k s j := by
  unfold Zv Zr
  congr 1
  funext n
  exact decide_eq_decide.mpr (Vx_zero hx _)
theorem Zv_more {x : Rat} (hx : x ≠ 0) (hk : 1 ≤ k) (s j : Nat) : Zv (Vx x rr k) (k + 1) s j = Zr rr k s j := by
  rw [← Zv_eq (rr := rr) (k := k) hx]
  unfold Zv
  rw [List.range_succ, List.all_append]
  cases h : (List.range k).all fun n => decide (Vx x rr k (s * n + j) = 0) with
  | false => rfl
  | true =>
    have h1 := List.all_eq_true.mp h 0 (List.mem_range.mpr (by omega))
    have h2 : Vx x rr k (s * 0 + j) = 0 := of_decide_eq_true h1
    have h3 : Vx x rr k (s * k + j) = 0 := by
      rw [Vx_zero hx] at h2 ⊢
      rw [Nat.mul_zero, Nat.zero_add] at h2
      rw [Nat.mul_add_mod_self_right]
      exact h2
    simp [h3]
end
end EVL

/-! K35c: the rows of k35; the law. -/
namespace EVL
open PySem EV
/-- an operator of order R that kills V, its head never nought -/
structure Wd (V : Nat → Rat) (wd : List (List Rat)) (R : Nat) : Prop where
  rw : Rws 2 80 1 4 wd
  ln : wd.length = R + 1
  hR : R ≤ 4
  kill : ∀ n : Nat, sw wd (fun i => V (n + i)) (n : Rat) = 0
  hd : ∀ n : Nat, ev (co wd R) (n : Rat) ≠ 0
theorem lk_pairs (t : List (Nat × Nat)) (h : t.length < 1000000) : Lk 2 (.tuple (enprs t)) := .tup (by rw [List.length_map]; exact h) fun j x hj => by
  obtain ⟨q, _, rfl⟩ := List.mem_map.mp (List.mem_of_getElem? hj)
  exact .tup (by show 2 < _; decide) fun j x hj => by
    match j, hj with
    | 0, hj => injection hj with e; rw [← e]; exact .int _
    | 1, hj => injection hj with e; rw [← e]; exact .int _
section
variable {ρ : EV.Loc} {M : Mem} {x : Rat} {rr : List Rat} {k R K u : Nat} {V : Nat → Rat} {wd : List (List Rat)} {ds : List Int} {t : List (Nat × Nat)}
theorem rows_wd (h : Wd V wd R) (hK : R ≤ K) (hK2 : K ≤ 24) (hV : ∀ n, n < 84 → Qb 2 170 84 (V n)) : callF F T.G wf (28 + 11) 8 [.d (.tuple [.str "seq", encO wd, encP (vl' V K)])] M = some (.d (.tuple (enprs (out (Zv V R) 12))), M) := by
  have hR := h.hR
  exact nrows_eq (fs := F) (G := T.G) (wf := wf) (M := M) (k := 28) (i := 8) (b := 7) (T := 12 * (R + 1) + 12) h.rw h.ln hK rfl (by omega) (by omega) (fun j hj => hV j (by omega)) (by omega) (fun n _ => h.hd n) (fun n _ _ => nxt_kill h.ln (h.kill n) (h.hd n)) (by decide) (by decide) (by decide) (by decide) (by
    show 2 * (80 + 4 * (7 + 1) + 170 + R + 4 * (7 + 1) + 2 * (7 + 1) + 80) + 16 * (1 + 84) + 2 < 100000000
    omega)
theorem wd_op (hx : Qb 2 2 1 x) (h0 : x ≠ 0) (hk : 1 ≤ k) (hk2 : k ≤ 4) : Wd (Vx x rr k) (opx x k) k :=
  ⟨(opx_rw hx h0).mono (by decide) (by decide) (by decide), opx_len hk, hk2, fun n => by
    rw [sw_opx hk]
    show Vx x rr k (n + k) - x * Vx x rr k (n + 0) = 0
    rw [Vx_step hk, Nat.add_zero]
    grind, fun n => by
    obtain ⟨j, rfl⟩ : ∃ j, k = j + 1 := ⟨k - 1, by omega⟩
    rw [co_opx hk, if_pos rfl]
    show (1 : Rat) + (n : Rat) * 0 ≠ 0
    grind⟩
theorem wd_zero (wd : List (List Rat)) (R : Nat) (h1 : Rws 2 80 1 4 wd) (h2 : wd.length = R + 1) (h3 : R ≤ 4) (h4 : ∀ n : Nat, ev (co wd R) (n : Rat) ≠ 0) : Wd (fun _ => 0) wd R :=
  ⟨h1, h2, h3, fun n => sumN_zero _ fun i _ => by show _ * (0 : Rat) = 0; grind, h4⟩
abbrev f51 : List (List Rat) := [[5], [1]]
theorem r51 : Rws 2 3 0 1 f51 := fun t ht => by
  simp at ht
  rcases ht with rfl | rfl
  · refine ⟨fun q h => ?_, fun q h => ?_, Nat.le_refl _⟩
    · injection h with h
      rw [← h]; decide
    · rw [List.mem_singleton] at h
      subst h
      exact ⟨by decide, by decide⟩
  · exact (rw_one (v := 2) (L := 0))
theorem o51 : OT f51 := fun t h => by cases h; exact fun h => by cases h
/-- the wider one -/
theorem wd_wide (hx : Qb 2 2 1 x) (h0 : x ≠ 0) (hk : 1 ≤ k) (hk2 : k ≤ 3) {d : List (List Rat)} (h1 : Rws 2 80 1 4 d) (h2 : OT d) (h3 : ∀ w y, sw d w y = sw f51 (fun i => sw (opx x k) (fun j => w (i + j)) (y + (i : Rat))) y) : Wd (Vx x rr k) d (k + 1) := by
  have hl : d.length = k + 1 + 1 := by
    have a1 := prod_ub h1 h2 h3
    have a2 := prod_len r51 (opx_rw (k := k) hx h0) o51 (opx_ot hk) (by decide) (by rw [opx_len hk]; omega) h3
    rw [opx_len hk] at a1 a2
    have : f51.length = 2 := rfl
    omega
  refine ⟨h1, hl, by omega, fun n => ?_, fun n => ?_⟩
  · rw [h3]
    refine sumN_zero _ fun i _ => ?_
    show ev (co f51 i) (n : Rat) * sw (opx x k) (fun j => Vx x rr k (n + (i + j))) ((n : Rat) + (i : Rat)) = 0
    rw [sw_opx hk]
    have e1 : n + (i + k) = (n + i) + k := by omega
    have e2 : n + (i + 0) = n + i := by omega
    rw [e1, e2, Vx_step hk]
    grind
  · rw [← sw_ind, h3]
    show 0 + ev [5] (n : Rat) * sw (opx x k) (fun j => ind (k + 1) (0 + j)) ((n : Rat) + ((0 : Nat) : Rat)) + ev [1] (n : Rat) * sw (opx x k) (fun j => ind (k + 1) (1 + j)) ((n : Rat) + ((1 : Nat) : Rat)) ≠ 0
    rw [sw_opx hk, sw_opx hk]
    show 0 + (5 + (n : Rat) * 0) * ((if 0 + k = k + 1 then (1 : Rat) else 0) - x * (if 0 + 0 = k + 1 then (1 : Rat) else 0)) + (1 + (n : Rat) * 0) * ((if 1 + k = k + 1 then (1 : Rat) else 0) - x * (if 1 + 0 = k + 1 then (1 : Rat) else 0)) ≠ 0
    rw [if_neg (by omega), if_neg (by omega), if_pos (by omega), if_neg (by omega)]
    grind
/-! ### the beginning -/
theorem dr0 {Rr : Mem} (h : ρ[1]? = some (some (.m 0))) (t : Nat) {m : Int} (hm : 0 < m) : ∃ r : Int, 0 ≤ r ∧ r < m ∧ evalE cf T.G wf (.call 11 (.cons (.var 1) (.cons (.lit (.int m)) .nil))) ρ (bx ds t :: Rr) = some (.d (.int r), bx ds (t + 1) :: Rr) :=
  drawX (G := T.G) (wf := wf) (k := 38) (M := bx ds t :: Rr) (b := 0) (ds := ds) (t := t) (e := .lit (.int m)) (m := m) (ρ := ρ) (i := 1) (fs := F) (d := 11) rfl h (by simp) hm e_lit
theorem pick_eq {ns : List Int} (hn : ns.length = 5) (t : Nat) : ∃ v ∈ ns, callF F T.G wf (31 + 8) 12 [.m 0, .d (.list (ns.map .int))] [bx ds t] = some (.d (.int v), [bx ds (t + 1)]) := by
  obtain ⟨r, r0, r1, er⟩ := drawX (G := T.G) (wf := wf) (k := 37) (M := [bx ds t]) (b := 0) (ds := ds) (t := t) (e := .lit (.int 900)) (m := 900) (ρ := [some (.m 0), some (.d (.list (ns.map .int)))]) (i := 0) (fs := F) (d := 11) rfl rfl (by simp) (by decide) e_lit
  obtain ⟨r, rfl⟩ : ∃ j : Nat, r = (j : Int) := ⟨r.toNat, by omega⟩
  have l1 := e_lenL (e_var (cf := callF F T.G wf 38) (G := T.G) (wf := wf) (ρ := [some (.m 0), some (.d (.list (ns.map .int)))]) (M := [bx ds (t + 1)]) (i := 1) (w := .d (.list (ns.map .int))) rfl)
  rw [List.length_map, hn] at l1
  have ei : evalE (callF F T.G wf 38) T.G wf (.blt false .int (.cons (.call 11 (.cons (.var 0) (.cons (.lit (.int 900)) .nil))) .nil)) [some (.m 0), some (.d (.list (ns.map .int)))] [bx ds t] = some (.d (.int (r : Nat)), [bx ds (t + 1)]) := by
    have er' : evalE (callF F T.G wf 38) T.G wf (.call 11 (.cons (.var 0) (.cons (.lit (.int 900)) .nil))) [some (.m 0), some (.d (.list (ns.map .int)))] [bx ds t] = some (.d (.int (r : Nat)), [bx ds (t + 1)]) := er
    rw [evalE, es_cons er' es_nil]
    simp only [db_int, derefs_cons, derefs_nil, deref_d, q_int, give_f]
  have em := e_modN (n := 5) ei l1 (by decide)
  have hlt : r % 5 < ns.length := by rw [hn]; exact Nat.mod_lt _ (by decide)
  have hg := List.getElem?_eq_getElem hlt
  have ex := x_ixL (cf := callF F T.G wf 38) (G := T.G) (wf := wf) (ρ := [some (.m 0), some (.d (.list (ns.map .int)))]) (M := [bx ds t]) (M1 := [bx ds t]) (a := .var 1) (xs := ns.map .int) (e_var rfl) em (x := .int (ns[r % 5])) (by rw [at_n, List.getElem?_map, hg]; rfl)
  refine ⟨ns[r % 5], List.getElem_mem hlt, ?_⟩
  have := x_fin (fs := F) (G := T.G) (wf := wf) (k := 38) (i := 12) (fn := fn12) (ws := [.m 0, .d (.list (ns.map .int))]) (M := [bx ds t]) (x := .int (ns[r % 5])) (M1 := [bx ds (t + 1)]) rfl rfl (x_stop (x_ret ex))
  exact this
theorem e_nx (h3 : ρ[3]? = some (some (.d (enc x)))) : evalE cf T.G wf (.tup (.cons (.tup (.cons (.op2 false .sub (.lit (.int 0)) (.op2 false .ix (.var 3) (.lit (.int 0)))) (.cons (.op2 false .ix (.var 3) (.lit (.int 1))) .nil))) .nil)) ρ M = some (.d (encP [-x]), M) := by
  have hz := EV.sizeLine_eq
  have i0 : evalE cf T.G wf (.op2 false .ix (.var 3) (.lit (.int 0))) ρ M = some (.d (.int x.num), M) := x_ixG (e_var h3) e_lit rfl
  have i1 : evalE cf T.G wf (.op2 false .ix (.var 3) (.lit (.int 1))) ρ M = some (.d (.int (x.den : Int)), M) := x_ixG (e_var h3) e_lit rfl
  have i2 := x_opG (e_lit (cf := cf) (G := T.G) (wf := wf) (ρ := ρ) (M := M) (x := .int 0)) i0 p_sub (by decide)
  have e : pr (0 - x.num) x.den = enc (-x) := by
    unfold enc
    rw [Rat.neg_num, Rat.neg_den, Int.zero_sub]
  have q := e_tup (es_cons i2 (es_cons i1 es_nil)) rfl (by rw [hz]; show 2 ≤ _; decide)
  rw [show PyData.tuple [.int (0 - x.num), .int (x.den : Int)] = enc (-x) from e] at q
  exact e_tup (es_cons q es_nil) rfl (by rw [hz]; show 1 ≤ _; decide)
theorem row3 (h1 : ρ[1]? = some (some (.m 0))) (h2 : ρ[2]? = some (some (.d (.int (k : Nat))))) (hk : k ≤ 4) (t : Nat) : ∃ (rr : List Rat) (u : Nat), Qbs 2 1 0 rr ∧ rr.length = k ∧ evalS cf T.G wf (nth 3 fn25.body) ρ [bx ds t] = some (.nx (ρ.set 4 (some (.d (encP rr)))) [bx ds u]) := by
  have hz := EV.sizeLine_eq
  obtain ⟨acc, M', e, u, f, rfl, rfl, hq, hlf⟩ := compL_inv (f := tc cf T.G wf [14] (.v 14) (.lit (.bool true)) (.tup (.cons (.op2 false .sub (.call 11 (.cons (.var 1) (.cons (.lit (.int 3)) .nil))) (.lit (.int 1))) (.cons (.lit (.int 1)) .nil))) ρ) (fun j acc M => ∃ (u : Nat) (f : List Rat), acc = encs f ∧ M = [bx ds u] ∧ Qbs 2 1 0 f ∧ f.length = j) (irng 0 1 k) 0 [] [bx ds t] ⟨t, [], rfl, rfl, fun q hq => (by cases hq), rfl⟩ (fun j x acc M hx hI => by
    obtain ⟨rfl, hj⟩ := irng_at hx
    obtain ⟨u, f, rfl, rfl, hq, hl⟩ := hI
    let ρ2 : EV.Loc := (ρ.set 14 none).set 14 (some (.d (.int (j : Nat))))
    have h21 : ρ2[1]? = some (some (.m 0)) := by
      show ((ρ.set 14 none).set 14 _)[1]? = _
      rw [List.getElem?_set_ne (by omega), List.getElem?_set_ne (by omega)]
      exact h1
    obtain ⟨v, v0, v1, ev⟩ := dr0 (ds := ds) (Rr := []) h21 u (m := 3) (by decide)
    have e2 := x_opG ev (y := .int 1) (M2 := [bx ds (u + 1)]) e_lit (p_sub (i := v) (j := 1)) (by decide)
    have e3 : evalE cf T.G wf (.tup (.cons (.op2 false .sub (.call 11 (.cons (.var 1) (.cons (.lit (.int 3)) .nil))) (.lit (.int 1))) (.cons (.lit (.int 1)) .nil))) ρ2 [bx ds u] = some (.d (enc ((v - 1 : Int) : Rat)), [bx ds (u + 1)]) := by
      rw [enc_int]
      exact e_tup (es_cons e2 (es_cons (w := .d (.int 1)) (M1 := [bx ds (u + 1)]) e_lit es_nil)) rfl (by rw [hz]; show 2 ≤ _; decide)
    refine ⟨encs (f ++ [((v - 1 : Int) : Rat)]), [bx ds (u + 1)], ?_, u + 1, f ++ [((v - 1 : Int) : Rat)], rfl, rfl, fun z hz => ?_, by rw [List.length_append, hl]; rfl⟩
    · have := tc_goM (own := [14]) (tg := .v 14) (ρ := ρ) (ρ2 := ρ2) (x := .int (j : Nat)) (acc := encs f) rfl t_lit e3 (by rw [List.length_map, hz]; omega)
      rw [this, show encs (f ++ [((v - 1 : Int) : Rat)]) = encs f ++ [enc ((v - 1 : Int) : Rat)] from List.map_append]
    · rcases List.mem_append.mp hz with hz | hz
      · exact hq z hz
      · rw [List.mem_singleton] at hz
        subst hz
        exact qb_int (show (v - 1).natAbs < 2 ^ 1 by omega))
  rw [Nat.zero_add, irng_length] at hlf
  exact ⟨f, u, hq, hlf, x_asg (e_tupL (x_comp (x_rngE (n := k) (e_var h2) (by omega)) e rfl))⟩
theorem row4 (h2 : ρ[2]? = some (some (.d (.int (k : Nat))))) (h3 : ρ[3]? = some (some (.d (enc x)))) (hk : 1 ≤ k) (hk2 : k ≤ 4) : evalS cf T.G wf (nth 4 fn25.body) ρ M = some (.nx (ρ.set 5 (some (.d (encO (opx x k))))) M) := by
  have hz := EV.sizeLine_eq
  have i0 := e_tup (es_cons (e_nx (M := M) h3) es_nil) rfl (by rw [hz]; show 1 ≤ _; decide)
  have i1 : evalE cf T.G wf (.tup (.cons (.tup .nil) .nil)) ρ M = some (.d (.tuple [.tuple []]), M) := e_tup (es_cons (e_tup es_nil rfl (Nat.zero_le _)) es_nil) rfl (by rw [hz]; show 1 ≤ _; decide)
  have i2 : evalE cf T.G wf (.op2 false .sub (.var 2) (.lit (.int 1))) ρ M = some (.d (.int ((k - 1 : Nat) : Int)), M) := by
    rw [show ((k - 1 : Nat) : Int) = (k : Int) - 1 by omega]
    exact x_opG (x := .int (k : Nat)) (M1 := M) (e_var h2) e_lit p_sub (by decide)
  have i3 := x_opG i1 i2 (mul_repT (.tuple []) (n := k - 1) (by omega)) (by decide)
  have i4 := x_opG i0 i3 (p := .add) (z := encO ([-x] :: List.replicate (k - 1) [])) (by
    show fit _ _ = _
    unfold fit
    rw [if_pos (by rw [hz, List.length_append, List.length_replicate]; show 1 + _ ≤ _; omega), ← encPs_rep]
    rfl) (by decide)
  have i5 := e_tup (es_cons (lone_eq (cf := cf) (G := T.G) (wf := wf) (ρ := ρ) (M := M)) es_nil) rfl (by rw [hz]; show 1 ≤ _; decide)
  have i6 := x_opG i4 i5 (p := .add) (z := encO (opx x k)) (by
    show fit _ _ = _
    unfold fit
    rw [if_pos (by rw [hz, List.length_append, List.length_map, List.length_cons, List.length_replicate]; show k - 1 + 1 + 1 ≤ _; omega)]
    have e1 : encPs (opx x k) = encPs ([-x] :: List.replicate (k - 1) []) ++ encPs [[1]] := by
      show encPs ([-x] :: (List.replicate (k - 1) [] ++ [[1]])) = _
      rw [← List.map_append]
      rfl
    show some (PyData.tuple _) = some (PyData.tuple _)
    rw [e1]
    rfl) (by decide)
  exact x_asg i6
end
end EVL

/-! K35d: the law k35. -/
namespace EVL
open PySem EV
section
variable {ρ : EV.Loc} {M : Mem} {x : Rat} {rr : List Rat} {k R K u : Nat} {V : Nat → Rat} {wd : List (List Rat)} {ds : List Int} {t : List (Nat × Nat)}
theorem out_len (Z : Nat → Nat → Bool) : (out Z 12).length < 1000 := by
  have := (out_ok (Z := Z) 12).resolve_right (by decide)
  have := this.len
  omega
theorem row2 (h : ρ[1]? = some (some (.m 0))) (t : Nat) : ∃ (x : Rat) (u : Nat), Qb 2 2 1 x ∧ x ≠ 0 ∧ evalS cf T.G wf (nth 2 fn25.body) ρ [bx ds t] = some (.nx (ρ.set 3 (some (.d (enc x)))) [bx ds u]) := by
  have hz := EV.sizeLine_eq
  have l0 : evalE cf T.G wf (.lst false (.cons (.op2 false .sub (.lit (.int 0)) (.lit (.int 2))) (.cons (.op2 false .sub (.lit (.int 0)) (.lit (.int 1))) (.cons (.lit (.int 1)) (.cons (.lit (.int 2)) (.cons (.lit (.int 3)) .nil)))))) ρ [bx ds t] = some (.d (.list ([0 - 2, 0 - 1, 1, 2, 3].map PyData.int)), [bx ds t]) :=
    e_lstF (es_cons (x_opG (x := .int 0) (y := .int 2) (M1 := [bx ds t]) e_lit e_lit p_sub (by decide)) (es_cons (x_opG (x := .int 0) (y := .int 1) (M1 := [bx ds t]) e_lit e_lit p_sub (by decide)) (es_cons (w := .d (.int 1)) (M1 := [bx ds t]) e_lit (es_cons (w := .d (.int 2)) (M1 := [bx ds t]) e_lit (es_cons (w := .d (.int 3)) (M1 := [bx ds t]) e_lit es_nil))))) rfl (by rw [hz]; show 5 ≤ _; decide)
  obtain ⟨v, hv, ev⟩ := pick_eq (ds := ds) (ns := [0 - 2, 0 - 1, 1, 2, 3]) rfl t
  have hv2 : v ≠ 0 ∧ v.natAbs ≤ 3 := by
    simp only [List.mem_cons, List.not_mem_nil, or_false] at hv
    omega
  obtain ⟨d, d0, d1, ed⟩ := dr0 (ds := ds) (Rr := []) h (t + 1) (m := 2) (by decide)
  have ed := x_opG (a := .lit (.int 1)) (x := .int 1) (M1 := [bx ds (t + 1)]) e_lit ed (p_add (i := 1) (j := d)) (by decide)
  have ep := x_callE (es_cons (w := .m 0) (M1 := [bx ds t]) (e_var h) (es_cons l0 es_nil)) ev
  have hm := (MK.h (fs := F) (G := T.G) (wf := wf) (r := 15) 37) v (1 + d) [bx ds (t + 1 + 1)] (by omega) ((sm_lit 3 (by show (1 + d).natAbs < 8; omega)).mono (by decide))
  rw [rat_enc (by omega)] at hm
  obtain ⟨L, hL⟩ : ∃ L : Nat, 1 + d = (L : Int) := ⟨(1 + d).toNat, by omega⟩
  refine ⟨Rat.divInt v (1 + d), t + 1 + 1, ?_, ?_, x_asg (x_callE (es_cons ep (es_cons ed es_nil)) hm)⟩
  · rw [hL]
    have hL0 : 0 < L := by omega
    have hdv := den_divInt_dvd (x := v) hL0
    refine ⟨qb_num (by omega) (by omega), Nat.dvd_trans hdv ?_⟩
    have : L = 1 ∨ L = 2 := by omega
    rcases this with rfl | rfl <;> decide
  · intro h0
    rw [hL, Rat.divInt_eq_div] at h0
    have h1 : ((v : Int) : Rat) = 0 := by
      have hL1 : (((L : Nat) : Int) : Rat) ≠ 0 := fun h => by
        have := Rat.intCast_inj.mp (show (((L : Nat) : Int) : Rat) = ((0 : Int) : Rat) from h)
        omega
      have hi := Rat.mul_inv_cancel _ hL1
      rw [Rat.div_def] at h0
      have e : ((v : Int) : Rat) = ((v : Int) : Rat) * (((L : Nat) : Int) : Rat)⁻¹ * (((L : Nat) : Int) : Rat) := by
        generalize (((L : Nat) : Int) : Rat)⁻¹ = y at *
        generalize (((L : Nat) : Int) : Rat) = z at *
        have : ((v : Int) : Rat) * y * z = ((v : Int) : Rat) * (z * y) := by grind
        rw [this, hi]
        grind
      rw [e, h0]
      grind
    exact hv2.1 (Rat.intCast_inj.mp (show ((v : Int) : Rat) = ((0 : Int) : Rat) from h1))
theorem like_rows {e1 e2 : E} (h1 : evalE cf T.G wf e1 ρ M = some (.d (.tuple (enprs t)), M)) (h2 : evalE cf T.G wf e2 ρ M = some (.d (.tuple (enprs t)), M)) (hl : t.length < 1000) : evalS cf T.G wf (.ife (.not (.call 13 (.cons e1 (.cons e2 .nil)))) (.cons (.ret (.lit (.bool false))) .nil) .nil) ρ M = some (.nx ρ M) :=
  x_like (n := 2) ⟨_, h1, h2, lk_pairs t (by omega)⟩
theorem row8 (h : Wd V wd R) (hK : R ≤ K) (hK2 : K ≤ 24) (hV : ∀ n, n < 84 → Qb 2 170 84 (V n)) (h6 : ρ[6]? = some (some (.d (.tuple [.str "seq", encO wd, encP (vl' V K)])))) (h7 : ρ[7]? = some (some (.m 1))) (hM : M[1]? = some (.lst (enprs t))) (ht : out (Zv V R) 12 = t) (hl : t.length < 1000) : evalS cf T.G wf (nth 8 fn25.body) ρ M = some (.nx ρ M) := by
  have a := rows_wd (M := M) h hK hK2 hV
  rw [ht] at a
  exact like_rows (x_callE (es_cons (e_var h6) es_nil) a) (x_tupM (e_var h7) hM) hl
theorem row9 (hx : Qb 2 2 1 x) (h0 : x ≠ 0) (hk : 1 ≤ k) (hk2 : k ≤ 4) (h2 : ρ[2]? = some (some (.d (.int (k : Nat))))) (h5 : ρ[5]? = some (some (.d (encO (opx x k))))) : ∃ wd R, Wd (Vx x rr k) wd R ∧ k ≤ R ∧ R ≤ k + 1 ∧ (∀ s j, Zv (Vx x rr k) R s j = Zr rr k s j) ∧ evalS cf T.G wf (nth 9 fn25.body) ρ M = some (.nx (ρ.set 9 (some (.d (encO wd)))) M) := by
  have hz := EV.sizeLine_eq
  have c := t_bool (x_opG (cf := cf) (G := T.G) (wf := wf) (ρ := ρ) (M := M) (M1 := M) (M2 := M) (a := .var 2) (b := .lit (.int 4)) (x := .int (k : Nat)) (y := .int 4) (e_var h2) e_lit p_lt (by decide))
  by_cases h4 : k < 4
  · rw [decide_eq_true (by omega)] at c
    have e5 : evalE cf T.G wf (.tup (.cons (.tup (.cons (.tup (.cons (.lit (.int 5)) (.cons (.lit (.int 1)) .nil))) .nil)) (.cons lOne .nil))) ρ M = some (.d (encO f51), M) :=
      e_tup (es_cons (e_tup (es_cons (e_tup (es_cons e_lit (es_cons e_lit es_nil)) rfl (by rw [hz]; show 2 ≤ _; decide)) es_nil) rfl (by rw [hz]; show 1 ≤ _; decide)) (es_cons lone_eq es_nil)) rfl (by rw [hz]; show 2 ≤ _; decide)
    have p1 : OE F T.G wf 31 ρ M 2 (.tup (.cons (.tup (.cons (.tup (.cons (.lit (.int 5)) (.cons (.lit (.int 1)) .nil))) .nil)) (.cons lOne .nil))) 3 0 1 2 (sw f51) := oe_list e5 r51 o51 (Nat.le_refl _)
    have p2 : OE F T.G wf 31 ρ M 2 (.var 5) 2 1 1 5 (sw (opx x k)) := oe_var h5 (opx_rw hx h0) (opx_ot hk) (by rw [opx_len hk]; omega)
    obtain ⟨d, d1, d2, d3, d4, d5⟩ := oe_omul (i := 24) p1 p2
    have w := wd_wide (rr := rr) hx h0 hk (by omega) (d2.mono (by decide) (by decide) (by decide)) d3 d5
    exact ⟨d, k + 1, w, by omega, by omega, fun s j => Zv_more h0 hk s j, x_asg (x_ifeT c d1)⟩
  · rw [decide_eq_false (by omega)] at c
    exact ⟨opx x k, k, wd_op hx h0 hk hk2, by omega, by omega, fun s j => Zv_eq h0 s j, x_asg (x_ifeF c (e_var h5))⟩
abbrev wB : Ss := .cons (.expr (.meth .append (.var 10) (.cons (.call 17 (.cons (.var 3) (.cons (.op2 false .ix (.var 10) (.op2 false .sub (.blt false .len (.cons (.var 10) .nil)) (.var 2))) .nil))) .nil))) .nil
abbrev wM (ds : List Int) (u : Nat) (t : List (Nat × Nat)) (vs : List Rat) : Mem := [bx ds u, .lst (enprs t), .lst (encs vs)]
theorem row11 (hx : Qb 2 2 1 x) (hq : Qbs 2 1 0 rr) (hk : 1 ≤ k) (hkR : k ≤ R) (h : Wd (Vx x rr k) wd R) (h2 : ρ[2]? = some (some (.d (.int (k : Nat))))) (h3 : ρ[3]? = some (some (.d (enc x)))) (h9 : ρ[9]? = some (some (.d (encO wd)))) (h10 : ρ[10]? = some (some (.m 2))) : evalS cf T.G wf (nth 11 fn25.body) ρ (wM ds u t (vl' (Vx x rr k) k)) = some (.nx ρ (wM ds u t (vl' (Vx x rr k) R))) := by
  have hz := EV.sizeLine_eq
  have hW : 1000000 ≤ wf := WF.h
  have hR := h.hR
  show evalS cf T.G wf (.whl (.op2 false .lt (.blt false .len (.cons (.var 10) .nil)) (.op2 false .sub (.blt false .len (.cons (.var 9) .nil)) (.lit (.int 1)))) wB) ρ _ = _
  rw [evalS]
  refine while_up (S := fun j => wM ds u t (vl' (Vx x rr k) j)) (K := k) (T := R) (fun j => ?_) (fun j h1 hj => ?_) wf k (Nat.le_refl _) hkR (by omega)
  · let Mj := wM ds u t (vl' (Vx x rr k) j)
    have l1 := e_lenM (cf := cf) (G := T.G) (wf := wf) (ρ := ρ) (M := Mj) (e := .var 10) (c := 2) (xs := encs (vl' (Vx x rr k) j)) (e_var h10) rfl
    rw [List.length_map, vl_len] at l1
    have l2 := x_opG (e_lenO (cf := cf) (G := T.G) (wf := wf) (ρ := ρ) (M := Mj) (M1 := Mj) (e1 := .var 9) (ts := wd) (e_var h9)) (b := .lit (.int 1)) (M2 := Mj) e_lit p_sub (by decide)
    rw [show ((wd.length : Nat) : Int) - 1 = (R : Int) by have := h.ln; omega] at l2
    have := x_opG l1 l2 p_lt (by decide)
    rw [t_bool this]
    congr 2
    exact decide_eq_decide.mpr (by omega)
  · let Mj := wM ds u t (vl' (Vx x rr k) j)
    have v10 : evalE cf T.G wf (.var 10) ρ Mj = some (.m 2, Mj) := e_var h10
    have l1 := e_lenM (xs := encs (vl' (Vx x rr k) j)) v10 rfl
    rw [List.length_map, vl_len] at l1
    have l3 : evalE cf T.G wf (.op2 false .sub (.blt false .len (.cons (.var 10) .nil)) (.var 2)) ρ Mj = some (.d (.int ((j - k : Nat) : Int)), Mj) := by
      rw [show ((j - k : Nat) : Int) = (j : Int) - (k : Int) by omega]
      exact x_opG l1 (y := .int (k : Nat)) (M2 := Mj) (e_var h2) p_sub (by decide)
    have q1 : QE F T.G wf 31 ρ Mj 2 (.op2 false .ix (.var 10) (.op2 false .sub (.blt false .len (.cons (.var 10) .nil)) (.var 2))) 170 84 (Vx x rr k (j - k)) := ⟨x_ixMG v10 l3 (xs := encs (vl' (Vx x rr k) j)) rfl (by rw [at_n, List.getElem?_map, vl_at (by omega)]; rfl), Vx_q hx hq (by omega)⟩
    have q2 : QE F T.G wf 31 ρ Mj 2 (.var 3) 2 1 x := qe_var h3 hx
    have q3 := (qe_prod (i := 17) q2 q1).1
    have e : x * Vx x rr k (j - k) = Vx x rr k j := by
      rw [← Vx_step hk, show j - k + k = j by omega]
    rw [e] at q3
    have st := x_app (cf := cf) (G := T.G) (wf := wf) (ρ := ρ) (M := Mj) (n := 2) (xs := encs (vl' (Vx x rr k) j)) v10 rfl q3 (by rw [hz, List.length_map, vl_len]; omega)
    have hset : Mj.set 2 (.lst (encs (vl' (Vx x rr k) j) ++ [enc (Vx x rr k j)])) = wM ds u t (vl' (Vx x rr k) (j + 1)) := by
      show [bx ds u, .lst (enprs t), .lst (encs (vl' (Vx x rr k) j) ++ [enc (Vx x rr k j)])] = [bx ds u, .lst (enprs t), .lst (encs (vl' (Vx x rr k) (j + 1)))]
      rw [vl_succ, show encs (vl' (Vx x rr k) j ++ [Vx x rr k j]) = encs (vl' (Vx x rr k) j) ++ [enc (Vx x rr k j)] from List.map_append]
    rw [hset] at st
    exact x_cons st (by rw [evalSs])
theorem row12 (h : Wd V wd R) (hR : R ≤ 24) (hV : ∀ n, n < 84 → Qb 2 170 84 (V n)) (h7 : ρ[7]? = some (some (.m 1))) (h9 : ρ[9]? = some (some (.d (encO wd)))) (h10 : ρ[10]? = some (some (.m 2))) (ht : out (Zv V R) 12 = t) (hl : t.length < 1000) : evalS cf T.G wf (nth 12 fn25.body) ρ (wM ds u t (vl' V R)) = some (.nx ρ (wM ds u t (vl' V R))) := by
  have hz := EV.sizeLine_eq
  have t10 : evalE cf T.G wf (.blt false .tuple (.cons (.var 10) .nil)) ρ (wM ds u t (vl' V R)) = some (.d (encP (vl' V R)), wM ds u t (vl' V R)) := x_tupM (e_var h10) rfl
  have e1 := e_tup (es_cons (w := .d (.str "seq")) (M1 := wM ds u t (vl' V R)) e_lit (es_cons (e_var h9) (es_cons t10 es_nil))) rfl (by rw [hz]; show 3 ≤ _; decide)
  have a := rows_wd (M := wM ds u t (vl' V R)) h (Nat.le_refl _) hR hV
  rw [ht] at a
  exact like_rows (x_callE (es_cons e1 es_nil) a) (x_tupM (e_var h7) rfl) hl
theorem out_all : out (Zv (fun _ => 0) R) 12 = [(1, 0)] := by
  rw [out_congr (Z2 := fun _ _ => true) 12 fun s j _ _ _ => by
    unfold Zv
    exact List.all_eq_true.mpr fun n _ => decide_eq_true rfl]
  decide +kernel
theorem row13 (h3 : ρ[3]? = some (some (.d (enc x)))) : evalS cf T.G wf (nth 13 fn25.body) ρ M = some (.nx (ρ.set 11 (some (.d (.tuple [.str "seq", encO (opx x 1), encP (vl' (fun _ => 0) 1)])))) M) := by
  have hz := EV.sizeLine_eq
  have e1 := e_tup (es_cons (e_nx (M := M) h3) (es_cons (lone_eq (cf := cf) (G := T.G) (wf := wf) (ρ := ρ) (M := M)) es_nil)) rfl (by rw [hz]; show 2 ≤ _; decide)
  have e2 : evalE cf T.G wf (.tup (.cons (.tup (.cons (.lit (.int 0)) (.cons (.lit (.int 1)) .nil))) .nil)) ρ M = some (.d (encP (vl' (fun _ => 0) 1)), M) :=
    e_tup (es_cons (e_tup (es_cons e_lit (es_cons e_lit es_nil)) rfl (by rw [hz]; show 2 ≤ _; decide)) es_nil) rfl (by rw [hz]; show 1 ≤ _; decide)
  exact x_asg (e_tup (es_cons (w := .d (.str "seq")) (M1 := M) e_lit (es_cons e1 (es_cons e2 es_nil))) rfl (by rw [hz]; show 3 ≤ _; decide))
theorem row14 (hx : Qb 2 2 1 x) (h0 : x ≠ 0) (h11 : ρ[11]? = some (some (.d (.tuple [.str "seq", encO (opx x 1), encP (vl' (fun _ => 0) 1)])))) : evalS cf T.G wf (nth 14 fn25.body) ρ M = some (.ret (.d (.bool true)) M) := by
  have hz := EV.sizeLine_eq
  have w1 : Wd (fun _ => 0) (opx x 1) 1 := wd_zero _ _ ((opx_rw hx h0).mono (by decide) (by decide) (by decide)) (opx_len (by decide)) (by decide) (wd_op (rr := []) hx h0 (by decide) (by decide)).hd
  have w2 : Wd (fun _ => 0) [[1]] 0 := wd_zero _ _ (fun t ht => by
    rw [List.mem_singleton] at ht
    subst ht
    exact (rw_one (v := 79) (L := 3))) rfl (by decide) (fun n => by
    show (1 : Rat) + (n : Rat) * 0 ≠ 0
    grind)
  have a1 := rows_wd (M := M) (K := 1) w1 (by decide) (by decide) (fun n _ => qb_zero)
  have a2 := rows_wd (M := M) (K := 0) w2 (by decide) (by decide) (fun n _ => qb_zero)
  rw [out_all] at a1 a2
  have e1 : evalE cf T.G wf (.call 8 (.cons (.var 11) .nil)) ρ M = some (.d (.tuple (enprs [(1, 0)])), M) := x_callE (es_cons (e_var h11) es_nil) a1
  have e3 : evalE cf T.G wf (.tup (.cons (.lit (.str "seq")) (.cons (.tup (.cons lOne .nil)) (.cons (.tup .nil) .nil)))) ρ M = some (.d (.tuple [.str "seq", encO [[1]], encP (vl' (fun _ => 0) 0)]), M) :=
    e_tup (es_cons (w := .d (.str "seq")) (M1 := M) e_lit (es_cons (e_tup (es_cons lone_eq es_nil) rfl (by rw [hz]; show 1 ≤ _; decide)) (es_cons (e_tup es_nil rfl (Nat.zero_le _)) es_nil))) rfl (by rw [hz]; show 3 ≤ _; decide)
  have e2 := x_callE (es_cons e3 es_nil) a2
  have f1 : evalE cf T.G wf (.tup (.cons (.tup (.cons (.lit (.int 1)) (.cons (.lit (.int 0)) .nil))) .nil)) ρ M = some (.d (.tuple (enprs [(1, 0)])), M) :=
    e_tup (es_cons (e_tup (es_cons e_lit (es_cons e_lit es_nil)) rfl (by rw [hz]; show 2 ≤ _; decide)) es_nil) rfl (by rw [hz]; show 1 ≤ _; decide)
  have s : SM F T.G wf 31 ρ M 2 (.call 8 (.cons (.var 11) .nil)) (.tup (.cons (.tup (.cons (.lit (.int 1)) (.cons (.lit (.int 0)) .nil))) .nil)) := ⟨_, e1, f1, lk_pairs _ (by decide)⟩
  have s2 : SM F T.G wf 31 ρ M 2 (.call 8 (.cons (.tup (.cons (.lit (.str "seq")) (.cons (.tup (.cons lOne .nil)) (.cons (.tup .nil) .nil)))) .nil)) (.tup (.cons (.tup (.cons (.lit (.int 1)) (.cons (.lit (.int 0)) .nil))) .nil)) := ⟨_, e2, f1, lk_pairs _ (by decide)⟩
  exact x_ret (like_sm (same_tup (sames_cons s (sames_cons s2 sames_nil))))
theorem law_eq (ns : List Int) (_ : ns.length ≤ 63) : ∃ M', callF T.fns T.G wf kk lawI [.r ns] [] = some (.d (.bool true), M') := by
  have hz := EV.sizeLine_eq
  obtain ⟨ds, hd⟩ := digits_eq (G := T.G) (wf := wf) (k := 37) (fs := F) (i := 10) (c := 9) FA.h FA.h ns []
  have s0 : evalS cf T.G wf (nth 0 fn25.body) [some (.r ns), none, none, none, none, none, none, none, none, none, none, none, none, none, none, none, none] [] = some (.nx [some (.r ns), some (.m 0), none, none, none, none, none, none, none, none, none, none, none, none, none, none, none] [bx ds 0]) := by
    have e : evalE cf T.G wf (.call 10 (.cons (.var 0) (.cons (.lit (.int 0)) (.cons (.lit (.int 63)) .nil)))) [some (.r ns), none, none, none, none, none, none, none, none, none, none, none, none, none, none, none, none] [] = some (.d (.list (ds.map .int)), []) := x_callE (M1 := []) (by simp [evalE, evalEs, evalB, evalIt, evalS, evalSs, evalTg, allB, allI, deref_d, deref_m, derefR_d, derefR_m, derefR_r, db_len, db_abs, db_int, db_all, db_any, db_sum, db_tuple, db_list, db_max, db_min, db_gcd, db_isi, derefs_nil, derefs_cons, plain_nil, plain_d, give_f, give_t, p_add, p_addT, p_addL, p_sub, p_mul, p_fdiv, p_mod, p_pow, p_lt, p_le, p_gt, p_ge, p_ixL, p_ixT, at_0, at_1, at_2, at_n, p_eqI, p_neI, s_nn, s_bb, s_in, s_bn, s_tn, s_ln, s_sn, s_nb, s_ib, s_tb, s_lb, s_sb, p_is, p_isn, q_lenL, q_lenT, q_abs, q_int, q_intb, q_all, q_any, q_sum, q_tupL, q_tupT, q_lstL, q_lstT, q_max, q_min, q_gcd, q_isi, t_tt, t_tl, t_ti, t_tb, t_tn, t_ts, t_it, t_il, t_ii, t_ib, t_in, t_is, t_bt, t_bl, t_bi, t_bb, t_bn, t_bs, t_st, t_sl, t_si, t_sb, t_sn, t_ss, r_none, r_bool, r_int, r_list, r_tup, f_d, st_m, pl_n, pl_0, pl_1, m_app, m_pop, tof_s, bt_v, sw_c, sw_n, ag_a]) hd
    show evalS cf T.G wf (.asg 1 _) _ _ = _
    rw [evalS, evalE, evalEs, e]
    simp [evalE, evalEs, evalB, evalIt, evalS, evalSs, evalTg, allB, allI, deref_d, deref_m, derefR_d, derefR_m, derefR_r, db_len, db_abs, db_int, db_all, db_any, db_sum, db_tuple, db_list, db_max, db_min, db_gcd, db_isi, derefs_nil, derefs_cons, plain_nil, plain_d, give_f, give_t, p_add, p_addT, p_addL, p_sub, p_mul, p_fdiv, p_mod, p_pow, p_lt, p_le, p_gt, p_ge, p_ixL, p_ixT, at_0, at_1, at_2, at_n, p_eqI, p_neI, s_nn, s_bb, s_in, s_bn, s_tn, s_ln, s_sn, s_nb, s_ib, s_tb, s_lb, s_sb, p_is, p_isn, q_lenL, q_lenT, q_abs, q_int, q_intb, q_all, q_any, q_sum, q_tupL, q_tupT, q_lstL, q_lstT, q_max, q_min, q_gcd, q_isi, t_tt, t_tl, t_ti, t_tb, t_tn, t_ts, t_it, t_il, t_ii, t_ib, t_in, t_is, t_bt, t_bl, t_bi, t_bb, t_bn, t_bs, t_st, t_sl, t_si, t_sb, t_sn, t_ss, r_none, r_bool, r_int, r_list, r_tup, f_d, st_m, pl_n, pl_0, pl_1, m_app, m_pop, tof_s, bt_v, sw_c, sw_n, ag_a, hz]
  let ρ0 : EV.Loc := [some (.r ns), some (.m 0), none, none, none, none, none, none, none, none, none, none, none, none, none, none, none]
  obtain ⟨k, k0, k1, ek⟩ := dr0 (ds := ds) (Rr := []) (ρ := ρ0) rfl 0 (m := 4) (by decide)
  obtain ⟨k, hk⟩ : ∃ j : Nat, 1 + k = (j : Int) := ⟨(1 + k).toNat, by omega⟩
  have hk1 : 1 ≤ k := by omega
  have hk4 : k ≤ 4 := by omega
  let ρ1 : EV.Loc := [some (.r ns), some (.m 0), some (.d (.int (k : Nat))), none, none, none, none, none, none, none, none, none, none, none, none, none, none]
  have s1 : evalS cf T.G wf (nth 1 fn25.body) ρ0 [bx ds 0] = some (.nx ρ1 [bx ds 1]) := by
    have := x_opG (a := .lit (.int 1)) (x := .int 1) (M1 := [bx ds 0]) e_lit ek p_add (by decide)
    rw [hk] at this
    exact x_asg this
  obtain ⟨x, u2, hx, hx0, s2⟩ := row2 (ds := ds) (ρ := ρ1) rfl 1
  obtain ⟨rr, u3, hq, hr, s3⟩ := row3 (ds := ds) (ρ := ρ1.set 3 (some (.d (enc x)))) (k := k) rfl rfl hk4 u2
  have s4 := row4 (ρ := (ρ1.set 3 (some (.d (enc x)))).set 4 (some (.d (encP rr)))) (M := [bx ds u3]) (x := x) (k := k) rfl rfl hk1 hk4
  let V := Vx x rr k
  have hfirst : vl' V k = rr := Vx_first hr
  let ρ5 : EV.Loc := [some (.r ns), some (.m 0), some (.d (.int (k : Nat))), some (.d (enc x)), some (.d (encP rr)), some (.d (encO (opx x k))), none, none, none, none, none, none, none, none, none, none, none]
  have s5 : evalS cf T.G wf (nth 5 fn25.body) ρ5 [bx ds u3] = some (.nx (ρ5.set 6 (some (.d (.tuple [.str "seq", encO (opx x k), encP (vl' V k)])))) [bx ds u3]) := by
    rw [hfirst]
    exact x_asg (e_tup (es_cons (w := .d (.str "seq")) (M1 := [bx ds u3]) e_lit (es_cons (w := .d (encO (opx x k))) (M1 := [bx ds u3]) (e_var rfl) (es_cons (w := .d (encP rr)) (M1 := [bx ds u3]) (e_var rfl) es_nil))) rfl (by rw [hz]; show 3 ≤ _; decide))
  let sq : PyData := .tuple [.str "seq", encO (opx x k), encP (vl' V k)]
  let ρ6 : EV.Loc := [some (.r ns), some (.m 0), some (.d (.int (k : Nat))), some (.d (enc x)), some (.d (encP rr)), some (.d (encO (opx x k))), some (.d sq), none, none, none, none, none, none, none, none, none, none]
  have s6 : evalS cf T.G wf (nth 6 fn25.body) ρ6 [bx ds u3] = some (.nx (dR (some (.r ns)) (some (.d (enc x))) (some (.d (encO (opx x k)))) (some (.d sq)) none none none rr k) (dM ds u3 [])) :=
    x_asg (x_lstM (xs := []) es_nil rfl (Nat.zero_le _))
  obtain ⟨x8, x12, x13, s7⟩ := row7 (s := some (.r ns)) (x3 := some (.d (enc x))) (x5 := some (.d (encO (opx x k)))) (x6 := some (.d sq)) (ds := ds) (u := u3) hk1 hk4 hr
  have hlen := out_len (Zr rr k)
  obtain ⟨t, ht⟩ : ∃ t, out (Zr rr k) 12 = t := ⟨_, rfl⟩
  rw [ht] at s7 hlen
  let ρ7 := dR (some (.r ns)) (some (.d (enc x))) (some (.d (encO (opx x k)))) (some (.d sq)) x8 x12 x13 rr k
  have hV : ∀ n, n < 84 → Qb 2 170 84 (V n) := fun n hn => Vx_q hx hq hn
  have ht0 : out (Zv V k) 12 = t := (out_congr 12 fun s j _ _ _ => Zv_eq hx0 s j).trans ht
  have s8 := row8 (ρ := ρ7) (M := dM ds u3 t) (K := k) (wd_op (rr := rr) hx hx0 hk1 hk4) (Nat.le_refl _) (by omega) hV rfl rfl rfl ht0 hlen
  obtain ⟨wd, R, w, hkR, hR1, hZ, s9⟩ := row9 (ρ := ρ7) (M := dM ds u3 t) (rr := rr) hx hx0 hk1 hk4 rfl rfl
  have hR := w.hR
  have ht1 : out (Zv V R) 12 = t := (out_congr 12 fun s j _ _ _ => hZ s j).trans ht
  have s10 : evalS cf T.G wf (nth 10 fn25.body) (ρ7.set 9 (some (.d (encO wd)))) (dM ds u3 t) = some (.nx ((ρ7.set 9 (some (.d (encO wd)))).set 10 (some (.m 2))) (wM ds u3 t (vl' V k))) := by
    rw [hfirst]
    have v4 : evalE cf T.G wf (.var 4) (ρ7.set 9 (some (.d (encO wd)))) (dM ds u3 t) = some (.d (encP rr), dM ds u3 t) := e_var rfl
    have e : evalE cf T.G wf (.blt true .list (.cons (.var 4) .nil)) (ρ7.set 9 (some (.d (encO wd)))) (dM ds u3 t) = some (.m 2, wM ds u3 t rr) := by
      rw [evalE, es_cons v4 es_nil]
      simp only [db_list, derefs_cons, derefs_nil, deref_d, q_lstT, give_t]
      rfl
    exact x_asg e
  have s11 := row11 (ρ := (ρ7.set 9 (some (.d (encO wd)))).set 10 (some (.m 2))) (ds := ds) (u := u3) (t := t) hx hq hk1 hkR w rfl rfl rfl rfl
  have s12 := row12 (ρ := (ρ7.set 9 (some (.d (encO wd)))).set 10 (some (.m 2))) (ds := ds) (u := u3) (t := t) w (by omega) hV rfl rfl rfl ht1 hlen
  let M9 : Mem := wM ds u3 t (vl' V R)
  have s13 := row13 (ρ := (ρ7.set 9 (some (.d (encO wd)))).set 10 (some (.m 2))) (M := M9) (x := x) rfl
  have s14 := row14 (ρ := ((ρ7.set 9 (some (.d (encO wd)))).set 10 (some (.m 2))).set 11 (some (.d (.tuple [.str "seq", encO (opx x 1), encP (vl' (fun _ => 0) 1)])))) (M := M9) hx hx0 rfl
  have body : evalSs cf T.G wf fn25.body [some (.r ns), none, none, none, none, none, none, none, none, none, none, none, none, none, none, none, none] [] = some (.ret (.d (.bool true)) M9) :=
    x_cons s0 (x_cons s1 (x_cons s2 (x_cons s3 (x_cons s4 (x_cons s5 (x_cons s6 (x_cons s7 (x_cons s8 (x_cons s9 (x_cons s10 (x_cons s11 (x_cons s12 (x_cons s13 (x_stop s14))))))))))))))
  exact ⟨_, x_fin (fn := fn25) (M1 := M9) rfl rfl (by exact body)⟩
end
end EVL

open PySem PySem.W PySem.Calls PyProof.Rows
theorem PySem.Challenge.cw_termstead_k35_noughts_in_rows_holds : PySem.Challenge.rw_termstead_k35_noughts_in_rows.Holds := by
  w_on; o_law
  refine HandSHeadRun.head_imp (r := OpenLaw.row PySem.Challenge.rw_termstead_k35_noughts_in_rows) (q := EVL.vw) (H := EVL.hk) (ob := EVL.ob) (M := 6000) (loose := EVL.loose) (d := HandSHeadRun.topDef (OpenLaw.row PySem.Challenge.rw_termstead_k35_noughts_in_rows).prog 33) (kwd := []) EVL.ob_eq
    EVL.run (by kernel_rfl) (by kernel_rfl) (by kernel_rfl) (by rfl) (by first | assumption | decide +kernel) (by decide +kernel) ⟨rfl, rfl, rfl, rfl, rfl, by decide +kernel⟩ ?hw ?hc
  case hw => w_witness2
  case hc =>
    refine L2.walk_ofE (l := PySem.Challenge.rw_termstead_k35_noughts_in_rows) (n := 63) (k := EVL.kk) (x := "script") (CX := L2.CX0) rfl (by decide) (by kernel_rfl) ⟨rfl, by decide, by decide⟩ ?F (fun _ _ _ _ z => z)
    intro w mg fa h Y G hmg0
    have hmg : mg ("law" : PySem.Str) = some (.ref fa) := by
      have e : (HandSHeadRun.topDef (OpenLaw.row PySem.Challenge.rw_termstead_k35_noughts_in_rows).prog 33).name = ("law" : PySem.Str) := by kernel_rfl
      rw [← e]
      exact hmg0
    exact EV.law_end (T := EVL.T) (i := EVL.lawI) (wf := EVL.wf) EVL.okAll EVL.ab rfl rfl rfl EVL.law_eq Y G hmg

