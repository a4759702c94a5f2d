import PyProof.Rows.All
import Wide.All
import OpenK.AllK
import Wide.FinOn
import HandS.ForMost
import HandS.Deep
import HandS.Conv
import HandS.IsInst
import HandS.TupMul
import HandS.TupAny
import HandS.Gcd
import HandS.Style
import HandS.Wide
import HandS.Zip
import HandS.Defaults
import KE.SortData
import PyProof.ListMulRoad
import PyProof.FactsAll.tuple_2
import KE.KTupSum
import HandS.More
import HandS.Iter
import KE.GoesEnum
import HandS.Dict
import PyProof.Rows.SetFrom
import HandS.Head2
import HandS.HeadHook2
import HandS.HeadEnd
import PyProof.Rows.SortWalkRead
import HandS.Head3
import PySem.Challenge.RW_cavelegs_k94_any_value_as_plan_or_need_p
set_option Elab.async false
set_option linter.all false
set_option maxRecDepth 100000
/-! Rf: a pure evaluator for the plain part of Python that the program is written in. -/
namespace Rf
open PySem

abbrev D := PyData

/-- what a name of a def holds: nothing; a value that is never changed from now on; a list that this name alone holds (t: 0, or the parameter's place and 1); the script -/
inductive Sl where
  | emp
  | val (d : D)
  | own (t : Nat) (xs : List D)
  | scr (t : Nat) (xs : List D)
  | dic (kvs : List (D × D))
abbrev Ev := List Sl

/-- an expression's value: never changed from now on; the list that slot i holds; a list just made -/
inductive Opd where
  | pu (d : D)
  | bo (i : Nat)
  | fr (xs : List D)
  | fo (xs : List D)
  | fd (kvs : List (D × D))

inductive BOp where
  | add | sub | mul | fdiv | mod | pow
  deriving DecidableEq
inductive COp where
  | eq | ne | lt | le | gt | ge | isN | notN | isB | notB | mem | nmem
  deriving DecidableEq
inductive Ty where
  | int | bool | str | list | tuple | dict
  deriving DecidableEq
inductive Blt where
  | len | abs | max2 | min2 | int1 | tuple1 | list1 | all1 | any1 | sum1 | sorted1 | repr1 | gcd2 | divmod2
  deriving DecidableEq
inductive Mth where
  | append | extend | pop0 | pop1 | insert
  deriving DecidableEq

mutual
inductive IE where
  | var (i : Nat)
  | frz (i : Nat)
  | cst (d : D)
  | glo (n : Nat)
  | bin (o : BOp) (a b : IE)
  | neg (a : IE)
  | cmp (o : COp) (a b : IE)
  | chn (o o' : COp) (a b c : IE)
  | and2 (a b : IE)
  | or2 (a b : IE)
  | nt (a : IE)
  | ite (c a b : IE)
  | tup (es : IEs)
  | lst (es : IEs)
  | idx (a i : IE)
  | slc (a : IE) (lo hi : IO)
  | rev (a : IE)
  | call (f : Nat) (es : IEs)
  | callk (f : Nat) (p : List Nat) (es : IEs)
  | blt (b : Blt) (es : IEs)
  | isi (a : IE) (ts : List Ty)
  | lrg (lo hi : IE)
  | trg (lo hi : IE)
  | lc (elt : IE) (tg : IT) (it : II) (cd : IO) (own : List Nat)
  | mth (m : Mth) (i : Nat) (es : IEs)
  | rpr (es : IEs)
  | giv (e : IE)
  | dnw
  | ds1 (k v : IE)
  | dof (a : IE)
  | dix (a k : IE)
  | din (n : Bool) (a b : IE)
  | dgt (a k d : IE)
  | lset (a : IE)
  | sset (a : IE)
inductive IEs where
  | nil
  | cons (e : IE) (es : IEs)
inductive IO where
  | non
  | som (e : IE)
inductive II where
  | it (a : IE)
  | rng (lo hi : IE)
  | enu (a : IE)
  | zip (a b : IE)
  | dks (a : IE)
inductive IT where
  | nm (i : Nat)
  | tp (ts : ITs)
  | sub (i : Nat) (e : IE)
inductive ITs where
  | nil
  | cons (t : IT) (ts : ITs)
end
mutual
inductive IS where
  | asg (t : IT) (e : IE)
  | own (i : Nat) (e : IE)
  | par2 (i j : Nat) (u v : Bool) (a b : IE)
  | par3 (i j l : Nat) (u v w : Bool) (a b c : IE)
  | ex (e : IE)
  | ret (e : IE)
  | ite (c : IE) (a b : ISs)
  | fo (t : IT) (it : II) (b : ISs)
  | wh (c : IE) (b : ISs)
  | pass | brk | cnt
  | nev
  | dpt (i : Nat) (k e : IE)
inductive ISs where
  | nil
  | cons (s : IS) (ss : ISs)
end

/-- an argument: a value; a list that the callee may change; the script -/
inductive Ar where
  | pu (d : D)
  | io (xs : List D)
  | sc (xs : List D)
inductive Rv where
  | pu (d : D)
  | fr (xs : List D)
abbrev Rt := Rv × List (List D)
abbrev FT := Nat → List Ar → Option Rt

/-! ### operations by values -/
def lenOk (n : Nat) : Bool := Nat.ble n 16777216
def small64 (i : Int) : Bool := Nat.blt i.natAbs 18446744073709551616
def mulOk (i j : Int) : Bool := small64 i || small64 j || Nat.blt (i.natAbs.log2 + j.natAbs.log2) 1000000

/-- keys: ints and texts -/
def keyD : D → Option L2.Key
  | .int i => some (.inl i)
  | .str x => some (.inr x)
  | _ => none
def isKey (d : D) : Bool := (keyD d).isSome
def keq : D → D → Bool
  | .int i, .int j => decide (i = j)
  | .str x, .str y => decide (x = y)
  | _, _ => false
def kget : List (D × D) → D → Option D
  | [], _ => none
  | p :: r, k => if keq p.1 k then some p.2 else kget r k
def khas (kvs : List (D × D)) (k : D) : Bool := (kget kvs k).isSome
def kmap (k v : D) : List (D × D) → List (D × D)
  | [] => []
  | p :: r => (if keq p.1 k then (p.1, v) else p) :: kmap k v r
def kput (kvs : List (D × D)) (k v : D) : List (D × D) := if khas kvs k then kmap k v kvs else kvs ++ [(k, v)]
def kmrg : List (D × D) → List (D × D) → List (D × D)
  | kvs, [] => kvs
  | kvs, p :: r => kmrg (kput kvs p.1 p.2) r
def prsOf : List D → Option (List (D × D))
  | [] => some []
  | .tuple [k, v] :: r => if isKey k then (prsOf r).map ((k, v) :: ·) else none
  | _ => none
/-- ints, each the first time -/
def dedup : List Int → List Int → List Int
  | acc, [] => acc
  | acc, n :: r => dedup (if acc.any (· == n) then acc else acc ++ [n]) r
def rdp (env : Ev) : Opd → Option D
  | .pu d => some d
  | .fr xs => some (.list xs)
  | .bo i => match env[i]? with
    | some (.own _ xs) => some (.list xs)
    | some (.dic kvs) => some (.dict kvs)
    | _ => none
  | .fo _ => none
  | .fd _ => none
/-- the script too -/
def rds (env : Ev) : Opd → Option D
  | .pu d => some d
  | .fr xs => some (.list xs)
  | .bo i => match env[i]? with
    | some (.own _ xs) => some (.list xs)
    | some (.scr _ xs) => some (.list xs)
    | some (.dic kvs) => some (.dict kvs)
    | _ => none
  | .fo _ => none
  | .fd _ => none
def rdsAll (env : Ev) : List Opd → Option (List D)
  | [] => some []
  | o :: r => match rds env o, rdsAll env r with
    | some d, some ds => some (d :: ds)
    | _, _ => none
/-- a value from now on -/
def frzd : Opd → Option D
  | .pu d => some d
  | .fr xs => some (.list xs)
  | .fd kvs => some (.dict kvs)
  | .bo _ => none
  | .fo _ => none

def thaw : Opd → Opd
  | .fr xs => .pu (.list xs)
  | .fd kvs => .pu (.dict kvs)
  | o => o
def repL (k : Nat) (xs : List D) : List D := match k with
  | 0 => []
  | k + 1 => xs ++ repL k xs

def binV : BOp → D → D → Option Opd
  | .add, .int i, .int j => some (.pu (.int (i + j)))
  | .add, .str x, .str y => if lenOk (x.length + y.length) then some (.pu (.str (x ++ y))) else none
  | .add, .list xs, .list ys => if lenOk (xs.length + ys.length) then some (.fr (xs ++ ys)) else none
  | .add, .tuple xs, .tuple ys => if lenOk (xs.length + ys.length) then some (.pu (.tuple (xs ++ ys))) else none
  | .sub, .int i, .int j => some (.pu (.int (i - j)))
  | .mul, .int i, .int j => if mulOk i j then some (.pu (.int (i * j))) else none
  | .mul, .list xs, .int k => if small64 k && decide (-9223372036854775808 ≤ k) && decide (k < 9223372036854775808) && lenOk (xs.length * k.toNat) then some (.fr (repL k.toNat xs)) else none
  | .mul, .tuple xs, .int k => if decide (2 ≤ k) && decide (k ≤ 1000) && Nat.ble xs.length 1000 && !xs.isEmpty then some (.pu (.tuple (repL k.toNat xs))) else if decide (k = 1) then some (.pu (.tuple xs)) else none
  | .fdiv, .int i, .int j => if decide (0 < j) && Nat.blt j.natAbs.log2 9000 then some (.pu (.int (i / j))) else none
  | .mod, .int i, .int j => if decide (0 < j) then some (.pu (.int (i % j))) else none
  | .pow, .int i, .int j => if decide (0 ≤ j) && decide (j ≤ 1000000) && small64 i then some (.pu (.int (i ^ j.toNat))) else none
  | _, _, _ => none

/-- None, bools, ints, texts, told apart as data does -/
def scalD : D → D → Option Bool
  | .none, .none => some true
  | .none, .int _ => some false
  | .int _, .none => some false
  | .none, .bool _ => some false
  | .bool _, .none => some false
  | .none, .str _ => some false
  | .str _, .none => some false
  | .int i, .int j => some (decide (i = j))
  | .bool a, .bool b => some (decide (a = b))
  | .str x, .str y => some (decide (x = y))
  | .int _, .str _ => some false
  | .str _, .int _ => some false
  | .bool _, .str _ => some false
  | .str _, .bool _ => some false
  | _, _ => none
def eqD (a b : D) : Option Bool := match scalD a b with
  | some r => some r
  | none => if SeqAt.shaped a && SeqAt.shaped b then some (PyData.eqv a b) else none
def memD (a : D) : D → Option Bool
  | .list ds => if SeqAt.shaped a && SeqAt.shaped (.list ds) then some (ds.any fun z => PyData.eqv z a) else none
  | .tuple ds => if SeqAt.shaped a && SeqAt.shaped (.list ds) then some (ds.any fun z => PyData.eqv z a) else none
  | _ => none
def isNon : D → Bool
  | .none => true
  | _ => false
def cmpV : COp → D → D → Option Bool
  | .eq, a, b => eqD a b
  | .ne, a, b => (eqD a b).map not
  | .lt, .int i, .int j => some (decide (i < j))
  | .le, .int i, .int j => some (decide (i ≤ j))
  | .gt, .int i, .int j => some (decide (j < i))
  | .ge, .int i, .int j => some (decide (j ≤ i))
  | .isN, a, .none => some (isNon a)
  | .notN, a, .none => some (!isNon a)
  | .isB, .bool a, .bool b => some (decide (a = b))
  | .notB, .bool a, .bool b => some (!decide (a = b))
  | .mem, a, b => memD a b
  | .nmem, a, b => (memD a b).map not
  | _, _, _ => none

def ixOf {α : Type} (xs : List α) (i : Int) : Option α := L2.atI xs i
def idxV : D → D → Option D
  | .list xs, .int i => ixOf xs i
  | .tuple xs, .int i => ixOf xs i
  | _, _ => none
def cutL (xs : List D) (lo hi : Option Int) : List D := (xs.drop (HT.sIx xs.length 0 lo)).take (HT.sIx xs.length xs.length hi - HT.sIx xs.length 0 lo)
def slcV (d : D) (lo hi : Option Int) : Option Opd := match d with
  | .list xs => some (.fr (cutL xs lo hi))
  | .tuple xs => some (.pu (.tuple (cutL xs lo hi)))
  | _ => none
def revV : D → Option Opd
  | .list xs => some (.fr xs.reverse)
  | _ => none
def negV : D → Option D
  | .int i => some (.int (-i))
  | _ => none

def boolsOf : List D → Option (List Bool)
  | [] => some []
  | .bool b :: r => (boolsOf r).map (b :: ·)
  | _ => none
def intsOf : List D → Option (List Int)
  | [] => some []
  | .int i :: r => (intsOf r).map (i :: ·)
  | _ => none

def tyIs : Ty → D → Bool
  | .int, .int _ => true
  | .int, .bool _ => true
  | .bool, .bool _ => true
  | .str, .str _ => true
  | .list, .list _ => true
  | .tuple, .tuple _ => true
  | .dict, .dict _ => true
  | _, _ => false

/-- sorting by insertion, equal ones in their order -/
def ins {α : Type} (le : α → α → Bool) (a : α) : List α → List α
  | [] => [a]
  | b :: r => if le a b then a :: b :: r else b :: ins le a r
def isort {α : Type} (le : α → α → Bool) : List α → List α
  | [] => []
  | a :: r => ins le a (isort le r)
def alikes (d : D) : List D → Bool
  | [] => true
  | e :: r => PySem.W.alike d e && PySem.W.alike e d && alikes d r
def allAlike : List D → Bool
  | [] => true
  | d :: r => PySem.W.alike d d && alikes d r && allAlike r
def tupNE : D → Bool
  | .tuple (_ :: _) => true
  | _ => false
def noTupNone : D → Bool
  | .none => false
  | .tuple _ => false
  | _ => true
def deepMax (ds : List D) : Nat := PyData.depthAll ds
def sortOk (ds : List D) : Bool := allAlike ds && (ds.all tupNE || ds.all noTupNone) && Nat.ble (deepMax ds) 64 && !PyData.hasDictAll ds
def sortV (ds : List D) : Option (List D) := if sortOk ds then some (isort (PySem.W.dataLe false id) ds) else none

mutual
/-- what repr shows in a bounded text -/
def rOk : D → Bool
  | .none => true
  | .bool _ => true
  | .int i => Nat.blt i.natAbs 1000000000000 || (Nat.blt i.natAbs.log2 1920 && Nat.ble (PyData.shown (.int i)).length 1000)
  | .str x => PyData.strOk x && Nat.ble (reprText x).length 1000
  | .list xs => rOkAll xs
  | .tuple xs => rOkAll xs
  | .dict kvs => kvs.isEmpty
def rOkAll : List D → Bool
  | [] => true
  | x :: xs => rOk x && rOkAll xs
end
mutual
/-- no list within -/
def noLst : D → Bool
  | .none => true
  | .bool _ => true
  | .int _ => true
  | .str _ => true
  | .list _ => false
  | .tuple xs => noLsts xs
  | .dict _ => true
def noLsts : List D → Bool
  | [] => true
  | x :: xs => noLst x && noLsts xs
end
def reprOk (d : D) : Bool := rOk d && (!d.hasDict || noLst d) && Nat.ble d.depth 64 && Nat.ble d.bulk 15000

def bltV : Blt → List D → Option Opd
  | .len, [.list xs] => some (.pu (.int xs.length))
  | .len, [.tuple xs] => some (.pu (.int xs.length))
  | .len, [.str s] => if lenOk s.length then some (.pu (.int s.length)) else none
  | .abs, [.int i] => some (.pu (.int (if i < 0 then -i else i)))
  | .max2, [.int i, .int j] => some (.pu (.int (if j > i then j else i)))
  | .min2, [.int i, .int j] => some (.pu (.int (if j < i then j else i)))
  | .int1, [.int i] => some (.pu (.int i))
  | .tuple1, [.list xs] => some (.pu (.tuple xs))
  | .tuple1, [.tuple xs] => some (.pu (.tuple xs))
  | .list1, [.list xs] => some (.fr xs)
  | .list1, [.tuple xs] => some (.fr xs)
  | .all1, [.list xs] => (boolsOf xs).map fun bs => .pu (.bool (bs.all id))
  | .any1, [.list xs] => (boolsOf xs).map fun bs => .pu (.bool (bs.any id))
  | .sum1, [.list xs] => (intsOf xs).map fun ns => .pu (.int ns.sum)
  | .sum1, [.tuple xs] => (intsOf xs).map fun ns => .pu (.int ns.sum)
  | .sorted1, [.list xs] => (sortV xs).map .fr
  | .repr1, [d] => if reprOk d then some (.pu (.str d.shown)) else none
  | .gcd2, [.int i, .int j] => some (.pu (.int ((Nat.gcd i.natAbs j.natAbs : Nat) : Int)))
  | .divmod2, [.int i, .int j] => if decide (0 < j) && decide (j < 1073741824) then some (.pu (.tuple [.int (i / j), .int (i % j)])) else none
  | _, _ => none

def rngOk (a b : Int) : Bool := decide (-4611686018427387904 ≤ a) && decide (a < 4611686018427387904) && decide (-4611686018427387904 ≤ b) && decide (b < 4611686018427387904)
/-- lo, lo + 1, .. n of them -/
def ups (lo : Int) : Nat → List D
  | 0 => []
  | n + 1 => .int lo :: ups (lo + 1) n
def rngV : D → D → Option (List D)
  | .int a, .int b => if rngOk a b then some (ups a (b - a).toNat) else none
  | _, _ => none
def enuL (k : Nat) : List D → List D
  | [] => []
  | d :: r => .tuple [.int k, d] :: enuL (k + 1) r
def seqV : D → Option (List D)
  | .list xs => some xs
  | .tuple xs => some xs
  | _ => none
def zipL : List D → List D → List D
  | a :: r, b :: s => .tuple [a, b] :: zipL r s
  | _, _ => []
def zipV : D → D → Option (List D)
  | .list xs, .list ys => some (zipL xs ys)
  | .tuple xs, .tuple ys => some (zipL xs ys)
  | _, _ => none

/-! ### slots -/
def slv (d : D) : Sl := .val d
def putv (env : Ev) (i : Nat) (s : Sl) : Option Ev := if Nat.blt i env.length then some (env.set i s) else none
def wipeE (env : Ev) : List Nat → Ev
  | [] => env
  | i :: is => (wipeE env is).set i .emp
def valOnly : Option Sl → Sl
  | some (.val d) => .val d
  | _ => .emp
/-- the slots of a comprehension's own names as they were (values alone) -/
def backE (env0 : Ev) (env : Ev) : List Nat → Ev
  | [] => env
  | i :: is => (backE env0 env is).set i (valOnly env0[i]?)
def distinct : List (Option Nat) → Bool
  | [] => true
  | i :: r => !r.contains i && distinct r
/-- the lists handed in: the slots that hold them, or none's -/
def iosOf (env : Ev) : List Opd → List (Option Nat)
  | [] => []
  | .bo i :: r => (match env[i]? with | some (.own _ _) => some i :: iosOf env r | _ => iosOf env r)
  | .fo _ :: r => none :: iosOf env r
  | _ :: r => iosOf env r
def arOf (env : Ev) : Opd → Option Ar
  | .pu d => some (.pu d)
  | .fr xs => some (.pu (.list xs))
  | .bo i => match env[i]? with
    | some (.own _ xs) => some (.io xs)
    | some (.scr _ xs) => some (.sc xs)
    | _ => none
  | .fo xs => some (.io xs)
  | .fd _ => none
def arsOf (env : Ev) : List Opd → Option (List Ar)
  | [] => some []
  | o :: r => match arOf env o, arsOf env r with
    | some a, some s => some (a :: s)
    | _, _ => none
def backOut (env : Ev) : List (Option Nat) → List (List D) → Option Ev
  | [], [] => some env
  | none :: is, _ :: xss => backOut env is xss
  | some i :: is, xs :: xss => match env[i]? with
    | some (.own t _) => backOut (env.set i (.own t xs)) is xss
    | _ => none
  | _, _ => none
def pick {α : Type} (os : List α) : List Nat → Option (List α)
  | [] => some []
  | p :: ps => match os[p]?, pick os ps with
    | some o, some r => some (o :: r)
    | _, _ => none
def rvO : Rv → Opd
  | .pu d => .pu d
  | .fr xs => .fr xs
def callO (F : FT) (f : Nat) (os : List Opd) (env : Ev) : Option (Opd × Ev) :=
  match arsOf env os with
  | none => none
  | some as => if distinct (iosOf env os) then
      match F f as with
      | none => none
      | some (rv, outs) => match backOut env (iosOf env os) outs with
        | none => none
        | some env' => some (rvO rv, env')
    else none

def setAt (env : Ev) (i : Nat) (k d : D) : Option Ev := match env[i]?, k with
  | some (.own t xs), .int j => match L2.ixN xs.length j with
    | some m => some (env.set i (.own t (xs.set m d)))
    | none => none
  | _, _ => none
def mthV (m : Mth) (env : Ev) (i : Nat) (os : List Opd) : Option (Opd × Ev) := match env[i]? with
  | some (.own t xs) => match m, os with
    | .append, [o] => match frzd o with
      | some d => if Nat.blt xs.length 16777216 then some (.pu .none, env.set i (.own t (xs ++ [d]))) else none
      | none => none
    | .extend, [o] => match frzd o with
      | some (.list ys) => if lenOk (xs.length + ys.length) then some (.pu .none, env.set i (.own t (xs ++ ys))) else none
      | _ => none
    | .pop0, [] => match xs[xs.length - 1]? with
      | some d => some (.pu d, env.set i (.own t xs.dropLast))
      | none => none
    | .pop1, [.pu (.int k)] => if decide (-9223372036854775808 ≤ k) && decide (k < 9223372036854775808) then match L2.ixN xs.length k with
        | some n => match xs[n]? with
          | some d => some (.pu d, env.set i (.own t (xs.eraseIdx n)))
          | none => none
        | none => none
      else none
    | .insert, [.pu (.int k), o] => match frzd o with
      | some d => if decide (0 ≤ k) && decide (k ≤ xs.length) && Nat.blt xs.length 16777216 then some (.pu .none, env.set i (.own t (xs.take k.toNat ++ d :: xs.drop k.toNat))) else none
      | none => none
    | _, _ => none
  | _ => none

/-! ### loops -/
inductive Fl where
  | nx (e : Ev) | rt (o : Opd) (e : Ev) | bk (e : Ev) | ct (e : Ev)
def lcLoop (st : D → Ev → Option Ev) (ts : Ev → Option (Bool × Ev)) (el : Ev → Option (D × Ev)) (own : List Nat) : List D → Ev → Option (List D × Ev)
  | [], env => some ([], env)
  | d :: ds, env => match st d env with
    | none => none
    | some e1 => match ts e1 with
      | none => none
      | some (false, e2) => lcLoop st ts el own ds (wipeE e2 own)
      | some (true, e2) => match el e2 with
        | none => none
        | some (x, e3) => match lcLoop st ts el own ds (wipeE e3 own) with
          | none => none
          | some (xs, e4) => some (x :: xs, e4)
def foLoop (st : D → Ev → Option Ev) (bd : Ev → Option Fl) : List D → Ev → Option Fl
  | [], env => some (.nx env)
  | d :: ds, env => match st d env with
    | none => none
    | some e1 => match bd e1 with
      | some (.nx e2) => foLoop st bd ds e2
      | some (.ct e2) => foLoop st bd ds e2
      | some (.bk e2) => some (.nx e2)
      | some (.rt o e2) => some (.rt o e2)
      | none => none
def whLoop (ts : Ev → Option (Bool × Ev)) (bd : Ev → Option Fl) : Nat → Ev → Option Fl
  | 0, _ => none
  | n + 1, env => match ts env with
    | none => none
    | some (false, e1) => some (.nx e1)
    | some (true, e1) => match bd e1 with
      | some (.nx e2) => whLoop ts bd n e2
      | some (.ct e2) => whLoop ts bd n e2
      | some (.bk e2) => some (.nx e2)
      | some (.rt o e2) => some (.rt o e2)
      | none => none
mutual
/-- the names that a target stores -/
def tgS : IT → List Nat
  | .nm i => [i]
  | .tp ts => tgSs ts
  | .sub _ _ => []
def tgSs : ITs → List Nat
  | .nil => []
  | .cons t ts => tgS t ++ tgSs ts
end
mutual
def noSub : IT → Bool
  | .nm _ => true
  | .tp ts => noSubs ts
  | .sub _ _ => false
def noSubs : ITs → Bool
  | .nil => true
  | .cons t ts => noSub t && noSubs ts
end

def frzE : Option (Opd × Ev) → Option (D × Ev)
  | none => none
  | some (o, e) => match frzd o with
    | some d => some (d, e)
    | none => none
def lcV (st : D → Ev → Option Ev) (ts : Ev → Option (Bool × Ev)) (el : Ev → Option (D × Ev)) (own : List Nat) : Option (List D × Ev) → Option (Opd × Ev)
  | none => none
  | some (ds, e1) => match lcLoop st ts el own ds (wipeE e1 own) with
    | none => none
    | some (xs, e2) => if lenOk xs.length then some (.fr xs, backE e1 e2 own) else none
mutual
/-- an expression -/
def evE (F : FT) (C : List D) : IE → Ev → Option (Opd × Ev)
  | .var i, env => match env[i]? with
    | some (.val d) => some (.pu d, env)
    | some (.own _ _) => some (.bo i, env)
    | some (.scr _ _) => some (.bo i, env)
    | some (.dic _) => some (.bo i, env)
    | _ => none
  | .frz i, env => match env[i]? with
    | some (.val d) => some (.pu d, env)
    | some (.own 0 xs) => some (.pu (.list xs), env.set i (.val (.list xs)))
    | some (.dic kvs) => some (.pu (.dict kvs), env.set i (.val (.dict kvs)))
    | _ => none
  | .cst d, env => some (.pu d, env)
  | .glo n, env => match C[n]? with
    | some d => some (.pu d, env)
    | none => none
  | .bin o a b, env => match evE F C a env with
    | none => none
    | some (x, e1) => match evE F C b e1 with
      | none => none
      | some (y, e2) => match rdp e2 x, rdp e2 y with
        | some p, some q => (binV o p q).map (·, e2)
        | _, _ => none
  | .neg a, env => match evE F C a env with
    | some (.pu d, e1) => (negV d).map fun r => (.pu r, e1)
    | _ => none
  | .cmp o a b, env => match evE F C a env with
    | none => none
    | some (x, e1) => match evE F C b e1 with
      | none => none
      | some (y, e2) => match rds e2 x, rds e2 y with
        | some p, some q => (cmpV o p q).map fun r => (.pu (.bool r), e2)
        | _, _ => none
  | .chn o o' a b c, env => match evE F C a env with
    | none => none
    | some (x, e1) => match evE F C b e1 with
      | none => none
      | some (y, e2) => match rds e2 x, rds e2 y with
        | some p, some q => match cmpV o p q with
          | none => none
          | some false => some (.pu (.bool false), e2)
          | some true => match evE F C c e2 with
            | none => none
            | some (z, e3) => match rds e3 y, rds e3 z with
              | some q', some r => (cmpV o' q' r).map fun k => (.pu (.bool k), e3)
              | _, _ => none
        | _, _ => none
  | .and2 a b, env => match evE F C a env with
    | some (.pu (.bool true), e1) => evE F C b e1
    | some (.pu (.bool false), e1) => some (.pu (.bool false), e1)
    | _ => none
  | .or2 a b, env => match evE F C a env with
    | some (.pu (.bool false), e1) => evE F C b e1
    | some (.pu (.bool true), e1) => some (.pu (.bool true), e1)
    | _ => none
  | .nt a, env => match evE F C a env with
    | some (.pu (.bool b), e1) => some (.pu (.bool (!b)), e1)
    | _ => none
  | .ite c a b, env => match evE F C c env with
    | some (.pu (.bool true), e1) => evE F C a e1
    | some (.pu (.bool false), e1) => evE F C b e1
    | _ => none
  | .tup es, env => match evP F C es env with
    | some (ds, e1) => if lenOk ds.length then some (.pu (.tuple ds), e1) else none
    | none => none
  | .lst es, env => match evP F C es env with
    | some (ds, e1) => if lenOk ds.length then some (.fr ds, e1) else none
    | none => none
  | .idx a i, env => match evE F C a env with
    | none => none
    | some (x, e1) => match evE F C i e1 with
      | some (.pu k, e2) => match rds e2 x with
        | some d => (idxV d k).map fun r => (.pu r, e2)
        | none => none
      | _ => none
  | .slc a lo hi, env => match evE F C a env with
    | none => none
    | some (x, e1) => match evO F C lo e1 with
      | none => none
      | some (l, e2) => match evO F C hi e2 with
        | none => none
        | some (h, e3) => match rds e3 x with
          | some d => (slcV d l h).map (·, e3)
          | none => none
  | .rev a, env => match evE F C a env with
    | none => none
    | some (x, e1) => match rds e1 x with
      | some d => (revV d).map (·, e1)
      | none => none
  | .call f es, env => match evA F C es env with
    | none => none
    | some (os, e1) => callO F f os e1
  | .callk f p es, env => match evA F C es env with
    | none => none
    | some (os, e1) => match pick os p with
      | some os' => callO F f os' e1
      | none => none
  | .blt b es, env => match evA F C es env with
    | none => none
    | some (os, e1) => match rdsAll e1 os with
      | some ds => (bltV b ds).map (·, e1)
      | none => none
  | .isi a ts, env => match evE F C a env with
    | none => none
    | some (x, e1) => match rdp e1 x with
      | some d => some (.pu (.bool (ts.any fun t => tyIs t d)), e1)
      | none => none
  | .lrg lo hi, env => match evE F C lo env with
    | some (.pu a, e1) => match evE F C hi e1 with
      | some (.pu b, e2) => match rngV a b with
        | some xs => if lenOk xs.length then some (.fr xs, e2) else none
        | none => none
      | _ => none
    | _ => none
  | .trg lo hi, env => match evE F C lo env with
    | some (.pu a, e1) => match evE F C hi e1 with
      | some (.pu b, e2) => match rngV a b with
        | some xs => if lenOk xs.length then some (.pu (.tuple xs), e2) else none
        | none => none
      | _ => none
    | _ => none
  | .lc elt tg it cd own, env => lcV (fun d e => asgT F C tg d e) (fun e => evD F C cd e) (fun e => frzE (evE F C elt e)) own (evI F C it env)
  | .mth m i es, env => match env[i]? with
    | some (.own _ _) => match evA F C es env with
      | none => none
      | some (os, e1) => mthV m e1 i os
    | _ => none
  | .rpr es, env => match evA F C es env with
    | none => none
    | some (os, e1) => match rdsAll e1 os with
      | some ds => if lenOk ds.length && reprOk (.list ds) then some (.pu (.str (PyData.shown (.list ds))), e1) else none
      | none => none
  | .giv e, env => match evE F C e env with
    | some (.fr xs, e1) => some (.fo xs, e1)
    | _ => none
  | .dnw, env => some (.fd [], env)
  | .ds1 k v, env => match evE F C k env with
    | some (.pu p, e1) => match evE F C v e1 with
      | none => none
      | some (o, e2) => match frzd o with
        | none => none
        | some d => if isKey p then some (.fd [(p, d)], e2) else none
    | _ => none
  | .dof a, env => match evE F C a env with
    | none => none
    | some (o, e1) => match frzd o with
      | none => none
      | some d => match seqV d with
        | none => none
        | some xs => match prsOf xs with
          | some kvs => if lenOk kvs.length then some (.fd (kmrg [] kvs), e1) else none
          | none => none
  | .dix a k, env => match evE F C a env with
    | none => none
    | some (x, e1) => match evE F C k e1 with
      | some (.pu p, e2) => match rds e2 x with
        | some (.dict kvs) => if isKey p then (kget kvs p).map fun r => (.pu r, e2) else none
        | _ => none
      | _ => none
  | .din n a b, env => match evE F C a env with
    | some (.pu p, e1) => match evE F C b e1 with
      | none => none
      | some (y, e2) => match rds e2 y with
        | some (.dict kvs) => if isKey p then some (.pu (.bool (khas kvs p != n)), e2) else none
        | _ => none
    | _ => none
  | .dgt a k d, env => match evE F C a env with
    | some (.pu (.dict kvs), e1) => match evE F C k e1 with
      | some (.pu p, e2) => match evE F C d e2 with
        | some (.pu q, e3) => if isKey p then some (.pu ((kget kvs p).getD q), e3) else none
        | _ => none
      | _ => none
    | _ => none
  | .lset a, env => match evE F C a env with
    | none => none
    | some (x, e1) => match rds e1 x with
      | some (.list xs) => match intsOf xs with
        | some ns => if Nat.ble ns.length 4000 then some (.pu (.int (dedup [] ns).length), e1) else none
        | none => none
      | _ => none
  | .sset a, env => match evE F C a env with
    | none => none
    | some (x, e1) => match rds e1 x with
      | some (.list xs) => match intsOf xs with
        | some ns => if Nat.ble ns.length 60 then some (.fr ((isort (fun a b : Int => decide (a ≤ b)) (dedup [] ns)).map .int), e1) else none
        | none => none
      | _ => none
/-- an optional int -/
def evO (F : FT) (C : List D) : IO → Ev → Option (Option Int × Ev)
  | .non, env => some (none, env)
  | .som e, env => match evE F C e env with
    | some (.pu (.int i), e1) => some (some i, e1)
    | _ => none
/-- a comprehension's test -/
def evD (F : FT) (C : List D) : IO → Ev → Option (Bool × Ev)
  | .non, env => some (true, env)
  | .som e, env => match evE F C e env with
    | some (.pu (.bool b), e1) => some (b, e1)
    | _ => none
/-- items, each a value from now on -/
def evP (F : FT) (C : List D) : IEs → Ev → Option (List D × Ev)
  | .nil, env => some ([], env)
  | .cons e es, env => match evE F C e env with
    | none => none
    | some (o, e1) => match frzd o with
      | none => none
      | some d => match evP F C es e1 with
        | none => none
        | some (ds, e2) => some (d :: ds, e2)
/-- arguments -/
def evA (F : FT) (C : List D) : IEs → Ev → Option (List Opd × Ev)
  | .nil, env => some ([], env)
  | .cons e es, env => match evE F C e env with
    | none => none
    | some (o, e1) => match evA F C es e1 with
      | none => none
      | some (os, e2) => some (thaw o :: os, e2)
/-- what is walked -/
def evI (F : FT) (C : List D) : II → Ev → Option (List D × Ev)
  | .it a, env => match evE F C a env with
    | none => none
    | some (o, e1) => match frzd o with
      | none => none
      | some d => (seqV d).map (·, e1)
  | .rng lo hi, env => match evE F C lo env with
    | some (.pu a, e1) => match evE F C hi e1 with
      | some (.pu b, e2) => (rngV a b).map (·, e2)
      | _ => none
    | _ => none
  | .enu a, env => match evE F C a env with
    | none => none
    | some (o, e1) => match frzd o with
      | none => none
      | some d => (seqV d).map fun xs => (enuL 0 xs, e1)
  | .zip a b, env => match evE F C a env with
    | none => none
    | some (x, e1) => match frzd x with
      | none => none
      | some p => match evE F C b e1 with
        | none => none
        | some (y, e2) => match frzd y with
          | none => none
          | some q => (zipV p q).map (·, e2)
  | .dks a, env => match evE F C a env with
    | none => none
    | some (o, e1) => match frzd o with
      | some (.dict kvs) => some (kvs.map (·.1), e1)
      | _ => none
/-- a value stored -/
def asgT (F : FT) (C : List D) : IT → D → Ev → Option Ev
  | .nm i, d, env => putv env i (.val d)
  | .tp ts, .tuple ds, env => asgTs F C ts ds env
  | .tp _, _, _ => none
  | .sub i e, d, env => match env[i]? with
    | some (.own _ _) => match evE F C e env with
      | some (.pu k, e1) => setAt e1 i k d
      | _ => none
    | _ => none
def asgTs (F : FT) (C : List D) : ITs → List D → Ev → Option Ev
  | .nil, [], env => some env
  | .cons t ts, d :: ds, env => match asgT F C t d env with
    | none => none
    | some e1 => asgTs F C ts ds e1
  | _, _, _ => none
end

/-- a new list, or a value, as slot i is to hold it -/
def slotOf (own : Bool) : Opd → Option Sl
  | .fr xs => some (if own then .own 0 xs else .val (.list xs))
  | .pu d => if own then none else some (.val d)
  | .fd kvs => some (if own then .dic kvs else .val (.dict kvs))
  | .bo _ => none
  | .fo _ => none
mutual
def evS (F : FT) (C : List D) : IS → Ev → Option Fl
  | .asg t e, env => match evE F C e env with
    | none => none
    | some (o, e1) => match frzd o with
      | none => none
      | some d => (asgT F C t d e1).map .nx
  | .own i e, env => match evE F C e env with
    | some (.fr xs, e1) => (putv e1 i (.own 0 xs)).map .nx
    | some (.fd kvs, e1) => (putv e1 i (.dic kvs)).map .nx
    | _ => none
  | .par2 i j u v a b, env => match evE F C a env with
    | none => none
    | some (x, e1) => match slotOf u x with
      | none => none
      | some s => match evE F C b e1 with
        | none => none
        | some (y, e2) => match slotOf v y with
          | none => none
          | some r => match putv e2 i s with
            | none => none
            | some e3 => (putv e3 j r).map .nx
  | .par3 i j l u v w a b c, env => match evE F C a env with
    | none => none
    | some (x, e1) => match slotOf u x with
      | none => none
      | some s => match evE F C b e1 with
        | none => none
        | some (y, e2) => match slotOf v y with
          | none => none
          | some r => match evE F C c e2 with
            | none => none
            | some (z, e3) => match slotOf w z with
              | none => none
              | some q => match putv e3 i s with
                | none => none
                | some e4 => match putv e4 j r with
                  | none => none
                  | some e5 => (putv e5 l q).map .nx
  | .ex e, env => match evE F C e env with
    | none => none
    | some (_, e1) => some (.nx e1)
  | .ret e, env => match evE F C e env with
    | none => none
    | some (o, e1) => some (.rt o e1)
  | .ite c a b, env => match evE F C c env with
    | some (.pu (.bool true), e1) => evSs F C a e1
    | some (.pu (.bool false), e1) => evSs F C b e1
    | _ => none
  | .fo t it b, env => if noSub t then match evI F C it env with
      | none => none
      | some (ds, e1) => foLoop (fun d e => asgT F C t d e) (fun e => evSs F C b e) ds e1
    else none
  | .wh c b, env => whLoop (fun e => match evE F C c e with
      | some (.pu (.bool k), e1) => some (k, e1)
      | _ => none) (fun e => evSs F C b e) 1000000 env
  | .pass, env => some (.nx env)
  | .brk, env => some (.bk env)
  | .cnt, env => some (.ct env)
  | .nev, _ => none
  | .dpt i k e, env => match evE F C e env with
    | none => none
    | some (o, e1) => match frzd o with
      | none => none
      | some d => match e1[i]? with
        | some (.dic _) => match evE F C k e1 with
          | some (.pu p, e2) => match e2[i]? with
            | some (.dic kvs) => if isKey p && Nat.blt kvs.length 16777216 then some (.nx (e2.set i (.dic (kput kvs p d)))) else none
            | _ => none
          | _ => none
        | _ => none
def evSs (F : FT) (C : List D) : ISs → Ev → Option Fl
  | .nil, env => some (.nx env)
  | .cons s ss, env => match evS F C s env with
    | some (.nx e1) => evSs F C ss e1
    | r => r
end

/-! ### defs -/
structure Fn where
  np : Nat
  ns : Nat
  body : ISs
def slOf : Nat → List Ar → Ev
  | _, [] => []
  | t, .pu d :: r => .val d :: slOf (t + 1) r
  | t, .io xs :: r => .own (t + 1) xs :: slOf (t + 1) r
  | t, .sc xs :: r => .scr (t + 1) xs :: slOf (t + 1) r
def outsOf (env : Ev) : Nat → List Ar → Option (List (List D))
  | _, [] => some []
  | t, .io _ :: r => match env[t]?, outsOf env (t + 1) r with
    | some (.own u xs), some xss => if u = t + 1 then some (xs :: xss) else none
    | _, _ => none
  | t, _ :: r => outsOf env (t + 1) r
def rvOf (env : Ev) : Opd → Option Rv
  | .pu d => some (.pu d)
  | .fr xs => some (.fr xs)
  | .bo i => match env[i]? with
    | some (.own 0 xs) => some (.fr xs)
    | _ => none
  | .fo _ => none
  | .fd _ => none
def finF (as : List Ar) : Fl → Option Rt
  | .nx e => match outsOf e 0 as with
    | some os => some (.pu .none, os)
    | none => none
  | .rt o e => match rvOf e o, outsOf e 0 as with
    | some r, some os => some (r, os)
    | _, _ => none
  | _ => none
def runF (F : FT) (C : List D) (fn : Fn) (as : List Ar) : Option Rt :=
  if as.length = fn.np then match evSs F C fn.body (slOf 0 as ++ List.replicate (fn.ns - fn.np) .emp) with
    | some r => finF as r
    | none => none
  else none
def callN (C : List D) (T : List Fn) : Nat → FT
  | 0, _, _ => none
  | k + 1, f, as => match T[f]? with
    | some fn => runF (callN C T k) C fn as
    | none => none
end Rf

set_option Elab.async false
set_option linter.all false
set_option maxRecDepth 100000
set_option maxHeartbeats 4000000
namespace Rf
open PySem PySem.Spec PyProof.Rows L2

/-! ### values and what stands for them -/
mutual
inductive Pu (K : PySem.W.Frag) (G : Hp) : D → V → Prop
  | non : Pu K G .none .non
  | bl (b : Bool) : Pu K G (.bool b) (.bl b)
  | int (i : Int) : Pu K G (.int i) (.int i)
  | str (x : Str) : Pu K G (.str x) (.str x)
  | lst {a : Addr} {ys : List V} {ds : List D} : G a = some (.lst ys) → PuA K G ds ys → Pu K G (.list ds) (.ref a)
  | tup {a : Addr} {ys : List V} {ds : List D} : SqT K G a ys → PuA K G ds ys → Pu K G (.tuple ds) (.ref a)
  | dic {a : Addr} {qs : List (Key × V)} {kvs : List (D × D)} : G a = some (.dK qs) → PuK K G kvs qs → Pu K G (.dict kvs) (.ref a)
inductive PuA (K : PySem.W.Frag) (G : Hp) : List D → List V → Prop
  | nil : PuA K G [] []
  | cons {d : D} {v : V} {ds : List D} {vs : List V} : Pu K G d v → PuA K G ds vs → PuA K G (d :: ds) (v :: vs)
inductive PuK (K : PySem.W.Frag) (G : Hp) : List (D × D) → List (Key × V) → Prop
  | nil : PuK K G [] []
  | cons {p d : D} {k : Key} {v : V} {ds : List (D × D)} {vs : List (Key × V)} : keyD p = some k → Pu K G d v → PuK K G ds vs → PuK K G ((p, d) :: ds) ((k, v) :: vs)
end

abbrev Sub (G H : Hp) : Prop := ∀ a o, G a = some o → H a = some o
theorem Sub.refl (G : Hp) : Sub G G := fun _ _ e => e
theorem Sub.trans {G H J : Hp} (a : Sub G H) (b : Sub H J) : Sub G J := fun x o e => b x o (a x o e)
theorem sqT_sub {K : PySem.W.Frag} {G H : Hp} (s : Sub G H) {a : Addr} {ys : List V} (h : SqT K G a ys) : SqT K H a ys := by
  rcases h with (h | ⟨o, h⟩) | h
  · exact .inl (.inl (s _ _ h))
  · exact .inl (.inr ⟨o, s _ _ h⟩)
  · exact .inr h
section
variable {K : PySem.W.Frag} {G H : Hp}
mutual
theorem Pu.mono (s : Sub G H) : ∀ {d : D} {v : V}, Pu K G d v → Pu K H d v
  | _, _, .non => .non
  | _, _, .bl b => .bl b
  | _, _, .int i => .int i
  | _, _, .str x => .str x
  | _, _, .lst e r => .lst (s _ _ e) (PuA.mono s r)
  | _, _, .tup e r => .tup (sqT_sub s e) (PuA.mono s r)
  | _, _, .dic e r => .dic (s _ _ e) (PuK.mono s r)
theorem PuA.mono (s : Sub G H) : ∀ {ds : List D} {vs : List V}, PuA K G ds vs → PuA K H ds vs
  | _, _, .nil => .nil
  | _, _, .cons a b => .cons (Pu.mono s a) (PuA.mono s b)
theorem PuK.mono (s : Sub G H) : ∀ {ds : List (D × D)} {vs : List (Key × V)}, PuK K G ds vs → PuK K H ds vs
  | _, _, .nil => .nil
  | _, _, .cons e a b => .cons e (Pu.mono s a) (PuK.mono s b)
end
mutual
theorem Pu.dp : ∀ {d : D} {v : V}, d.hasDict = false → Pu K G d v → Dp K G v d
  | _, _, _, .non => .non
  | _, _, _, .bl b => .bl b
  | _, _, _, .int i => .int i
  | _, _, _, .str x => .str x
  | _, _, h, .lst e r => .lst (SqL.of e) (PuA.dp (by simpa only [PyData.hasDict] using h) r)
  | _, _, h, .tup e r => .tup e (PuA.dp (by simpa only [PyData.hasDict] using h) r)
  | _, _, h, .dic e r => by simp only [PyData.hasDict] at h; cases h
theorem PuA.dp : ∀ {ds : List D} {vs : List V}, PyData.hasDictAll ds = false → PuA K G ds vs → DpAll K G vs ds
  | _, _, _, .nil => .nil
  | _, _, h, .cons a b => by
    simp only [PyData.hasDictAll, Bool.or_eq_false_iff] at h
    exact .cons (Pu.dp h.1 a) (PuA.dp h.2 b)
end
theorem PuK.length : ∀ {ds : List (D × D)} {vs : List (Key × V)}, PuK K G ds vs → ds.length = vs.length
  | _, _, .nil => rfl
  | _, _, .cons _ _ b => congrArg Nat.succ (PuK.length b)
theorem PuA.length : ∀ {ds : List D} {vs : List V}, PuA K G ds vs → ds.length = vs.length
  | _, _, .nil => rfl
  | _, _, .cons _ b => congrArg Nat.succ (PuA.length b)
theorem PuA.get : ∀ {ds : List D} {vs : List V} {i : Nat} {d : D}, PuA K G ds vs → ds[i]? = some d → ∃ v, vs[i]? = some v ∧ Pu K G d v
  | _, _, _, _, .nil, e => by simp at e
  | _, _, 0, _, .cons a _, e => by simp at e; subst e; exact ⟨_, rfl, a⟩
  | _, _, i + 1, _, .cons _ b, e => by
    obtain ⟨v, h1, h2⟩ := PuA.get (i := i) b (by simpa using e)
    exact ⟨v, by simpa using h1, h2⟩
theorem PuA.getv : ∀ {ds : List D} {vs : List V} {i : Nat} {v : V}, PuA K G ds vs → vs[i]? = some v → ∃ d, ds[i]? = some d ∧ Pu K G d v
  | _, _, _, _, .nil, e => by simp at e
  | _, _, 0, _, .cons a _, e => by simp at e; subst e; exact ⟨_, rfl, a⟩
  | _, _, i + 1, _, .cons _ b, e => by
    obtain ⟨v, h1, h2⟩ := PuA.getv (i := i) b (by simpa using e)
    exact ⟨v, by simpa using h1, h2⟩
theorem PuA.append : ∀ {ds es : List D} {vs ws : List V}, PuA K G ds vs → PuA K G es ws → PuA K G (ds ++ es) (vs ++ ws)
  | _, _, _, _, .nil, s => s
  | _, _, _, _, .cons a b, s => .cons a (PuA.append b s)
theorem PuA.take : ∀ {ds : List D} {vs : List V} (n : Nat), PuA K G ds vs → PuA K G (ds.take n) (vs.take n)
  | _, _, 0, _ => .nil
  | _, _, _ + 1, .nil => .nil
  | _, _, n + 1, .cons a b => .cons a (PuA.take n b)
theorem PuA.drop : ∀ {ds : List D} {vs : List V} (n : Nat), PuA K G ds vs → PuA K G (ds.drop n) (vs.drop n)
  | _, _, 0, r => r
  | _, _, _ + 1, .nil => .nil
  | _, _, n + 1, .cons _ b => PuA.drop n b
theorem PuA.set {d : D} {v : V} (r : Pu K G d v) : ∀ {ds : List D} {vs : List V} (i : Nat), PuA K G ds vs → PuA K G (ds.set i d) (vs.set i v)
  | _, _, _, .nil => .nil
  | _, _, 0, .cons _ b => .cons r b
  | _, _, i + 1, .cons a b => .cons a (PuA.set r i b)
theorem PuA.eraseIdx : ∀ {ds : List D} {vs : List V} (i : Nat), PuA K G ds vs → PuA K G (ds.eraseIdx i) (vs.eraseIdx i)
  | _, _, _, .nil => .nil
  | _, _, 0, .cons _ b => b
  | _, _, i + 1, .cons a b => .cons a (PuA.eraseIdx i b)
theorem PuA.dropLast {ds : List D} {vs : List V} (h : PuA K G ds vs) : PuA K G ds.dropLast vs.dropLast := by
  rw [List.dropLast_eq_take, List.dropLast_eq_take, h.length]
  exact PuA.take _ h
theorem PuA.reverse : ∀ {ds : List D} {vs : List V}, PuA K G ds vs → PuA K G ds.reverse vs.reverse
  | _, _, .nil => .nil
  | _, _, .cons a b => by
    rw [List.reverse_cons, List.reverse_cons]
    exact PuA.append (PuA.reverse b) (.cons a .nil)
theorem PuA.rep {ds : List D} {vs : List V} (h : PuA K G ds vs) : ∀ k : Nat, PuA K G (repL k ds) (List.replicate k vs).flatten
  | 0 => .nil
  | k + 1 => by
    rw [List.replicate_succ, List.flatten_cons]
    exact PuA.append h (PuA.rep h k)
theorem repL_length (ds : List D) : ∀ k, (repL k ds).length = k * ds.length
  | 0 => by simp [repL]
  | k + 1 => by simp only [repL, List.length_append, repL_length ds k]; rw [Nat.succ_mul, Nat.add_comm]
end

/-! ### the slots -/
/-- what the def's entry told: the addresses of the lists handed in, the heap -/
structure Gam where
  τ : Nat → Addr
  h0 : Hp

def ScrR (K : PySem.W.Frag) (H : Hp) (a : Addr) (ys : List V) : Prop := (∃ o, H a = some (.frz o (.lst ys))) ∨ ∀ H' : Hp, SqL K H' a ys
theorem ScrR.sq {K : PySem.W.Frag} {H : Hp} {a : Addr} {ys : List V} (h : ScrR K H a ys) : SqL K H a ys := by
  rcases h with ⟨o, h⟩ | h
  · exact .inl (.inr ⟨o, h⟩)
  · exact h H
def SlotR (K : PySem.W.Frag) (γ : Gam) (G H : Hp) (x : Option (Option V)) : Sl → Prop
  | .emp => True
  | .val d => ∃ v, x = some (some v) ∧ Pu K G d v
  | .own t xs => ∃ a ys, x = some (some (.ref a)) ∧ G a = none ∧ H a = some (.lst ys) ∧ PuA K G xs ys ∧ (t = 0 → γ.h0 a = none) ∧ (t ≠ 0 → a = γ.τ t)
  | .scr t xs => ∃ a ys, x = some (some (.ref a)) ∧ ScrR K H a ys ∧ PuA K G xs ys
  | .dic kvs => ∃ a qs, x = some (some (.ref a)) ∧ G a = none ∧ H a = some (.dK qs) ∧ PuK K G kvs qs ∧ γ.h0 a = none
def isOwn : Sl → Bool
  | .own _ _ => true
  | .dic _ => true
  | _ => false
/-- slot i holds a list, or a dict, at a -/
def OwnAt (env : Ev) (σ : L2.St) (i : Nat) (a : Addr) : Prop := (∃ s, env[i]? = some s ∧ isOwn s = true) ∧ σ[i]? = some (some (.ref a))
def Ow (env : Ev) (σ : L2.St) (a : Addr) : Prop := ∃ i, OwnAt env σ i a

structure Sr (K : PySem.W.Frag) (γ : Gam) (G H : Hp) (env : Ev) (σ : L2.St) : Prop where
  sub : Sub G H
  len : env.length = σ.length
  slot : ∀ (i : Nat) (s : Sl), env[i]? = some s → SlotR K γ G H (σ[i]?) s
  inj : ∀ i j a, OwnAt env σ i a → OwnAt env σ j a → i = j

/-- from one moment to a later one: what was told stays, what no slot held is as it was -/
structure Step (O : Addr → Prop) (G H : Hp) (O' : Addr → Prop) (G' H' : Hp) : Prop where
  g : Sub G G'
  h : ∀ a o, H a = some o → ¬ O a → H' a = some o
  n : ∀ a, H a ≠ none → G a = none → ¬ O a → G' a = none
  f : ∀ a, H a ≠ none → H' a ≠ none
  o : ∀ a, O' a → O a ∨ H a = none
section
variable {O O1 O2 : Addr → Prop} {G H G1 H1 G2 H2 : Hp}
theorem Step.refl : Step O G H O G H := ⟨Sub.refl G, fun _ _ e _ => e, fun _ _ e _ => e, fun _ e => e, fun _ h => .inl h⟩
theorem Step.trans (a : Step O G H O1 G1 H1) (b : Step O1 G1 H1 O2 G2 H2) : Step O G H O2 G2 H2 := by
  have key : ∀ x, H x ≠ none → ¬ O x → ¬ O1 x := fun x hx ho h1 => (a.o x h1).elim ho hx
  refine ⟨a.g.trans b.g, fun x o e ho => ?_, fun x hx hg ho => ?_, fun x hx => b.f x (a.f x hx), fun x h2 => ?_⟩
  · exact b.h x o (a.h x o e ho) (key x (by rw [e]; simp) ho)
  · exact b.n x (a.f x hx) (a.n x hx hg ho) (key x hx ho)
  · rcases b.o x h2 with h1 | h1
    · exact a.o x h1
    · refine .inr ?_
      cases q : H x with
      | none => rfl
      | some u => exact absurd h1 (a.f x (by rw [q]; simp))
end

section
variable {K : PySem.W.Frag} {γ : Gam} {G H G' H' : Hp} {env : Ev} {σ : L2.St}
theorem Sr.ow_at (s : Sr K γ G H env σ) {i t : Nat} {xs : List D} (e : env[i]? = some (.own t xs)) : ∃ a ys, σ[i]? = some (some (.ref a)) ∧ G a = none ∧ H a = some (.lst ys) ∧ PuA K G xs ys ∧ OwnAt env σ i a := by
  obtain ⟨a, ys, h1, h2, h3, h4, _⟩ := s.slot i _ e
  exact ⟨a, ys, h1, h2, h3, h4, ⟨_, e, rfl⟩, h1⟩
theorem Sr.dc_at (s : Sr K γ G H env σ) {i : Nat} {kvs : List (D × D)} (e : env[i]? = some (.dic kvs)) : ∃ a qs, σ[i]? = some (some (.ref a)) ∧ G a = none ∧ H a = some (.dK qs) ∧ PuK K G kvs qs ∧ γ.h0 a = none ∧ OwnAt env σ i a := by
  obtain ⟨a, qs, h1, h2, h3, h4, h5⟩ := s.slot i _ e
  exact ⟨a, qs, h1, h2, h3, h4, h5, ⟨_, e, rfl⟩, h1⟩
theorem Sr.ow_some (s : Sr K γ G H env σ) {a : Addr} (h : Ow env σ a) : G a = none ∧ ∃ o, H a = some o := by
  obtain ⟨i, ⟨sl, e, q⟩, h1⟩ := h
  cases sl with
  | own t xs =>
    obtain ⟨b, ys, h2, h3, h4, _⟩ := s.ow_at e
    rw [h1] at h2; cases h2
    exact ⟨h3, _, h4⟩
  | dic kvs =>
    obtain ⟨b, ys, h2, h3, h4, _⟩ := s.dc_at e
    rw [h1] at h2; cases h2
    exact ⟨h3, _, h4⟩
  | emp => cases q
  | val d => cases q
  | scr t xs => cases q
/-- a new object, not told yet -/
theorem Sr.newH (s : Sr K γ G H env σ) {p : Addr} {o : HO} (hp : H p = none) : Sr K γ G (upd H p o) env σ := by
  have up : Sub H (upd H p o) := fun a u e => by rw [upd_ne (ne_of_none e hp)]; exact e
  refine ⟨s.sub.trans up, s.len, fun i sl e => ?_, s.inj⟩
  have q := s.slot i sl e
  cases sl with
  | emp => trivial
  | val d => exact q
  | own t xs =>
    obtain ⟨a, ys, h1, h2, h3, h4, h5⟩ := q
    exact ⟨a, ys, h1, h2, up _ _ h3, h4, h5⟩
  | scr t xs =>
    obtain ⟨a, ys, h1, h2, h3⟩ := q
    refine ⟨a, ys, h1, ?_, h3⟩
    rcases h2 with ⟨o, h2⟩ | h2
    · exact .inl ⟨o, up _ _ h2⟩
    · exact .inr h2
  | dic kvs =>
    obtain ⟨a, qs, h1, h2, h3, h4, h5⟩ := q
    exact ⟨a, qs, h1, h2, up _ _ h3, h4, h5⟩
theorem Step.newH {O : Addr → Prop} {p : Addr} {o : HO} (hp : H p = none) : Step O G H O G (upd H p o) := by
  refine ⟨Sub.refl G, fun a u e _ => by rw [upd_ne (ne_of_none e hp)]; exact e, fun _ _ e _ => e, fun a e => ?_, fun _ h => .inl h⟩
  by_cases q : a = p
  · rw [q, upd_same]; simp
  · rw [upd_ne q]; exact e
theorem Sr.gnone (s : Sr K γ G H env σ) {p : Addr} (hp : H p = none) : G p = none := by
  cases q : G p with
  | none => rfl
  | some u => rw [s.sub _ _ q] at hp; cases hp
/-- an object told: it stands, and no slot holds it -/
theorem Sr.tell (s : Sr K γ G H env σ) {p : Addr} {o : HO} (hp : H p = some o) (hg : G p = none) (no : ¬ Ow env σ p) : Sr K γ (upd G p o) H env σ := by
  have up : Sub G (upd G p o) := fun a u e => by rw [upd_ne (ne_of_none e hg)]; exact e
  refine ⟨fun a u e => ?_, s.len, fun i sl e => ?_, s.inj⟩
  · by_cases q : a = p
    · subst q; rw [upd_same] at e; cases e; exact hp
    · rw [upd_ne q] at e; exact s.sub _ _ e
  · have q := s.slot i sl e
    cases sl with
    | emp => trivial
    | val d =>
      obtain ⟨v, h1, h2⟩ := q
      exact ⟨v, h1, h2.mono up⟩
    | own t xs =>
      obtain ⟨a, ys, h1, h2, h3, h4, h5⟩ := q
      refine ⟨a, ys, h1, ?_, h3, h4.mono up, h5⟩
      rw [upd_ne (fun z => no (by subst z; exact ⟨i, ⟨_, e, rfl⟩, h1⟩))]
      exact h2
    | scr t xs =>
      obtain ⟨a, ys, h1, h2, h3⟩ := q
      exact ⟨a, ys, h1, h2, h3.mono up⟩
    | dic kvs =>
      obtain ⟨a, qs, h1, h2, h3, h4, h5⟩ := q
      refine ⟨a, qs, h1, ?_, h3, h4.mono up, h5⟩
      rw [upd_ne (fun z => no (by subst z; exact ⟨i, ⟨_, e, rfl⟩, h1⟩))]
      exact h2
theorem sub_tell {p : Addr} {o : HO} (hg : G p = none) : Sub G (upd G p o) := fun a u e => by rw [upd_ne (ne_of_none e hg)]; exact e
/-- what is told was new, or nobody's -/
theorem Step.tell {O O1 : Addr → Prop} {Gs Hs : Hp} {p : Addr} {o : HO} (st : Step O Gs Hs O1 G H) (hs : Hs p = none ∨ O p) (hg : G p = none) : Step O Gs Hs O1 (upd G p o) H := by
  refine ⟨st.g.trans (sub_tell hg), st.h, fun a h1 h2 h3 => ?_, st.f, st.o⟩
  rw [upd_ne (fun z => ?_)]
  · exact st.n a h1 h2 h3
  · subst z
    exact hs.elim h1 h3
end

/-! ### operands -/
def OpdR (K : PySem.W.Frag) (G H : Hp) (env : Ev) (σ : L2.St) (Hs : Hp) (x : V) : Opd → Prop
  | .pu d => Pu K G d x
  | .bo i => σ[i]? = some (some x)
  | .fr xs => ∃ a ys, x = .ref a ∧ G a = none ∧ H a = some (.lst ys) ∧ PuA K G xs ys ∧ ¬ Ow env σ a ∧ Hs a = none
  | .fo xs => ∃ a ys, x = .ref a ∧ G a = none ∧ H a = some (.lst ys) ∧ PuA K G xs ys ∧ ¬ Ow env σ a ∧ Hs a = none
  | .fd kvs => ∃ a qs, x = .ref a ∧ G a = none ∧ H a = some (.dK qs) ∧ PuK K G kvs qs ∧ ¬ Ow env σ a ∧ Hs a = none
section
variable {K : PySem.W.Frag} {γ : Gam} {G H G' H' Hs Hs' : Hp} {env env' : Ev} {σ : L2.St} {x : V} {o : Opd}
/-- later -/
theorem OpdR.later (r : OpdR K G H env σ Hs x o) (st : Step (Ow env σ) G H (Ow env' σ) G' H') : OpdR K G' H' env' σ Hs x o := by
  cases o with
  | pu d => exact Pu.mono st.g r
  | bo i => exact r
  | fr xs =>
    obtain ⟨a, ys, rfl, h1, h2, h3, h4, h5⟩ := r
    refine ⟨a, ys, rfl, st.n a (by rw [h2]; simp) h1 h4, st.h a _ h2 h4, h3.mono st.g, fun z => ?_, h5⟩
    exact (st.o a z).elim h4 (by rw [h2]; simp)
  | fo xs =>
    obtain ⟨a, ys, rfl, h1, h2, h3, h4, h5⟩ := r
    refine ⟨a, ys, rfl, st.n a (by rw [h2]; simp) h1 h4, st.h a _ h2 h4, h3.mono st.g, fun z => ?_, h5⟩
    exact (st.o a z).elim h4 (by rw [h2]; simp)
  | fd xs =>
    obtain ⟨a, ys, rfl, h1, h2, h3, h4, h5⟩ := r
    refine ⟨a, ys, rfl, st.n a (by rw [h2]; simp) h1 h4, st.h a _ h2 h4, h3.mono st.g, fun z => ?_, h5⟩
    exact (st.o a z).elim h4 (by rw [h2]; simp)
theorem OpdR.start (r : OpdR K G H env σ Hs x o) (h : ∀ a, Hs a = none → Hs' a = none) : OpdR K G H env σ Hs' x o := by
  cases o with
  | pu d => exact r
  | bo i => exact r
  | fr xs => obtain ⟨a, ys, h1, h2, h3, h4, h5, h6⟩ := r; exact ⟨a, ys, h1, h2, h3, h4, h5, h _ h6⟩
  | fo xs => obtain ⟨a, ys, h1, h2, h3, h4, h5, h6⟩ := r; exact ⟨a, ys, h1, h2, h3, h4, h5, h _ h6⟩
  | fd xs => obtain ⟨a, ys, h1, h2, h3, h4, h5, h6⟩ := r; exact ⟨a, ys, h1, h2, h3, h4, h5, h _ h6⟩
/-- what is read now -/
inductive Rdv (K : PySem.W.Frag) (G H : Hp) : D → V → Prop
  | pu {d : D} {x : V} : Pu K G d x → Rdv K G H d x
  | li {xs : List D} {ys : List V} {a : Addr} : H a = some (.lst ys) → PuA K G xs ys → Rdv K G H (.list xs) (.ref a)
  | di {kvs : List (D × D)} {qs : List (Key × V)} {a : Addr} : H a = some (.dK qs) → PuK K G kvs qs → Rdv K G H (.dict kvs) (.ref a)
theorem Rdv.list {d : D} {xs : List D} (s : Sub G H) (r : Rdv K G H d x) (e : d = .list xs) : ∃ a ys, x = .ref a ∧ H a = some (.lst ys) ∧ PuA K G xs ys := by
  subst e
  cases r with
  | pu p => cases p with
    | lst h q => exact ⟨_, _, rfl, s _ _ h, q⟩
  | li h q => exact ⟨_, _, rfl, h, q⟩
theorem Rdv.dict {d : D} {kvs : List (D × D)} (s : Sub G H) (r : Rdv K G H d x) (e : d = .dict kvs) : ∃ a qs, x = .ref a ∧ H a = some (.dK qs) ∧ PuK K G kvs qs := by
  subst e
  cases r with
  | pu p => cases p with
    | dic h q => exact ⟨_, _, rfl, s _ _ h, q⟩
  | di h q => exact ⟨_, _, rfl, h, q⟩
theorem Rdv.tuple {d : D} {xs : List D} (r : Rdv K G H d x) (e : d = .tuple xs) : ∃ a ys, x = .ref a ∧ SqT K G a ys ∧ PuA K G xs ys := by
  subst e
  cases r with
  | pu p => cases p with
    | tup h q => exact ⟨_, _, rfl, h, q⟩
theorem Rdv.int {d : D} {i : Int} (r : Rdv K G H d x) (e : d = .int i) : x = .int i := by
  subst e
  cases r with
  | pu p => cases p; rfl
theorem Rdv.bl {d : D} {i : Bool} (r : Rdv K G H d x) (e : d = .bool i) : x = .bl i := by
  subst e
  cases r with
  | pu p => cases p; rfl
theorem Rdv.str {d : D} {i : Str} (r : Rdv K G H d x) (e : d = .str i) : x = .str i := by
  subst e
  cases r with
  | pu p => cases p; rfl
theorem Rdv.dp {d : D} (n : d.hasDict = false) (s : Sub G H) (r : Rdv K G H d x) : Dp K H x d := by
  cases r with
  | pu p => exact (p.mono s).dp n
  | li h q => exact .lst (SqL.of h) ((q.mono s).dp (by simpa only [PyData.hasDict] using n))
  | di h q => simp only [PyData.hasDict] at n; cases n
theorem rdp_ok (s : Sr K γ G H env σ) (r : OpdR K G H env σ Hs x o) {d : D} (e : rdp env o = some d) : Rdv K G H d x := by
  cases o with
  | pu d' =>
    have e' : d' = d := by simpa [rdp] using e
    subst e'
    exact .pu r
  | fr xs =>
    have e' : PyData.list xs = d := by simpa [rdp] using e
    subst e'
    obtain ⟨a, ys, rfl, h1, h2, h3, _⟩ := r
    exact .li h2 h3
  | fo xs => simp [rdp] at e
  | fd xs => simp [rdp] at e
  | bo i =>
    have r' : σ[i]? = some (some x) := r
    simp only [rdp] at e
    split at e
    · rename_i t xs q
      cases e
      obtain ⟨a, ys, h1, h2, h3, h4, _⟩ := s.ow_at q
      rw [r'] at h1; cases h1
      exact .li h3 h4
    · rename_i kvs q
      cases e
      obtain ⟨a, ys, h1, h2, h3, h4, _⟩ := s.dc_at q
      rw [r'] at h1; cases h1
      exact .di h3 h4
    · cases e
/-- .. the script too -/
inductive Rds (K : PySem.W.Frag) (G H : Hp) : D → V → Prop
  | rd {d : D} {x : V} : Rdv K G H d x → Rds K G H d x
  | sc {xs : List D} {ys : List V} {a : Addr} : SqL K H a ys → PuA K G xs ys → Rds K G H (.list xs) (.ref a)
theorem Rds.list {d : D} {xs : List D} (s : Sub G H) (r : Rds K G H d x) (e : d = .list xs) : ∃ a ys, x = .ref a ∧ SqL K H a ys ∧ PuA K G xs ys := by
  cases r with
  | rd r =>
    obtain ⟨a, ys, h1, h2, h3⟩ := r.list s e
    exact ⟨a, ys, h1, SqL.of h2, h3⟩
  | sc h q =>
    cases e
    exact ⟨_, _, rfl, h, q⟩
theorem Rds.dict {d : D} {kvs : List (D × D)} (s : Sub G H) (r : Rds K G H d x) (e : d = .dict kvs) : ∃ a qs, x = .ref a ∧ H a = some (.dK qs) ∧ PuK K G kvs qs := by
  cases r with
  | rd r => exact r.dict s e
  | sc h q => cases e
theorem Rds.dp {d : D} (n : d.hasDict = false) (s : Sub G H) (r : Rds K G H d x) : Dp K H x d := by
  cases r with
  | rd r => exact r.dp n s
  | sc h q => exact .lst h ((q.mono s).dp (by simpa only [PyData.hasDict] using n))
theorem rds_ok (s : Sr K γ G H env σ) (r : OpdR K G H env σ Hs x o) {d : D} (e : rds env o = some d) : Rds K G H d x := by
  cases o with
  | pu d' => exact .rd (rdp_ok s r (by simpa [rdp, rds] using e))
  | fr xs => exact .rd (rdp_ok s r (by simpa [rdp, rds] using e))
  | fo xs => simp [rds] at e
  | fd xs => simp [rds] at e
  | bo i =>
    have r' : σ[i]? = some (some x) := r
    simp only [rds] at e
    split at e
    · rename_i t xs q
      exact .rd (rdp_ok s r (by simp only [rdp, q]; exact e))
    · rename_i t xs q
      cases e
      obtain ⟨a, ys, h1, h2, h3⟩ := s.slot i _ q
      rw [r'] at h1; cases h1
      exact .sc h2.sq h3
    · rename_i kvs q
      exact .rd (rdp_ok s r (by simp only [rdp, q]; exact e))
    · cases e
/-- frozen: told from now on -/
theorem frz_ok {O : Addr → Prop} (s : Sr K γ G H env σ) (st : Step O G' H' (Ow env σ) G H) (r : OpdR K G H env σ H' x o) {d : D} (e : frzd o = some d) :
    ∃ G1, Sr K γ G1 H env σ ∧ Step O G' H' (Ow env σ) G1 H ∧ Sub G G1 ∧ Pu K G1 d x ∧ (∀ b, H b ≠ none → G1 b = G b ∨ x = .ref b) := by
  cases o with
  | pu d' =>
    have e' : d' = d := by simpa [frzd] using e
    subst e'
    exact ⟨G, s, st, Sub.refl G, r, fun _ _ => .inl rfl⟩
  | fr xs =>
    have e' : PyData.list xs = d := by simpa [frzd] using e
    subst e'
    obtain ⟨a, ys, rfl, h1, h2, h3, h4, h5⟩ := r
    refine ⟨upd G a (.lst ys), s.tell h2 h1 h4, st.tell (.inl h5) h1, sub_tell h1, .lst upd_same (h3.mono (sub_tell h1)), fun b _ => ?_⟩
    by_cases q : b = a
    · exact .inr (by rw [q])
    · exact .inl (upd_ne q)
  | fd kvs =>
    have e' : PyData.dict kvs = d := by simpa [frzd] using e
    subst e'
    obtain ⟨a, ys, rfl, h1, h2, h3, h4, h5⟩ := r
    refine ⟨upd G a (.dK ys), s.tell h2 h1 h4, st.tell (.inl h5) h1, sub_tell h1, .dic upd_same (h3.mono (sub_tell h1)), fun b _ => ?_⟩
    by_cases q : b = a
    · exact .inr (by rw [q])
    · exact .inl (upd_ne q)
  | bo i => simp [frzd] at e
  | fo xs => simp [frzd] at e
end
end Rf

set_option Elab.async false
set_option linter.all false
set_option maxRecDepth 100000
set_option maxHeartbeats 4000000
/-! Rf: tuple * 1, sum of a tuple. -/
namespace Rf
open PySem PySem.Spec PyProof.Rows L2
theorem tuple_mul1 (l : Addr) (items : Array Value) (n : Nat) (dd : Option Addr) (sl : Array (Option Value)) (u : Tok) :
    Meets (Builtin.«tuple.__mul__» ⟨[.ref l, .int 1 u], []⟩) (fun _ R s => s.heap.get? l = some { cls := .type "tuple", dict := dd, data := .seq items n, slots := sl } ∧
      R (.ok (.ret (Value.ref l))) s) :=
  .of_wp fun prog w A R s h => by
    obtain ⟨hp, g, d, tk, os⟩ := s
    obtain ⟨hl, h⟩ := h
    have f1 := AutoSeq1.idx_int
    have c0 : (decide ((1 : Int) < -(2 ^ 63)) || decide ((1 : Int) ≥ 2 ^ 63)) = false := by decide
    have c1 : (items.isEmpty || (1 : Int) == 1) = true := by simp
    wp_walk using AutoSeq1.wpAny_loadPart' hl
    repeat (first
      | (refine wpAny_ite_false (decide_eq_false (by rw [c0]; exact Bool.false_ne_true)) ?_; wp_walk using AutoSeq1.wpAny_loadPart' hl)
      | (refine wpAny_ite_true (decide_eq_true (by rw [c1])) ?_; wp_walk using AutoSeq1.wpAny_loadPart' hl))
    exact ⟨_, rfl, h⟩
def rRep1 (K : PySem.W.Frag) : R2 := fun x y H Q => ∃ l xs, x = .ref l ∧ y = .int 1 ∧ SqT K H l xs ∧ Q (.ref l) H
section
variable {X : Cx}
theorem op_rep1 : OpR X (binaryOp .Mult) (rRep1 X.K) := by
  intro pins s σ H x y v u Q I rx ry h
  obtain ⟨l, xs, rfl, rfl, hT, q⟩ := h
  cases rx
  obtain ⟨t, rfl⟩ := ry
  obtain ⟨its, r, ⟨⟨cls, dd, data, sl⟩, ho, hc, n, hd⟩, hs⟩ := I.tuple hT
  simp only at hc hd
  subst hc hd
  refine wpAny_binaryOp_repeat_ref (T := "tuple") (U := "int") (by decide) ⟨_, ho, rfl⟩ (fun s' => typeIs_int s' 1 t) noFill_tuple_mul F.fills_int_mul F.slot_int_rmul repeat_tuple F.slot_int_index.lookup
    (call_meets F.slot_int_rmul (typeIs_int s 1 t) F.entry_int_rmul (F.args_int_rmul_2 _ _) (int_rmul_tuple 1 t l its.toArray n dd sl)
      ⟨ho, rfl, ⟨_, ho, rfl⟩, call_meets F.slot_tuple_mul ⟨_, ho, rfl⟩ F.entry_tuple_mul (F.args_tuple_mul_2 _ _) (tuple_mul1 l its.toArray n dd sl t) ⟨ho, ?_⟩⟩)
  exact ⟨.ref l, H, I, rfl, q⟩
def rSumT (K : PySem.W.Frag) : List V → Hp → VK → Prop := fun vs H Q => ∃ (a : Addr) (ns : List Int), vs = [V.ref a] ∧ SqT K H a (ns.map V.int) ∧ Q (.int ns.sum) H
theorem cr_sumT (hc : X.calm = true) : CallR X (.builtin "sum") (rSumT X.K) := by
  intro pins s σ H vs us Q I r h
  obtain ⟨a, ns, rfl, hs, q⟩ := h
  obtain ⟨its, rv, ⟨o, ho, hcl, n, hd⟩, _⟩ := I.tuple hs
  rw [Vals.ref1 r]
  have hi : IntsAre its ns := rv.ints
  have hl : s.heap.IsTuple a its.toArray := ⟨o, ho, hcl, n, hd⟩
  obtain ⟨xs, hx⟩ := hi.allInts.items
  have hn : numsOf its.toArray.toList = ns := by rw [show its.toArray.toList = its from rfl, hi.numsOf]
  rw [hx] at hl hn
  rw [nums_intItems] at hn
  refine PySem.W.ktm_sumG (I.ok.hd hc) hl fun h' tk t' hk => ?_
  rw [preSum_eq, List.take_of_length_le (by simp), hn]
  exact ⟨.int _, H, I.kept hk, ⟨_, rfl⟩, q⟩
end
end Rf

set_option Elab.async false
set_option linter.all false
set_option maxRecDepth 100000
set_option maxHeartbeats 4000000
namespace Rf
open PySem PySem.Spec PyProof.Rows L2

/-- only new objects came -/
structure Ext (G H G' H' : Hp) : Prop where
  g : Sub G G'
  h : Sub H H'
  s : Sub G' H'
  n : ∀ a, H a ≠ none → G a = none → G' a = none
theorem Ext.refl {G H : Hp} (s : Sub G H) : Ext G H G H := ⟨Sub.refl G, Sub.refl H, s, fun _ _ e => e⟩
theorem up_sub {H : Hp} {p : Addr} {o : HO} (hp : H p = none) : Sub H (upd H p o) := fun a u e => by rw [upd_ne (ne_of_none e hp)]; exact e
theorem none_of {G H : Hp} (s : Sub G H) {p : Addr} (hp : H p = none) : G p = none := by
  cases q : G p with
  | none => rfl
  | some u => rw [s _ _ q] at hp; cases hp
theorem Ext.newH {G H : Hp} (s : Sub G H) {p : Addr} {o : HO} (hp : H p = none) : Ext G H G (upd H p o) := ⟨Sub.refl G, up_sub hp, s.trans (up_sub hp), fun _ _ e => e⟩
theorem Ext.newG {G H : Hp} (s : Sub G H) {p : Addr} {o : HO} (hp : H p = none) : Ext G H (upd G p o) (upd H p o) := by
  refine ⟨up_sub (none_of s hp), up_sub hp, fun a u e => ?_, fun a h1 h2 => ?_⟩
  · by_cases q : a = p
    · subst q; rw [upd_same] at e ⊢; exact e
    · rw [upd_ne q] at e ⊢; exact s _ _ e
  · rw [upd_ne (fun z => by subst z; exact h1 hp)]; exact h2
theorem Ext.trans {G H G1 H1 G2 H2 : Hp} (a : Ext G H G1 H1) (b : Ext G1 H1 G2 H2) : Ext G H G2 H2 :=
  ⟨a.g.trans b.g, a.h.trans b.h, b.s, fun x h1 h2 => b.n x (by
    cases q : H x with
    | none => exact absurd q h1
    | some u => rw [a.h _ _ q]; simp) (a.n x h1 h2)⟩
section
variable {K : PySem.W.Frag} {γ : Gam} {G H G' H' : Hp} {env : Ev} {σ : L2.St}
theorem Sr.ext (s : Sr K γ G H env σ) (x : Ext G H G' H') : Sr K γ G' H' env σ := by
  refine ⟨x.s, s.len, fun i sl e => ?_, s.inj⟩
  have q := s.slot i sl e
  cases sl with
  | emp => trivial
  | val d => obtain ⟨v, h1, h2⟩ := q; exact ⟨v, h1, h2.mono x.g⟩
  | own t xs =>
    obtain ⟨a, ys, h1, h2, h3, h4, h5⟩ := q
    exact ⟨a, ys, h1, x.n a (by rw [h3]; simp) h2, x.h _ _ h3, h4.mono x.g, h5⟩
  | scr t xs =>
    obtain ⟨a, ys, h1, h2, h3⟩ := q
    refine ⟨a, ys, h1, ?_, h3.mono x.g⟩
    rcases h2 with ⟨o, h2⟩ | h2
    · exact .inl ⟨o, x.h _ _ h2⟩
    · exact .inr h2
  | dic kvs =>
    obtain ⟨a, ys, h1, h2, h3, h4, h5⟩ := q
    exact ⟨a, ys, h1, x.n a (by rw [h3]; simp) h2, x.h _ _ h3, h4.mono x.g, h5⟩
theorem Step.ext {O : Addr → Prop} (x : Ext G H G' H') : Step O G H O G' H' :=
  ⟨x.g, fun a o e _ => x.h a o e, fun a h1 h2 _ => x.n a h1 h2, fun a h1 => by
    cases q : H a with
    | none => exact absurd q h1
    | some u => rw [x.h _ _ q]; simp, fun _ h => .inl h⟩
end
/-- what came of an operation -/
def ResR (K : PySem.W.Frag) (G H Hs : Hp) (x : V) : Opd → Prop
  | .pu d => Pu K G d x
  | .fr xs => ∃ a ys, x = .ref a ∧ G a = none ∧ H a = some (.lst ys) ∧ PuA K G xs ys ∧ Hs a = none
  | .fd kvs => ∃ a qs, x = .ref a ∧ G a = none ∧ H a = some (.dK qs) ∧ PuK K G kvs qs ∧ Hs a = none
  | _ => False
def RQ (K : PySem.W.Frag) (G H : Hp) (res : Opd) (Q : VK) : Prop := ∀ G' H' x, Ext G H G' H' → ResR K G' H' H x res → Q x H'
section
variable {K : PySem.W.Frag} {γ : Gam} {G H G' H' Hs : Hp} {env : Ev} {σ : L2.St} {Q : VK} {x : V} {d : D} {xs : List D} {ys : List V}
theorem RQ.pu (q : RQ K G H (.pu d) Q) (s : Sub G H) (r : Pu K G d x) : Q x H := q G H x (Ext.refl s) r
theorem RQ.fr (q : RQ K G H (.fr xs) Q) (s : Sub G H) (r : PuA K G xs ys) {p : Addr} (hp : H p = none) : Q (.ref p) (upd H p (.lst ys)) :=
  q G _ _ (Ext.newH s hp) ⟨p, ys, rfl, none_of s hp, upd_same, r, hp⟩
theorem RQ.fd {kvs : List (D × D)} {qs : List (Key × V)} (q : RQ K G H (.fd kvs) Q) (s : Sub G H) (r : PuK K G kvs qs) {p : Addr} (hp : H p = none) : Q (.ref p) (upd H p (.dK qs)) :=
  q G _ _ (Ext.newH s hp) ⟨p, qs, rfl, none_of s hp, upd_same, r, hp⟩
theorem RQ.tup (q : RQ K G H (.pu (.tuple xs)) Q) (s : Sub G H) (r : PuA K G xs ys) {p : Addr} (hp : H p = none) : Q (.ref p) (upd H p (.tup ys)) :=
  q (upd G p (.tup ys)) _ _ (Ext.newG s hp) (.tup (SqT.of upd_same) (r.mono (up_sub (none_of s hp))))
theorem no_ow (s : Sr K γ G H env σ) {a : Addr} (h : H a = none) : ¬ Ow env σ a := fun z => by
  obtain ⟨_, ys, e⟩ := s.ow_some z
  rw [h] at e; cases e
theorem opd_of (s : Sr K γ G H env σ) {o : Opd} (x' : Ext G H G' H') (r : ResR K G' H' H x o) : OpdR K G' H' env σ H x o := by
  cases o with
  | pu d => exact r
  | fr xs =>
    obtain ⟨a, ys, h1, h2, h3, h4, h5⟩ := r
    exact ⟨a, ys, h1, h2, h3, h4, no_ow s h5, h5⟩
  | fd xs =>
    obtain ⟨a, ys, h1, h2, h3, h4, h5⟩ := r
    exact ⟨a, ys, h1, h2, h3, h4, no_ow s h5, h5⟩
  | bo i => exact r.elim
  | fo xs => exact r.elim
end
theorem lenOk_le {n : Nat} (h : lenOk n = true) : n ≤ sizeLine := by
  rw [sizeLine_eq]; exact Nat.le_of_ble_eq_true h
theorem small_bd {i : Int} (h : small64 i = true) : -(2 ^ 64) < i ∧ i < 2 ^ 64 := by
  have h1 : i.natAbs < 18446744073709551616 := by
    unfold small64 at h
    exact Nat.le_of_ble_eq_true h
  omega
theorem ands {a b : Bool} (h : (a && b) = true) : a = true ∧ b = true := by simpa using h
theorem mulOk_ok {i j : Int} (h : mulOk i j = true) : IntMulOk i j := by
  unfold mulOk at h
  simp only [Bool.or_eq_true] at h
  rcases h with (h | h) | h
  · exact L2.CMul.ok (.inl (small_bd h))
  · exact L2.CMul.ok (.inr (small_bd h))
  · exact L2.CMulW.ok (show i.natAbs.log2 + j.natAbs.log2 < 1000000 from Nat.le_of_ble_eq_true h)

/-! ### operators -/
def rBin (K : PySem.W.Frag) (o : BOp) : R2 := fun x y H Q => ∃ G p q res, Sub G H ∧ Rdv K G H p x ∧ Rdv K G H q y ∧ binV o p q = some res ∧ RQ K G H res Q
def bopOf : BOp → Operator
  | .add => .Add | .sub => .Sub | .mul => .Mult | .fdiv => .FloorDiv | .mod => .Mod | .pow => .Pow
section
variable {X : Cx}
theorem op_mulI : OpR X (binaryOp .Mult) (rI (fun i j => mulOk i j = true) fun i j => .int (i * j)) := opI fun _ _ _ _ _ _ _ hc q => mul_int q (mulOk_ok hc)
theorem op_bin (o : BOp) : OpR X (binaryOp (bopOf o)) (rBin X.K o) := by
  intro pins s σ H x y v u Q I rx ry h
  obtain ⟨G, p, q, res, sb, rp, rq, e, hq⟩ := h
  have fin : ∀ {d : D} {z : V}, res = .pu d → Pu X.K G d z → Q z H := fun {d z} e1 e2 => by subst e1; exact RQ.pu hq sb e2
  cases o with
  | add =>
    cases p <;> cases q <;> simp only [binV] at e <;> (try cases e)
    · have e1 := rp.int rfl; have e2 := rq.int rfl; subst e1; subst e2
      exact L2.op_add pins s σ H _ _ v u Q I rx ry ⟨_, _, rfl, rfl, fin rfl (.int _)⟩
    · rename_i a b
      have e1 := rp.str rfl; have e2 := rq.str rfl; subst e1; subst e2
      split at e <;> (try cases e)
      rename_i hz
      exact L2.op_add_str pins s σ H _ _ v u Q I rx ry ⟨_, _, rfl, rfl, lenOk_le hz, fin rfl (.str _)⟩
    · rename_i a b
      split at e <;> (try cases e)
      rename_i hz
      obtain ⟨l, ys, rfl, h1, h2⟩ := rp.list sb rfl
      obtain ⟨m, zs, rfl, h3, h4⟩ := rq.list sb rfl
      exact L2.op_cat pins s σ H _ _ v u Q I rx ry ⟨l, m, ys, zs, rfl, rfl, h1, h3, by rw [← h2.length, ← h4.length]; exact lenOk_le hz, fun p hp => RQ.fr hq sb (h2.append h4) hp⟩
    · rename_i a b
      split at e <;> (try cases e)
      rename_i hz
      obtain ⟨l, ys, rfl, h1, h2⟩ := rp.tuple rfl
      obtain ⟨m, zs, rfl, h3, h4⟩ := rq.tuple rfl
      have hz' : ys.length + zs.length ≤ sizeLine := by rw [← h2.length, ← h4.length]; exact lenOk_le hz
      have r1 : Pu X.K G (.tuple a) (.ref l) := .tup h1 h2
      have r2 : Pu X.K G (.tuple b) (.ref m) := .tup h3 h4
      refine L2.op_catA pins s σ H _ _ v u Q I rx ry ⟨l, m, ys, zs, rfl, rfl, sqT_sub sb h1, sqT_sub sb h3, hz', fun e1 => ?_, fun _ e2 => ?_, fun _ _ p hp => RQ.tup hq sb (h2.append h4) hp⟩
      · subst e1
        cases h2
        exact fin rfl r2
      · subst e2
        cases h4
        exact fin (by rw [List.append_nil]) r1
  | sub =>
    cases p <;> cases q <;> simp only [binV] at e <;> (try cases e)
    have e1 := rp.int rfl; have e2 := rq.int rfl; subst e1; subst e2
    exact L2.op_sub pins s σ H _ _ v u Q I rx ry ⟨_, _, rfl, rfl, fin rfl (.int _)⟩
  | mul =>
    cases p <;> cases q <;> simp only [binV] at e <;> (try cases e)
    · have e1 := rp.int rfl; have e2 := rq.int rfl; subst e1; subst e2
      split at e <;> (try cases e)
      rename_i hz
      exact op_mulI pins s σ H _ _ v u Q I rx ry ⟨_, _, rfl, rfl, hz, fin rfl (.int _)⟩
    · rename_i a k
      split at e <;> (try cases e)
      rename_i hz
      obtain ⟨hz1, hz4⟩ := ands hz
      obtain ⟨hz2, hz3⟩ := ands hz1
      obtain ⟨_, hz2⟩ := ands hz2
      obtain ⟨l, ys, rfl, h1, h2⟩ := rp.list sb rfl
      have e2 := rq.int rfl; subst e2
      have b1 := of_decide_eq_true hz2
      have b2 := of_decide_eq_true hz3
      exact L2.op_rep pins s σ H _ _ v u Q I rx ry ⟨l, k, ys, rfl, rfl, h1, by omega, by omega, by rw [← h2.length]; exact lenOk_le hz4, fun p hp => RQ.fr hq sb (h2.rep _) hp⟩
    · rename_i a k
      split at e
      rotate_left
      · split at e <;> (try cases e)
        rename_i hz
        have hk := of_decide_eq_true hz
        subst hk
        obtain ⟨l, ys, rfl, h1, h2⟩ := rp.tuple rfl
        have e2 := rq.int rfl; subst e2
        exact op_rep1 pins s σ H _ _ v u Q I rx ry ⟨l, ys, rfl, rfl, sqT_sub sb h1, fin rfl (.tup h1 h2)⟩
      cases e
      rename_i hz
      obtain ⟨hz1, hz4⟩ := ands hz
      obtain ⟨hz2, hz3⟩ := ands hz1
      obtain ⟨hz0, hz2⟩ := ands hz2
      obtain ⟨l, ys, rfl, h1, h2⟩ := rp.tuple rfl
      have e2 := rq.int rfl; subst e2
      have b1 := of_decide_eq_true hz0
      have b2 := of_decide_eq_true hz2
      have b3 : a.length ≤ 1000 := Nat.le_of_ble_eq_true hz3
      refine L2.op_repT pins s σ H _ _ v u Q I rx ry ⟨l, k, ys, rfl, rfl, sqT_sub sb h1, ?_, b1, b2, by rw [← h2.length]; exact b3, fun p hp => RQ.tup hq sb (h2.rep _) hp⟩
      rintro rfl
      cases h2
      simp at hz4
  | fdiv =>
    cases p <;> cases q <;> simp only [binV] at e <;> (try cases e)
    have e1 := rp.int rfl; have e2 := rq.int rfl; subst e1; subst e2
    split at e <;> (try cases e)
    rename_i hz
    obtain ⟨h1, h2⟩ := ands hz
    exact L2.op_fdivW pins s σ H _ _ v u Q I rx ry ⟨_, _, rfl, rfl, ⟨of_decide_eq_true h1, Nat.le_of_ble_eq_true h2⟩, fin rfl (.int _)⟩
  | mod =>
    cases p <;> cases q <;> simp only [binV] at e <;> (try cases e)
    have e1 := rp.int rfl; have e2 := rq.int rfl; subst e1; subst e2
    split at e <;> (try cases e)
    rename_i hz
    exact L2.op_mod pins s σ H _ _ v u Q I rx ry ⟨_, _, rfl, rfl, of_decide_eq_true hz, fin rfl (.int _)⟩
  | pow =>
    cases p <;> cases q <;> simp only [binV] at e <;> (try cases e)
    have e1 := rp.int rfl; have e2 := rq.int rfl; subst e1; subst e2
    split at e <;> (try cases e)
    rename_i hz
    obtain ⟨h12, h3⟩ := ands hz
    obtain ⟨h1, h2⟩ := ands h12
    refine L2.op_pow pins s σ H _ _ v u Q I rx ry ⟨_, _, rfl, rfl, ⟨of_decide_eq_true h1, of_decide_eq_true h2, ?_⟩, fin rfl (.int _)⟩
    exact Nat.le_of_ble_eq_true h3
end
end Rf

set_option Elab.async false
set_option linter.all false
set_option maxRecDepth 100000
set_option maxHeartbeats 4000000
namespace Rf
open PySem PySem.Spec PyProof.Rows L2
section
variable {K : PySem.W.Frag} {G H : Hp} {x : V} {d : D}
theorem Rds.tuple {xs : List D} (r : Rds K G H d x) (e : d = .tuple xs) : ∃ a ys, x = .ref a ∧ SqT K G a ys ∧ PuA K G xs ys := by
  cases r with
  | rd r => exact r.tuple e
  | sc h q => cases e
theorem Rds.int {i : Int} (r : Rds K G H d x) (e : d = .int i) : x = .int i := by
  cases r with
  | rd r => exact r.int e
  | sc h q => cases e
theorem Rds.bl {i : Bool} (r : Rds K G H d x) (e : d = .bool i) : x = .bl i := by
  cases r with
  | rd r => exact r.bl e
  | sc h q => cases e
theorem Rds.str {i : Str} (r : Rds K G H d x) (e : d = .str i) : x = .str i := by
  cases r with
  | rd r => exact r.str e
  | sc h q => cases e
theorem Rds.non (r : Rds K G H d x) (e : d = .none) : x = .non := by
  subst e
  cases r with
  | rd r => cases r with
    | pu p => cases p; rfl
theorem Rds.pu (r : Pu K G d x) : Rds K G H d x := .rd (.pu r)
end

/-! ### comparisons -/
def copOf : COp → CmpOp
  | .eq => .Eq | .ne => .NotEq | .lt => .Lt | .le => .LtE | .gt => .Gt | .ge => .GtE | .isN => .Is | .notN => .IsNot | .isB => .Is | .notB => .IsNot | .mem => .In | .nmem => .NotIn
def rCmpV (K : PySem.W.Frag) (o : COp) : R2 := fun x y H Q => ∃ G p q r, Sub G H ∧ Rds K G H p x ∧ Rds K G H q y ∧ cmpV o p q = some r ∧ Q (.bl r) H
theorem scal_ok {K : PySem.W.Frag} {G H : Hp} {p q : D} {x y : V} {r : Bool} (rp : Rds K G H p x) (rq : Rds K G H q y) (e : scalD p q = some r) : scal x y = true ∧ decide (x = y) = r := by
  cases p <;> cases q <;> simp only [scalD] at e <;> (try cases e)
  all_goals (first
    | (have a := rp.non rfl) | (have a := rp.int rfl) | (have a := rp.bl rfl) | (have a := rp.str rfl))
  all_goals (first
    | (have b := rq.non rfl) | (have b := rq.int rfl) | (have b := rq.bl rfl) | (have b := rq.str rfl))
  all_goals (subst a; subst b; simp [scal])
theorem nd_of {d : D} (h : SeqAt.shaped d = true) : d.hasDict = false := PyData.hasDict_of_canLay d (SeqAt.canLay_of_shaped h)
section
variable {X : Cx}
theorem op_eqV (hu : X.A.units + 65 < cLine) : OpR X (compareOp .Eq) (rCmpV X.K .eq) := by
  intro pins s σ H x y v u Q I rx ry h
  obtain ⟨G, p, q, r, sb, rp, rq, e, hq⟩ := h
  have e' : eqD p q = some r := e
  unfold eqD at e'
  split at e'
  · rename_i k hk
    cases e'
    obtain ⟨h1, h2⟩ := scal_ok rp rq hk
    exact L2.op_eq pins s σ H x y v u Q I rx ry ⟨h1, by rw [h2]; exact hq⟩
  · split at e' <;> (try cases e')
    rename_i hs
    obtain ⟨h1, h2⟩ := ands hs
    exact L2.op_eqD (by omega) pins s σ H x y v u Q I rx ry ⟨p, q, rp.dp (nd_of h1) sb, rq.dp (nd_of h2) sb, h1, h2, hq⟩
theorem op_neV (hu : X.A.units + 65 < cLine) : OpR X (compareOp .NotEq) (rCmpV X.K .ne) := by
  intro pins s σ H x y v u Q I rx ry h
  obtain ⟨G, p, q, r, sb, rp, rq, e, hq⟩ := h
  have e0 : (eqD p q).map not = some r := e
  cases e1 : eqD p q with
  | none => rw [e1] at e0; cases e0
  | some k =>
    rw [e1] at e0
    have e2 : (!k) = r := Option.some.inj e0
    subst e2
    have e' : eqD p q = some k := e1
    unfold eqD at e'
    split at e'
    · rename_i k' hk
      cases e'
      obtain ⟨h1, h2⟩ := scal_ok rp rq hk
      exact L2.op_ne pins s σ H x y v u Q I rx ry ⟨h1, by rw [h2]; exact hq⟩
    · split at e' <;> (try cases e')
      rename_i hs
      obtain ⟨h1, h2⟩ := ands hs
      exact L2.op_neD (by omega) pins s σ H x y v u Q I rx ry ⟨p, q, rp.dp (nd_of h1) sb, rq.dp (nd_of h2) sb, h1, h2, hq⟩
theorem mem_ok {K : PySem.W.Frag} {G H : Hp} (sb : Sub G H) {p q : D} {x y : V} {r : Bool} (rp : Rds K G H p x) (rq : Rds K G H q y) (e : memD p q = some r) :
    ∃ ds, (q = .list ds ∨ q = .tuple ds) ∧ Dp K H x p ∧ Dp K H y q ∧ SeqAt.shaped p = true ∧ SeqAt.shaped (.list ds) = true ∧ r = ds.any fun z => PyData.eqv z p := by
  cases q <;> simp only [memD] at e <;> (try cases e)
  · split at e <;> (try cases e)
    rename_i ds hs
    obtain ⟨h1, h2⟩ := ands hs
    exact ⟨ds, .inl rfl, rp.dp (nd_of h1) sb, rq.dp (nd_of h2) sb, h1, h2, rfl⟩
  · split at e <;> (try cases e)
    rename_i ds hs
    obtain ⟨h1, h2⟩ := ands hs
    exact ⟨ds, .inr rfl, rp.dp (nd_of h1) sb, rq.dp (by have := nd_of h2; simpa only [PyData.hasDict] using this) sb, h1, h2, rfl⟩
theorem op_memV (hu : X.A.units + 65 < cLine) : OpR X (compareOp .In) (rCmpV X.K .mem) := by
  intro pins s σ H x y v u Q I rx ry h
  obtain ⟨G, p, q, r, sb, rp, rq, e, hq⟩ := h
  obtain ⟨ds, hq', dx, dy, h1, h2, rfl⟩ := mem_ok sb rp rq e
  obtain ⟨as, r1⟩ := Dp.reads I p x v dx rx
  obtain ⟨bs, r2⟩ := Dp.reads I q y u dy ry
  rcases hq' with rfl | rfl
  · exact SeqAt.in_list_reads r2 r1 (SeqAt.canLay_of_shaped h2) (SeqAt.canLay_of_shaped h1) (room_in_shaped h1 hu) ⟨.bl _, H, I, rfl, hq⟩
  · exact SeqAt.in_tuple_reads r2 r1 (SeqAt.canLay_of_shaped h2) (SeqAt.canLay_of_shaped h1) (room_in_shaped h1 hu) ⟨.bl _, H, I, rfl, hq⟩
theorem op_nmemV (hu : X.A.units + 65 < cLine) : OpR X (compareOp .NotIn) (rCmpV X.K .nmem) := by
  intro pins s σ H x y v u Q I rx ry h
  obtain ⟨G, p, q, r, sb, rp, rq, e, hq⟩ := h
  have e0 : (memD p q).map not = some r := e
  cases e1 : memD p q with
  | none => rw [e1] at e0; cases e0
  | some k =>
    rw [e1] at e0
    have e2 : (!k) = r := Option.some.inj e0
    subst e2
    obtain ⟨ds, hq', dx, dy, h1, h2, rfl⟩ := mem_ok sb rp rq e1
    obtain ⟨as, r1⟩ := Dp.reads I p x v dx rx
    obtain ⟨bs, r2⟩ := Dp.reads I q y u dy ry
    rcases hq' with rfl | rfl
    · exact SeqAt.notIn_list_reads r2 r1 (SeqAt.canLay_of_shaped h2) (SeqAt.canLay_of_shaped h1) (room_in_shaped h1 hu) ⟨.bl _, H, I, rfl, hq⟩
    · exact SeqAt.notIn_tuple_reads r2 r1 (SeqAt.canLay_of_shaped h2) (SeqAt.canLay_of_shaped h1) (room_in_shaped h1 hu) ⟨.bl _, H, I, rfl, hq⟩
theorem non_iff {K : PySem.W.Frag} {G H : Hp} {p : D} {x : V} (rp : Rds K G H p x) : decide (x = .non) = isNon p := by
  cases rp with
  | rd r => cases r with
    | pu a => cases a <;> simp [isNon]
    | li _ _ => simp [isNon]
    | di _ _ => simp [isNon]
  | sc _ _ => simp [isNon]
theorem op_cmpV (hu : X.A.units + 65 < cLine) (o : COp) : OpR X (compareOp (copOf o)) (rCmpV X.K o) := by
  cases o with
  | eq => exact op_eqV hu
  | ne => exact op_neV hu
  | mem => exact op_memV hu
  | nmem => exact op_nmemV hu
  | lt =>
    intro pins s σ H x y v u Q I rx ry h
    obtain ⟨G, p, q, r, sb, rp, rq, e, hq⟩ := h
    cases p <;> cases q <;> simp only [cmpV] at e <;> (try cases e)
    have e1 := rp.int rfl; have e2 := rq.int rfl; subst e1; subst e2
    exact L2.op_lt pins s σ H _ _ v u Q I rx ry ⟨_, _, rfl, rfl, hq⟩
  | le =>
    intro pins s σ H x y v u Q I rx ry h
    obtain ⟨G, p, q, r, sb, rp, rq, e, hq⟩ := h
    cases p <;> cases q <;> simp only [cmpV] at e <;> (try cases e)
    have e1 := rp.int rfl; have e2 := rq.int rfl; subst e1; subst e2
    exact L2.op_le pins s σ H _ _ v u Q I rx ry ⟨_, _, rfl, rfl, hq⟩
  | gt =>
    intro pins s σ H x y v u Q I rx ry h
    obtain ⟨G, p, q, r, sb, rp, rq, e, hq⟩ := h
    cases p <;> cases q <;> simp only [cmpV] at e <;> (try cases e)
    have e1 := rp.int rfl; have e2 := rq.int rfl; subst e1; subst e2
    exact L2.op_gt pins s σ H _ _ v u Q I rx ry ⟨_, _, rfl, rfl, hq⟩
  | ge =>
    intro pins s σ H x y v u Q I rx ry h
    obtain ⟨G, p, q, r, sb, rp, rq, e, hq⟩ := h
    cases p <;> cases q <;> simp only [cmpV] at e <;> (try cases e)
    have e1 := rp.int rfl; have e2 := rq.int rfl; subst e1; subst e2
    exact L2.op_ge pins s σ H _ _ v u Q I rx ry ⟨_, _, rfl, rfl, hq⟩
  | isN =>
    intro pins s σ H x y v u Q I rx ry h
    obtain ⟨G, p, q, r, sb, rp, rq, e, hq⟩ := h
    cases q with
    | none =>
      have e2 := rq.non rfl
      have e' : isNon p = r := Option.some.inj (show some (isNon p) = some r from e)
      exact L2.op_isN pins s σ H x y v u Q I rx ry ⟨e2, by rw [non_iff rp, e']; exact hq⟩
    | _ => simp [cmpV] at e
  | notN =>
    intro pins s σ H x y v u Q I rx ry h
    obtain ⟨G, p, q, r, sb, rp, rq, e, hq⟩ := h
    cases q with
    | none =>
      have e2 := rq.non rfl
      have e' : (!isNon p) = r := Option.some.inj (show some (!isNon p) = some r from e)
      exact L2.op_notN pins s σ H x y v u Q I rx ry ⟨e2, by rw [non_iff rp, e']; exact hq⟩
    | _ => simp [cmpV] at e
  | isB =>
    intro pins s σ H x y v u Q I rx ry h
    obtain ⟨G, p, q, r, sb, rp, rq, e, hq⟩ := h
    cases p <;> cases q <;> simp only [cmpV] at e <;> (try cases e)
    have e1 := rp.bl rfl; have e2 := rq.bl rfl; subst e1; subst e2
    exact L2.op_isBl pins s σ H _ _ v u Q I rx ry ⟨_, _, rfl, rfl, hq⟩
  | notB =>
    intro pins s σ H x y v u Q I rx ry h
    obtain ⟨G, p, q, r, sb, rp, rq, e, hq⟩ := h
    cases p <;> cases q <;> simp only [cmpV] at e <;> (try cases e)
    have e1 := rp.bl rfl; have e2 := rq.bl rfl; subst e1; subst e2
    exact L2.op_notBl pins s σ H _ _ v u Q I rx ry ⟨_, _, rfl, rfl, hq⟩
end

/-! ### items, slices -/
section
variable {X : Cx}
theorem atI_pu {K : PySem.W.Frag} {G : Hp} {xs : List D} {ys : List V} {i : Int} {d : D} (r : PuA K G xs ys) (e : ixOf xs i = some d) : ∃ v, atI ys i = some v ∧ Pu K G d v := by
  have e' : (ixN xs.length i).bind (fun j => xs[j]?) = some d := e
  cases h : ixN xs.length i with
  | none => rw [h] at e'; cases e'
  | some j =>
    rw [h] at e'
    obtain ⟨v, h1, h2⟩ := r.get (show xs[j]? = some d from e')
    refine ⟨v, ?_, h2⟩
    show (ixN ys.length i).bind (fun j => ys[j]?) = some v
    rw [← r.length, h]
    exact h1
def rIdxV (K : PySem.W.Frag) : R2 := fun x y H Q => ∃ G p k r, Sub G H ∧ Rds K G H p x ∧ y = .int k ∧ idxV p (.int k) = some r ∧ ∀ z, Pu K G r z → Q z H
theorem ix_V : IxR X (rIdxV X.K) := by
  intro value slice pins s σ H x y v u Q I rx ry h hs
  obtain ⟨G, p, k, r, sb, rp, rfl, e, hq⟩ := h
  cases p <;> simp only [idxV] at e <;> (try cases e)
  · obtain ⟨a, ys, rfl, h1, h2⟩ := rp.list sb rfl
    obtain ⟨z, h3, h4⟩ := atI_pu h2 e
    exact L2.ix_list value slice pins s σ H _ _ v u Q I rx ry ⟨a, ys, k, z, rfl, rfl, h1, h3, hq z h4⟩ hs
  · obtain ⟨a, ys, rfl, h1, h2⟩ := rp.tuple rfl
    obtain ⟨z, h3, h4⟩ := atI_pu h2 e
    exact L2.ix_tup value slice pins s σ H _ _ v u Q I rx ry ⟨a, ys, k, z, rfl, rfl, sqT_sub sb h1, h3, hq z h4⟩ hs
theorem cut_pu {K : PySem.W.Frag} {G : Hp} {xs : List D} {ys : List V} (r : PuA K G xs ys) (lo hi : Option Int) : PuA K G (cutL xs lo hi) (cutV ys lo hi) := by
  unfold cutL cutV
  rw [r.length]
  exact (r.drop _).take _
def rSlcV (K : PySem.W.Frag) : V → Option Int → Option Int → Hp → VK → Prop := fun x lo hi H Q => ∃ G p res, Sub G H ∧ Rds K G H p x ∧ slcV p lo hi = some res ∧ RQ K G H res Q
theorem sl_V : SlR X (rSlcV X.K) := by
  intro pins s σ H x v vl vu lo hi sl Q I rx hs pl pu h
  obtain ⟨G, p, res, sb, rp, e, hq⟩ := h
  cases p <;> simp only [slcV] at e <;> (try cases e)
  · obtain ⟨a, ys, rfl, h1, h2⟩ := rp.list sb rfl
    exact L2.sl_list pins s σ H _ v vl vu lo hi sl Q I rx hs pl pu ⟨a, ys, rfl, h1, fun q hp => RQ.fr hq sb (cut_pu h2 lo hi) hp⟩
  · obtain ⟨a, ys, rfl, h1, h2⟩ := rp.tuple rfl
    refine L2.sl_tupA pins s σ H _ v vl vu lo hi sl Q I rx hs pl pu ⟨a, ys, rfl, sqT_sub sb h1, fun hw => ?_, fun _ q hp => RQ.tup hq sb (cut_pu h2 lo hi) hp⟩
    refine RQ.pu hq sb (.tup h1 ?_)
    have c := cut_pu h2 lo hi
    have ec : cutV ys lo hi = ys := by
      unfold cutV
      rw [hw.1, hw.2]
      simp
    rw [ec] at c
    exact c
end

/-! ### sorting -/
section
open PySem.W
variable {α : Type} {le : α → α → Bool}
theorem mem_ins {a x : α} : ∀ {l : List α}, x ∈ ins le a l → x = a ∨ x ∈ l
  | [], h => by simpa [ins] using h
  | b :: r, h => by
    unfold ins at h
    split at h
    · simpa using h
    · rcases List.mem_cons.mp h with e | h
      · exact .inr (by rw [e]; exact List.mem_cons_self)
      · exact (mem_ins h).imp id (List.mem_cons_of_mem _)
theorem ins_sorted (T : TotalLe le) (a : α) : ∀ {l : List α}, l.Pairwise (fun a b => le a b = true) → (ins le a l).Pairwise (fun a b => le a b = true)
  | [], _ => by simp [ins]
  | b :: r, h => by
    obtain ⟨h1, h2⟩ := List.pairwise_cons.mp h
    unfold ins
    split
    · rename_i hab
      refine List.pairwise_cons.mpr ⟨fun x hx => ?_, h⟩
      rcases List.mem_cons.mp hx with e | hx
      · rw [e]; exact hab
      · exact T.trans _ _ _ hab (h1 x hx)
    · rename_i hab
      refine List.pairwise_cons.mpr ⟨fun x hx => ?_, ins_sorted T a h2⟩
      rcases mem_ins hx with e | hx
      · rw [e]; exact (T.total a b).resolve_left hab
      · exact h1 x hx
theorem ins_filter (c a : α) : ∀ (l : List α), (ins le a l).filter (sameRank le c) = (a :: l).filter (sameRank le c) ∨ ¬ TotalLe le
  | [] => .inl rfl
  | b :: r => by
    by_cases T : TotalLe le
    · refine .inl ?_
      unfold ins
      split
      · rfl
      · rename_i hab
        have ih := (ins_filter c a r).resolve_right (fun z => z T)
        have e1 : (b :: ins le a r).filter (sameRank le c) = (if sameRank le c b = true then [b] else []) ++ (ins le a r).filter (sameRank le c) := by
          rw [List.filter_cons]; split <;> rfl
        rw [e1, ih, List.filter_cons, List.filter_cons, List.filter_cons]
        cases ha : sameRank le c a with
        | false => cases hb : sameRank le c b <;> simp
        | true =>
          cases hb : sameRank le c b with
          | false => simp
          | true =>
            exfalso
            unfold sameRank at ha hb
            obtain ⟨a1, a2⟩ := ands ha
            obtain ⟨b1, b2⟩ := ands hb
            exact hab (T.trans _ _ _ a2 b1)
    · exact .inr T
theorem isort_eq (T : TotalLe le) (l : List α) : isort le l = l.mergeSort le := by
  refine sort_unique T ?_ fun c => ?_
  · induction l with
    | nil => exact List.Pairwise.nil
    | cons a r ih => exact ins_sorted T a ih
  · induction l with
    | nil => rfl
    | cons a r ih =>
      show (ins le a (isort le r)).filter _ = _
      rw [(ins_filter c a _).resolve_right (fun z => z T), List.filter_cons, List.filter_cons, ih]
end
end Rf

set_option Elab.async false
set_option linter.all false
set_option maxRecDepth 100000
set_option maxHeartbeats 4000000
namespace Rf
open PySem PySem.Spec PyProof.Rows L2

/-- arguments, read now -/
inductive RdsA (K : PySem.W.Frag) (G H : Hp) : List D → List V → Prop
  | nil : RdsA K G H [] []
  | cons {d : D} {v : V} {ds : List D} {vs : List V} : Rds K G H d v → RdsA K G H ds vs → RdsA K G H (d :: ds) (v :: vs)
section
variable {K : PySem.W.Frag} {G H : Hp}
theorem RdsA.one {d : D} {vs : List V} (r : RdsA K G H [d] vs) : ∃ v, vs = [v] ∧ Rds K G H d v := by
  cases r with
  | cons a b => cases b; exact ⟨_, rfl, a⟩
theorem RdsA.two {d e : D} {vs : List V} (r : RdsA K G H [d, e] vs) : ∃ v w, vs = [v, w] ∧ Rds K G H d v ∧ Rds K G H e w := by
  cases r with
  | cons a b => cases b with
    | cons c t => cases t; exact ⟨_, _, rfl, a, c⟩
theorem bools_ok : ∀ {ds : List D} {ys : List V} {bs : List Bool}, PuA K G ds ys → boolsOf ds = some bs → ys = bs.map V.bl
  | [], _, _, .nil, e => by simp [boolsOf] at e; subst e; rfl
  | d :: ds, _, bs, .cons a b, e => by
    cases d <;> simp only [boolsOf] at e <;> (try cases e)
    cases h : boolsOf ds with
    | none => rw [h] at e; cases e
    | some cs =>
      rw [h] at e
      have e' := Option.some.inj e
      subst e'
      cases a
      rw [bools_ok b h]; rfl
theorem ints_ok : ∀ {ds : List D} {ys : List V} {ns : List Int}, PuA K G ds ys → intsOf ds = some ns → ys = ns.map V.int
  | [], _, _, .nil, e => by simp [intsOf] at e; subst e; rfl
  | d :: ds, _, ns, .cons a b, e => by
    cases d <;> simp only [intsOf] at e <;> (try cases e)
    cases h : intsOf ds with
    | none => rw [h] at e; cases e
    | some cs =>
      rw [h] at e
      have e' := Option.some.inj e
      subst e'
      cases a
      rw [ints_ok b h]; rfl
end
/-! ### what repr shows -/
mutual
theorem rOk_lay : ∀ d : D, rOk d = true → d.showable = true ∧ d.leavesShort 1000 = true
  | .none, _ => ⟨rfl, rfl⟩
  | .bool _, _ => ⟨rfl, rfl⟩
  | .int i, h => by
    have h' : (Nat.blt i.natAbs 1000000000000 || (Nat.blt i.natAbs.log2 1920 && Nat.ble (PyData.shown (.int i)).length 1000)) = true := by simpa only [rOk] using h
    rw [Bool.or_eq_true] at h'
    rcases h' with h' | h'
    · have h1 : i.natAbs < 1000000000000 := Nat.le_of_ble_eq_true h'
      have h2 : i.natAbs.log2 < 1920 := log2_small (Nat.lt_of_lt_of_le h1 (by
        have e : (1000000000000 : Nat) ≤ 2 ^ 40 := by decide
        exact Nat.le_trans e (Nat.pow_le_pow_right (by decide) (by decide))))
      have h3 := PyData.shown_int_le (i := i) (by simpa using h1)
      simp only [PyData.showable, PyData.leavesShort, decide_eq_true_eq]
      exact ⟨h2, by omega⟩
    · obtain ⟨h1, h2⟩ := ands h'
      simp only [PyData.showable, PyData.leavesShort, decide_eq_true_eq]
      exact ⟨Nat.le_of_ble_eq_true h1, Nat.le_of_ble_eq_true h2⟩
  | .str x, h => by
    have h' : (PyData.strOk x && Nat.ble (reprText x).length 1000) = true := by simpa only [rOk] using h
    obtain ⟨h1, h2⟩ := ands h'
    have c : PyData.canLay0 (.str x) = true := by simpa only [PyData.canLay0] using h1
    exact ⟨by simp only [PyData.showable], PyData.leavesShort_of_canLay0 1000 (.str x) c (by simp only [PyData.intsShort])⟩
  | .list xs, h => by
    have := rOkAll_lay xs (by simpa only [rOk] using h)
    simp only [PyData.showable, PyData.leavesShort]
    exact this
  | .tuple xs, h => by
    have := rOkAll_lay xs (by simpa only [rOk] using h)
    simp only [PyData.showable, PyData.leavesShort]
    exact this
  | .dict kvs, h => by
    cases kvs with
    | nil => exact ⟨rfl, rfl⟩
    | cons _ _ => simp only [rOk] at h; exact nomatch h
theorem rOkAll_lay : ∀ ds : List D, rOkAll ds = true → PyData.showableAll ds = true ∧ PyData.leavesShortAll 1000 ds = true
  | [], _ => ⟨rfl, rfl⟩
  | d :: ds, h => by
    have h' : (rOk d && rOkAll ds) = true := by simpa only [rOkAll] using h
    obtain ⟨h1, h2⟩ := ands h'
    obtain ⟨a2, a3⟩ := rOk_lay d h1
    obtain ⟨b2, b3⟩ := rOkAll_lay ds h2
    simp only [PyData.showableAll, PyData.leavesShortAll, a2, a3, b2, b3]
    exact ⟨rfl, rfl⟩
end
theorem reprOk_ok {d : D} (h : reprOk d = true) : rOk d = true ∧ (d.hasDict = true → noLst d = true) ∧ d.showable = true ∧ d.depth ≤ 64 ∧ d.shown.length ≤ sizeLine := by
  unfold reprOk at h
  obtain ⟨h12, h3⟩ := ands h
  obtain ⟨h10, h2⟩ := ands h12
  obtain ⟨h1, h0⟩ := ands h10
  obtain ⟨a2, a3⟩ := rOk_lay d h1
  have b : d.bulk ≤ 15000 := Nat.le_of_ble_eq_true h3
  refine ⟨h1, fun z => ?_, a2, Nat.le_of_ble_eq_true h2, ?_⟩
  · rw [z] at h0; simpa using h0
  have := PyData.shown_le_bulk 1000 (by decide) d a3
  rw [sizeLine_eq]
  have : (1000 + 2) * d.bulk ≤ 1002 * 15000 := Nat.mul_le_mul (by decide) b
  omega
/-! data with empty dicts -/
mutual
inductive Dq (K : PySem.W.Frag) (H : Hp) : V → D → Prop
  | non : Dq K H .non .none
  | bl (b : Bool) : Dq K H (.bl b) (.bool b)
  | int (i : Int) : Dq K H (.int i) (.int i)
  | str (x : Str) : Dq K H (.str x) (.str x)
  | lst {a : Addr} {xs : List V} {ds : List D} : SqL K H a xs → DqAll K H xs ds → Dq K H (.ref a) (.list ds)
  | tup {a : Addr} {xs : List V} {ds : List D} : SqT K H a xs → DqAll K H xs ds → Dq K H (.ref a) (.tuple ds)
  | dic {a : Addr} : H a = some (.dK []) → Dq K H (.ref a) (.dict [])
inductive DqAll (K : PySem.W.Frag) (H : Hp) : List V → List D → Prop
  | nil : DqAll K H [] []
  | cons {v : V} {vs : List V} {d : D} {ds : List D} : Dq K H v d → DqAll K H vs ds → DqAll K H (v :: vs) (d :: ds)
end
mutual
theorem Pu.dq {K : PySem.W.Frag} {G : Hp} : ∀ {d : D} {v : V}, rOk d = true → Pu K G d v → Dq K G v d
  | _, _, _, .non => .non
  | _, _, _, .bl b => .bl b
  | _, _, _, .int i => .int i
  | _, _, _, .str x => .str x
  | _, _, h, .lst e r => .lst (SqL.of e) (PuA.dq (by simpa only [rOk] using h) r)
  | _, _, h, .tup e r => .tup e (PuA.dq (by simpa only [rOk] using h) r)
  | _, _, h, .dic e r => by
    cases r with
    | nil => exact .dic e
    | cons _ _ _ => simp only [rOk] at h; exact nomatch h
theorem PuA.dq {K : PySem.W.Frag} {G : Hp} : ∀ {ds : List D} {vs : List V}, rOkAll ds = true → PuA K G ds vs → DqAll K G vs ds
  | _, _, _, .nil => .nil
  | _, _, h, .cons a b => by
    simp only [rOkAll, Bool.and_eq_true] at h
    exact .cons (Pu.dq h.1 a) (PuA.dq h.2 b)
end
theorem Rdv.dq {K : PySem.W.Frag} {G H : Hp} {x : V} {d : D} (n : rOk d = true) (s : Sub G H) (r : Rdv K G H d x) : Dq K H x d := by
  cases r with
  | pu p => exact (p.mono s).dq n
  | li h q => exact .lst (SqL.of h) ((q.mono s).dq (by simpa only [rOk] using n))
  | di h q =>
    cases q with
    | nil => exact .dic h
    | cons _ _ _ => simp only [rOk] at n; exact nomatch n
theorem Rds.dq {K : PySem.W.Frag} {G H : Hp} {x : V} {d : D} (n : rOk d = true) (s : Sub G H) (r : Rds K G H d x) : Dq K H x d := by
  cases r with
  | rd r => exact r.dq n s
  | sc h q => exact .lst h ((q.mono s).dq (by simpa only [rOk] using n))
section
variable {X : Cx} {pins : List (Addr × Obj)} {σ : L2.St} {H : Hp} {s : Shared}
mutual
theorem Dq.reads (I : Inv X pins σ H s) : ∀ (d : D) (v : V) (u : Value), Dq X.K H v d → RelV v u → ∃ as, Reads s.heap u d as ∧ (noLst d = true → sysModules ∉ as)
  | .none, _, _, h, r => by
    cases h
    cases r
    exact ⟨_, Reads.none, fun _ => by simp⟩
  | .bool b, _, _, h, r => by
    cases h
    cases r
    exact ⟨_, Reads.bool b, fun _ => by simp⟩
  | .int i, _, _, h, r => by
    cases h
    obtain ⟨t, rfl⟩ := r
    exact ⟨_, Reads.int i t, fun _ => by simp⟩
  | .str x, _, _, h, r => by
    cases h
    obtain ⟨t, rfl⟩ := r
    exact ⟨_, Reads.str x t, fun _ => by simp⟩
  | .list ds, _, _, h, r => by
    cases h with
    | lst hs ha =>
      cases r
      obtain ⟨its, rv, ⟨o, n, ho, hc, _, hd⟩, _⟩ := I.list hs
      obtain ⟨as, hr, _⟩ := Dq.readsAll I ds _ its ha rv
      exact ⟨_, Reads.list ho hc hd hr, fun z => by simp only [noLst] at z; cases z⟩
  | .tuple ds, _, _, h, r => by
    cases h with
    | tup hs ha =>
      cases r
      obtain ⟨its, rv, ⟨o, ho, hc, n, hd⟩, _⟩ := I.tuple hs
      obtain ⟨as, hr, hn⟩ := Dq.readsAll I ds _ its ha rv
      exact ⟨_, Reads.tuple ho hc hd hr, fun z => hn (by simpa only [noLst] using z)⟩
  | .dict kvs, _, _, h, r => by
    cases h with
    | dic e =>
      cases r
      obtain ⟨_, hm, vs, r0, o, es, ep, ho, hx, hd, _, hp, _⟩ := L2.dk_of I.hok e
      cases r0
      have he : es.toList = [] := by
        cases q : es.toList with
        | nil => rfl
        | cons a r => rw [q] at hp; cases hp
      refine ⟨_, Reads.dict (as := []) (bs := []) ho hx.1 hd (by rw [he]; exact .nil) (by rw [he]; exact .nil), fun _ => ?_⟩
      simpa using fun z => (beq_eq_false_iff_ne.mp hm) z.symm
theorem Dq.readsAll (I : Inv X pins σ H s) : ∀ (ds : List D) (vs : List V) (us : List Value), DqAll X.K H vs ds → Vals vs us → ∃ as, ReadsAll s.heap us ds as ∧ (noLsts ds = true → sysModules ∉ as)
  | [], _, _, h, r => by
    cases h
    cases r
    exact ⟨_, ReadsAll.nil, fun _ => by simp⟩
  | d :: ds, _, _, h, r => by
    cases h with
    | cons h1 h2 =>
      cases r with
      | cons r1 r2 =>
        obtain ⟨as, q1, n1⟩ := Dq.reads I d _ _ h1 r1
        obtain ⟨bs, q2, n2⟩ := Dq.readsAll I ds _ _ h2 r2
        refine ⟨_, ReadsAll.cons q1 q2, fun z => ?_⟩
        simp only [noLsts, Bool.and_eq_true] at z
        simpa using ⟨n1 z.1, n2 z.2⟩
end
end
section
variable {X : Cx}
/-- repr of data -/
theorem repr_run {pins : List (Addr × Obj)} {s : Shared} {σ : L2.St} {H : Hp} {x : V} {u : Value} {d : D} {Q : VK} (hg : X.A.guards = some []) (hu : X.A.units + 65 < cLine) (I : Inv X pins σ H s) (r : RelV x u) (dp : Dq X.K H x d) (ok : reprOk d = true)
    (q : Q (.str d.shown) H) : wpAny (model X.prog X.w) X.A (call (.builtin "repr") [u]) (EP X pins σ Q) X.xe s := by
  obtain ⟨h1, h0, h2, h3, h4⟩ := reprOk_ok ok
  have ref : ∀ a as, u = .ref a → Reads s.heap (.ref a) d as → (noLst d = true → sysModules ∉ as) → wpAny (model X.prog X.w) X.A (call (.builtin "repr") [u]) (EP X pins σ Q) X.xe s := by
    rintro a as rfl rd hno
    refine repr_of_reads' rd h2 (fun z => ?_) hg (by omega) (fun _ _ e => e) (fun h' t tk hk => ?_) h4
    · exact hno (h0 z)
    · exact ⟨.str d.shown, H, I.kept (t' := tk) hk, ⟨_, rfl⟩, q⟩
  obtain ⟨as, rd, hno⟩ := Dq.reads I d x u dp r
  cases rd with
  | none => exact PySem.P.repr_of_none ⟨.str _, H, I.tok _, ⟨_, rfl⟩, q⟩
  | bool b => exact PySem.P.repr_of_bool ⟨.str _, H, I.tok _, ⟨_, rfl⟩, q⟩
  | int i t =>
    have hz : i.natAbs.log2 < 1920 := by simpa only [PyData.showable, decide_eq_true_eq] using h2
    exact PySem.P.repr_of_int hz ⟨.str _, H, I.tok _, ⟨_, rfl⟩, q⟩
  | str y t => exact PySem.P.repr_of_str ⟨.str _, H, I.tok _, ⟨_, rfl⟩, q⟩ h4
  | list a1 a2 a3 a4 => exact ref _ _ rfl (.list a1 a2 a3 a4) hno
  | tuple a1 a2 a3 a4 => exact ref _ _ rfl (.tuple a1 a2 a3 a4) hno
  | dict a1 a2 a3 a4 a5 => exact ref _ _ rfl (.dict a1 a2 a3 a4 a5) hno
end
/-! ### sorted -/
section
open PySem.W
theorem alikes_ok {d : D} : ∀ {l : List D}, alikes d l = true → ∀ e ∈ l, alike d e = true ∧ alike e d = true
  | [], _, e, he => by cases he
  | a :: r, h, e, he => by
    have h' : (alike d a && alike a d && alikes d r) = true := h
    obtain ⟨h12, h3⟩ := ands h'
    obtain ⟨h1, h2⟩ := ands h12
    rcases List.mem_cons.mp he with q | q
    · rw [q]; exact ⟨h1, h2⟩
    · exact alikes_ok h3 e q
theorem allAlike_ok : ∀ {l : List D}, allAlike l = true → AllAlike l
  | [], _ => fun d hd => by cases hd
  | a :: r, h => by
    have h' : (alike a a && alikes a r && allAlike r) = true := h
    obtain ⟨h12, h3⟩ := ands h'
    obtain ⟨h1, h2⟩ := ands h12
    intro d hd d' hd'
    rcases List.mem_cons.mp hd with q | q <;> rcases List.mem_cons.mp hd' with q' | q'
    · rw [q, q']; exact h1
    · rw [q]; exact (alikes_ok h2 d' q').1
    · rw [q']; exact (alikes_ok h2 d q).2
    · exact allAlike_ok h3 d q d' q'
theorem depth_mem : ∀ {l : List D} {d : D}, d ∈ l → d.depth ≤ PyData.depthAll l
  | a :: r, d, h => by
    simp only [PyData.depthAll]
    rcases List.mem_cons.mp h with q | q
    · rw [q]; exact Nat.le_max_left _ _
    · exact Nat.le_trans (depth_mem q) (Nat.le_max_right _ _)
/-- items with what stands for them -/
def pairs : List D → List V → List (D × V)
  | d :: ds, v :: vs => (d, v) :: pairs ds vs
  | _, _ => []
variable {K : PySem.W.Frag} {G H : Hp}
theorem pairs_fst : ∀ {ds : List D} {vs : List V}, PuA K G ds vs → (pairs ds vs).map Prod.fst = ds
  | _, _, .nil => rfl
  | _, _, .cons a b => by simp only [pairs, List.map_cons, pairs_fst b]
theorem pairs_snd : ∀ {ds : List D} {vs : List V}, PuA K G ds vs → (pairs ds vs).map Prod.snd = vs
  | _, _, .nil => rfl
  | _, _, .cons a b => by simp only [pairs, List.map_cons, pairs_snd b]
theorem pairs_pu : ∀ {ds : List D} {vs : List V}, PuA K G ds vs → ∀ p ∈ pairs ds vs, Pu K G p.1 p.2
  | _, _, .nil, p, hp => by cases hp
  | _, _, .cons a b, p, hp => by
    rcases List.mem_cons.mp hp with q | q
    · rw [q]; exact a
    · exact pairs_pu b p q
theorem puA_of : ∀ {l : List (D × V)}, (∀ p ∈ l, Pu K G p.1 p.2) → PuA K G (l.map Prod.fst) (l.map Prod.snd)
  | [], _ => .nil
  | p :: l, h => .cons (h p List.mem_cons_self) (puA_of fun q hq => h q (List.mem_cons_of_mem _ hq))
theorem each_pairs : ∀ {ds : List D} {vs : List V} {us : List Value}, PuA K G ds vs → Vals vs us → EachIs (fun (u : Value) (p : D × V) => RelV p.2 u) us (pairs ds vs)
  | _, _, _, .nil, .nil => .nil
  | _, _, _, .cons a b, .cons r t => .cons r (each_pairs b t)
theorem vals_each : ∀ {us : List Value} {ps : List (D × V)}, EachIs (fun (u : Value) (p : D × V) => RelV p.2 u) us ps → Vals (ps.map Prod.snd) us
  | _, _, .nil => .nil
  | _, _, .cons a b => .cons a (vals_each b)
end
section
variable {X : Cx}
open PySem.W in
theorem sorted_run {pins : List (Addr × Obj)} {s : Shared} {σ : L2.St} {G H : Hp} {a : Addr} {ds es : List D} {ys : List V} {Q : VK} (hu : X.A.units + 67 < cLine) (I : Inv X pins σ H s) (sb : Sub G H) (hl : SqL X.K H a ys) (pa : PuA X.K G ds ys) (ok : sortV ds = some es)
    (q : RQ X.K G H (.fr es) Q) : wpAny (model X.prog X.w) X.A (call (.builtin "sorted") [.ref a]) (EP X pins σ Q) X.xe s := by
  unfold sortV at ok
  split at ok <;> (try cases ok)
  rename_i hok
  unfold sortOk at hok
  obtain ⟨hok, h4⟩ := ands hok
  have h4' : PyData.hasDictAll ds = false := by simpa using h4
  have nd : ∀ {l : List D}, PyData.hasDictAll l = false → ∀ d ∈ l, d.hasDict = false := by
    intro l
    induction l with
    | nil => intro _ d hd; cases hd
    | cons a r ih =>
      intro z d hd
      simp only [PyData.hasDictAll, Bool.or_eq_false_iff] at z
      rcases List.mem_cons.mp hd with q | q
      · rw [q]; exact z.1
      · exact ih z.2 d q
  obtain ⟨h12, h3⟩ := ands hok
  obtain ⟨h1, h2⟩ := ands h12
  have h3' : PyData.depthAll ds ≤ 64 := Nat.le_of_ble_eq_true h3
  obtain ⟨its, rv, pl, hz⟩ := I.list hl
  have pf := pairs_fst pa
  have ps := pairs_snd pa
  have hn : (pairs ds ys).length = ys.length := by
    have e := congrArg List.length ps
    rw [List.length_map] at e
    exact e
  have T : TotalLe (dataLe false (id : D → D)) := sortLe_total _ _ _
  have rd : ∀ {us : List Value} {l : List (D × V)}, (∀ p ∈ l, Pu X.K G p.1 p.2 ∧ p.1.hasDict = false) → EachIs (fun (u : Value) (p : D × V) => RelV p.2 u) us l → EachIs (fun u (p : D × V) => ∃ as, Reads s.heap u (Prod.fst p) as) us l := by
    intro us l
    induction l generalizing us with
    | nil => intro _ h; cases h; exact .nil
    | cons p l ih =>
      intro hp h
      cases h with
      | cons r t => exact .cons (Dp.reads I _ _ _ (((hp p List.mem_cons_self).1.mono sb).dp (hp p List.mem_cons_self).2) r) (ih (fun z hz => hp z (List.mem_cons_of_mem _ hz)) t)
  refine sorted_data (β := D × V) (enc := Prod.fst) (R := fun (u : Value) (p : D × V) => RelV p.2 u) (bs := pairs ds ys) pl.isList (each_pairs pa rv) (rd (fun p hp => ⟨pairs_pu pa p hp, nd h4' _ (by rw [← pf]; exact List.mem_map_of_mem hp)⟩) (each_pairs pa rv)) ?_ ?_ ?_ ?_ ?_
  · rw [pf]; exact allAlike_ok h1
  · rw [pf]
    rw [Bool.or_eq_true] at h2
    rcases h2 with h2 | h2
    · refine .inl fun d hd => ?_
      have := List.all_eq_true.mp h2 d hd
      cases d with
      | tuple xs => cases xs with
        | nil => simp [tupNE] at this
        | cons x r => exact ⟨x, r, rfl⟩
      | _ => simp [tupNE] at this
    · refine .inr fun d hd => ?_
      have := List.all_eq_true.mp h2 d hd
      refine ⟨?_, fun xs => ?_⟩ <;> (rintro rfl; simp [noTupNone] at this)
  · rw [hn]; exact hz
  · intro p hp
    have : p.1 ∈ ds := by rw [← pf]; exact List.mem_map_of_mem hp
    have := depth_mem this
    omega
  · intro out ho eo
    obtain ⟨c, hc⟩ := sortedAll_at s.heap its out.toArray
    have sm := sort_maps (r := dataLe false (Prod.fst : D × V → D)) (s := dataLe false (id : D → D)) Prod.fst (l := pairs ds ys) (fun a _ b _ => rfl)
    have e1 : ((pairs ds ys).mergeSort (dataLe false Prod.fst)).map Prod.fst = isort (dataLe false id) ds := sm.trans (by rw [pf, isort_eq T])
    have v1 := vals_each eo
    have mem : ∀ p ∈ (pairs ds ys).mergeSort (dataLe false Prod.fst), Pu X.K G p.1 p.2 := fun p hp => pairs_pu pa p ((List.mergeSort_perm _ _).mem_iff.mp hp)
    have pu1 := puA_of mem
    rw [e1] at pu1
    have hf : H (s.heap.objs.size + 1) = none := I.hok.fresh (Nat.le_succ _)
    refine ⟨.ref (s.heap.objs.size + 1), upd H (s.heap.objs.size + 1) (.lst (((pairs ds ys).mergeSort (dataLe false Prod.fst)).map Prod.snd)), ?_, rfl, RQ.fr q sb pu1 hf⟩
    refine I.laid (t' := s.toks) (fun b o e => sortedAll_old e) (Nat.le_succ _) ⟨?_, out, c, v1, hc⟩
    rw [List.length_map, List.length_mergeSort, hn]; exact hz
end
end Rf

set_option Elab.async false
set_option linter.all false
set_option maxRecDepth 100000
set_option maxHeartbeats 4000000
namespace Rf
open PySem PySem.Spec PyProof.Rows L2

def rBlt (K : PySem.W.Frag) (b : Blt) : List V → Hp → VK → Prop := fun vs H Q => ∃ G ds res, Sub G H ∧ RdsA K G H ds vs ∧ bltV b ds = some res ∧ RQ K G H res Q
def bltName : Blt → Str
  | .len => "len" | .abs => "abs" | .max2 => "max" | .min2 => "min" | .int1 => "int" | .tuple1 => "tuple" | .list1 => "list" | .all1 => "all" | .any1 => "any" | .sum1 => "sum" | .sorted1 => "sorted" | .repr1 => "repr" | .gcd2 => "gcd" | .divmod2 => "divmod"
/-- a built-in function's id, or a built-in type's name -/
inductive BK where
  | fn (id : String) | ty (n : String)
def bltKind : Blt → BK
  | .len => .fn "len" | .abs => .fn "abs" | .max2 => .fn "max" | .min2 => .fn "min" | .int1 => .ty "int" | .tuple1 => .ty "tuple" | .list1 => .ty "list" | .all1 => .fn "all" | .any1 => .fn "any" | .sum1 => .fn "sum" | .sorted1 => .fn "sorted" | .repr1 => .fn "repr" | .gcd2 => .fn "math.gcd" | .divmod2 => .fn "divmod"
def BK.val : BK → Value
  | .fn id => .builtin id
  | .ty n => .type n
section
variable {X : Cx}
theorem call_blt (hc : X.calm = true) (hg : X.A.guards = some []) (hu : X.A.units + 67 < cLine) (b : Blt) : CallR X (bltKind b).val (rBlt X.K b) := by
  intro pins s σ H vs us Q I r h
  obtain ⟨G, ds, res, sb, ra, e, hq⟩ := h
  have fin : ∀ {d : D} {z : V}, res = .pu d → Pu X.K G d z → Q z H := fun {d z} e1 e2 => by subst e1; exact RQ.pu hq sb e2
  have i1 : ∀ {n : Int}, res = .pu (.int n) → Q (.int n) H := fun e1 => fin e1 (.int _)
  cases b with
  | len =>
    match ds, e with
    | [.list xs], e =>
      cases e
      obtain ⟨v, rfl, rv⟩ := ra.one
      obtain ⟨a, ys, rfl, h1, h2⟩ := rv.list sb rfl
      exact L2.call_len_seq pins s σ H _ us Q I r ⟨a, ys, rfl, .inl h1, by rw [← h2.length]; exact i1 rfl⟩
    | [.tuple xs], e =>
      cases e
      obtain ⟨v, rfl, rv⟩ := ra.one
      obtain ⟨a, ys, rfl, h1, h2⟩ := rv.tuple rfl
      exact L2.call_len_seq pins s σ H _ us Q I r ⟨a, ys, rfl, .inr (sqT_sub sb h1), by rw [← h2.length]; exact i1 rfl⟩
    | [.str z], e =>
      simp only [bltV] at e
      split at e <;> (try cases e)
      rename_i hz
      obtain ⟨v, rfl, rv⟩ := ra.one
      have e2 := rv.str rfl; subst e2
      exact L2.call_len_str pins s σ H _ us Q I r ⟨z, rfl, lenOk_le hz, i1 rfl⟩
  | abs =>
    match ds, e with
    | [.int i], e =>
      cases e
      obtain ⟨v, rfl, rv⟩ := ra.one
      have e2 := rv.int rfl; subst e2
      exact L2.call_abs pins s σ H _ us Q I r ⟨i, rfl, i1 rfl⟩
  | max2 =>
    match ds, e with
    | [.int i, .int j], e =>
      cases e
      obtain ⟨v, w, rfl, rv, rw'⟩ := ra.two
      have e2 := rv.int rfl; have e3 := rw'.int rfl; subst e2; subst e3
      exact L2.call_max2 hc pins s σ H _ us Q I r ⟨i, j, rfl, i1 rfl⟩
  | min2 =>
    match ds, e with
    | [.int i, .int j], e =>
      cases e
      obtain ⟨v, w, rfl, rv, rw'⟩ := ra.two
      have e2 := rv.int rfl; have e3 := rw'.int rfl; subst e2; subst e3
      exact L2.call_min2 hc pins s σ H _ us Q I r ⟨i, j, rfl, i1 rfl⟩
  | int1 =>
    match ds, e with
    | [.int i], e =>
      cases e
      obtain ⟨v, rfl, rv⟩ := ra.one
      have e2 := rv.int rfl; subst e2
      exact L2.call_int1 pins s σ H _ us Q I r (.inl ⟨i, rfl, i1 rfl⟩)
  | tuple1 =>
    match ds, e with
    | [.list xs], e =>
      cases e
      obtain ⟨v, rfl, rv⟩ := ra.one
      obtain ⟨a, ys, rfl, h1, h2⟩ := rv.list sb rfl
      exact L2.call_tuple_of pins s σ H _ us Q I r ⟨a, ys, rfl, .inl ⟨h1, fun p hp => RQ.tup hq sb h2 hp⟩⟩
    | [.tuple xs], e =>
      cases e
      obtain ⟨v, rfl, rv⟩ := ra.one
      obtain ⟨a, ys, rfl, h1, h2⟩ := rv.tuple rfl
      exact L2.call_tuple_of pins s σ H _ us Q I r ⟨a, ys, rfl, .inr ⟨sqT_sub sb h1, RQ.pu hq sb (.tup h1 h2)⟩⟩
  | list1 =>
    match ds, e with
    | [.list xs], e =>
      cases e
      obtain ⟨v, rfl, rv⟩ := ra.one
      obtain ⟨a, ys, rfl, h1, h2⟩ := rv.list sb rfl
      exact L2.call_list_of pins s σ H _ us Q I r ⟨a, ys, rfl, .inl h1, fun p hp => RQ.fr hq sb h2 hp⟩
    | [.tuple xs], e =>
      cases e
      obtain ⟨v, rfl, rv⟩ := ra.one
      obtain ⟨a, ys, rfl, h1, h2⟩ := rv.tuple rfl
      exact L2.call_list_of pins s σ H _ us Q I r ⟨a, ys, rfl, .inr (sqT_sub sb h1), fun p hp => RQ.fr hq sb h2 hp⟩
  | all1 =>
    match ds, e with
    | [.list xs], e =>
      simp only [bltV] at e
      cases hb : boolsOf xs with
      | none => rw [hb] at e; cases e
      | some bs =>
        rw [hb] at e
        have e' := Option.some.inj e
        obtain ⟨v, rfl, rv⟩ := ra.one
        obtain ⟨a, ys, rfl, h1, h2⟩ := rv.list sb rfl
        have := bools_ok h2 hb; subst this
        exact L2.cr_all hc pins s σ H _ us Q I r ⟨a, bs, rfl, h1, fin e'.symm (.bl _)⟩
  | any1 =>
    match ds, e with
    | [.list xs], e =>
      simp only [bltV] at e
      cases hb : boolsOf xs with
      | none => rw [hb] at e; cases e
      | some bs =>
        rw [hb] at e
        have e' := Option.some.inj e
        obtain ⟨v, rfl, rv⟩ := ra.one
        obtain ⟨a, ys, rfl, h1, h2⟩ := rv.list sb rfl
        have := bools_ok h2 hb; subst this
        exact L2.cr_any hc pins s σ H _ us Q I r ⟨a, bs, rfl, h1, fin e'.symm (.bl _)⟩
  | sum1 =>
    match ds, e with
    | [.list xs], e =>
      simp only [bltV] at e
      cases hb : intsOf xs with
      | none => rw [hb] at e; cases e
      | some ns =>
        rw [hb] at e
        have e' := Option.some.inj e
        obtain ⟨v, rfl, rv⟩ := ra.one
        obtain ⟨a, ys, rfl, h1, h2⟩ := rv.list sb rfl
        have := ints_ok h2 hb; subst this
        exact L2.cr_sum hc pins s σ H _ us Q I r ⟨a, ns, rfl, h1, fin e'.symm (.int _)⟩
    | [.tuple xs], e =>
      simp only [bltV] at e
      cases hb : intsOf xs with
      | none => rw [hb] at e; cases e
      | some ns =>
        rw [hb] at e
        have e' := Option.some.inj e
        obtain ⟨v, rfl, rv⟩ := ra.one
        obtain ⟨a, ys, rfl, h1, h2⟩ := rv.tuple rfl
        have := ints_ok h2 hb; subst this
        exact cr_sumT hc pins s σ H _ us Q I r ⟨a, ns, rfl, sqT_sub sb h1, fin e'.symm (.int _)⟩
  | sorted1 =>
    match ds, e with
    | [.list xs], e =>
      simp only [bltV] at e
      cases hb : sortV xs with
      | none => rw [hb] at e; cases e
      | some es =>
        rw [hb] at e
        have e' : res = .fr es := (Option.some.inj e).symm
        subst e'
        obtain ⟨v, rfl, rv⟩ := ra.one
        obtain ⟨a, ys, rfl, h1, h2⟩ := rv.list sb rfl
        obtain ⟨u, rfl, ru⟩ := vals1 r
        cases ru
        exact sorted_run hu I sb h1 h2 hb hq
  | repr1 =>
    match ds, e with
    | [d], e =>
      simp only [bltV] at e
      split at e <;> (try cases e)
      rename_i hz
      obtain ⟨v, rfl, rv⟩ := ra.one
      obtain ⟨u, rfl, ru⟩ := vals1 r
      exact repr_run hg (by omega) I ru (rv.dq (reprOk_ok hz).1 sb) hz (fin rfl (.str _))
  | gcd2 =>
    match ds, e with
    | [.int i, .int j], e =>
      cases e
      obtain ⟨v, w, rfl, rv, rw'⟩ := ra.two
      have e2 := rv.int rfl; have e3 := rw'.int rfl; subst e2; subst e3
      exact L2.cr_gcd pins s σ H _ us Q I r ⟨i, j, rfl, i1 rfl⟩
  | divmod2 =>
    match ds, e with
    | [.int i, .int j], e =>
      simp only [bltV] at e
      split at e <;> (try cases e)
      rename_i hz
      obtain ⟨h1, h2⟩ := ands hz
      obtain ⟨v, w, rfl, rv, rw'⟩ := ra.two
      have e2 := rv.int rfl; have e3 := rw'.int rfl; subst e2; subst e3
      exact L2.call_divmod pins s σ H _ us Q I r ⟨i, j, rfl, ⟨of_decide_eq_true h1, of_decide_eq_true h2⟩, fun p hp => RQ.tup hq sb (.cons (.int _) (.cons (.int _) .nil)) hp⟩
/-! ### isinstance -/
def tyN : Ty → String
  | .int => "int" | .bool => "bool" | .str => "str" | .list => "list" | .tuple => "tuple" | .dict => "dict"
def dTy : D → String
  | .none => "NoneType" | .bool _ => "bool" | .int _ => "int" | .str _ => "str" | .list _ => "list" | .tuple _ => "tuple" | .dict _ => "dict"
theorem tyX_of {K : PySem.W.Frag} {G H : Hp} (sb : Sub G H) {d : D} {x : V} (r : Rdv K G H d x) : TyX K H x (.type (dTy d)) := by
  cases r with
  | li h q => exact .base (.lst h)
  | di h q => exact .base (.dK h)
  | pu p =>
    cases p with
    | non => exact .base .non
    | bl b => exact .base (.bl b)
    | int i => exact .base (.int i)
    | str z => exact .base (.str z)
    | lst h q => exact .base (.lst (sb _ _ h))
    | dic h q => exact .base (.dK (sb _ _ h))
    | tup h q =>
      rcases sqT_sub sb h with (h | ⟨o, h⟩) | ⟨o, its, n, h1, h2, _⟩
      · exact .base (.tup h)
      · exact .fTuple h
      · exact .kTuple h1 h2
theorem kit_is (K : PySem.W.Frag) (d : D) (t : Ty) : PySem.W.kitOne K (.type (dTy d)) (.type (tyN t)) = some (tyIs t d) := by
  have h0 : ∀ t, kitB "NoneType" (tyN t) = some (tyIs t .none) := by intro t; cases t <;> decide +kernel
  have h1 : ∀ t, kitB "bool" (tyN t) = some (tyIs t (.bool true)) := by intro t; cases t <;> decide +kernel
  have h2 : ∀ t, kitB "int" (tyN t) = some (tyIs t (.int 0)) := by intro t; cases t <;> decide +kernel
  have h3 : ∀ t, kitB "str" (tyN t) = some (tyIs t (.str "")) := by intro t; cases t <;> decide +kernel
  have h4 : ∀ t, kitB "list" (tyN t) = some (tyIs t (.list [])) := by intro t; cases t <;> decide +kernel
  have h5 : ∀ t, kitB "tuple" (tyN t) = some (tyIs t (.tuple [])) := by intro t; cases t <;> decide +kernel
  have h6 : ∀ t, kitB "dict" (tyN t) = some (tyIs t (.dict [])) := by intro t; cases t <;> decide +kernel
  cases d with
  | none => exact kit_ty (h0 t)
  | bool b => exact kit_ty ((h1 t).trans (by cases t <;> rfl))
  | int i => exact kit_ty ((h2 t).trans (by cases t <;> rfl))
  | str x => exact kit_ty ((h3 t).trans (by cases t <;> rfl))
  | list xs => exact kit_ty ((h4 t).trans (by cases t <;> rfl))
  | tuple xs => exact kit_ty ((h5 t).trans (by cases t <;> rfl))
  | dict kvs => exact kit_ty ((h6 t).trans (by cases t <;> rfl))
theorem kit_any (K : PySem.W.Frag) (d : D) : ∀ ts : List Ty, PySem.W.kitAny K (.type (dTy d)) (ts.map fun t => .type (tyN t)) = some (ts.any fun t => tyIs t d)
  | [] => rfl
  | t :: ts => by
    rw [List.map_cons, List.any_cons]
    refine kitAny_cons (kit_is K d t) (fun h => ?_) (fun h => ?_)
    · rw [h, Bool.false_or]; exact kit_any K d ts
    · rw [h, Bool.true_or]
end
end Rf

set_option Elab.async false
set_option linter.all false
set_option maxRecDepth 100000
set_option maxHeartbeats 4000000
/-! Rf: is an IR text what a text of the row says? -/
namespace Rf
open PySem PySem.Spec PyProof.Rows L2

/-- where one stands: the names by slot, the scope, which names' cells are one's own -/
structure SC where
  N : List Str
  sc : Scope
  fn : Str → Bool
/-- a program: its defs (name, parameters, IR), its constants, the built-ins that it names, whether gcd is imported -/
structure Pg where
  fns : List (Str × List Str × Fn)
  gl : List (Str × D)
  bn : List Str
  gcd : Bool
  kws : List (Nat × List Str × List Nat)
abbrev Pg.C (pg : Pg) : List D := pg.gl.map (·.2)
abbrev Pg.T (pg : Pg) : List Fn := pg.fns.map (·.2.2)
abbrev Pg.F (pg : Pg) (k : Nat) : FT := callN pg.C pg.T k

def okName (x : Str) : Bool := !(x == ("__debug__" : Str)) && !(x == ("__classdict__" : Str)) && !(x == ("__name__" : Str))
def visB (sc : Scope) (x : Str) : Bool := match sc.names.lookup x with
  | some .local => true
  | some .cell => true
  | some .free => true
  | _ => false
def locB (c : SC) (x : Str) : Bool := match c.sc.names.lookup x with
  | some .local => true
  | some .cell => c.fn x
  | _ => false
def slotB (c : SC) (i : Nat) (x : Str) : Bool := decide (c.N[i]? = some x) && visB c.sc x && okName x
def storeB (c : SC) (i : Nat) (x : Str) : Bool := decide (c.N[i]? = some x) && locB c x
def glB (c : SC) (x : Str) : Bool := okName x && match c.sc.names.lookup x with
  | some .globalImplicit => true
  | _ => false
/-- a built-in by its name -/
def bltB (pg : Pg) (c : SC) (x : Str) : Bool := glB c x && pg.bn.contains x
def fnB (pg : Pg) (c : SC) (f : Nat) (x : Str) : Bool := glB c x && match pg.fns[f]? with
  | some (y, _, _) => decide (x = y)
  | none => false
def arity (pg : Pg) (f : Nat) : Nat := match pg.fns[f]? with
  | some (_, ps, _) => ps.length
  | none => 0
def kwB (pg : Pg) (f : Nat) (p : List Nat) (ks : List Str) : Bool := pg.kws.contains (f, ks, p)
def constB : D → Const → Bool
  | .none, .none => true
  | .bool a, .bool b => a == b
  | .int i, .int j => decide (i = j)
  | .str x, .str y => decide (x = y)
  | _, _ => false
def bopB : BOp → Operator → Bool
  | .add, .Add => true
  | .sub, .Sub => true
  | .mul, .Mult => true
  | .fdiv, .FloorDiv => true
  | .mod, .Mod => true
  | .pow, .Pow => true
  | _, _ => false
def copB : COp → CmpOp → Bool
  | .eq, .Eq => true
  | .ne, .NotEq => true
  | .lt, .Lt => true
  | .le, .LtE => true
  | .gt, .Gt => true
  | .ge, .GtE => true
  | .isN, .Is => true
  | .notN, .IsNot => true
  | .isB, .Is => true
  | .notB, .IsNot => true
  | .mem, .In => true
  | .nmem, .NotIn => true
  | _, _ => false
def notStar : Expr → Bool
  | .Starred .. => false
  | _ => true
def notSlice : Expr → Bool
  | .Slice .. => false
  | _ => true
def notSet : Expr → Bool
  | .Set .. => false
  | _ => true
def tyOf : Str → Option Ty := fun x =>
  if x = ("int" : Str) then some .int else if x = ("bool" : Str) then some .bool else if x = ("str" : Str) then some .str else if x = ("list" : Str) then some .list else if x = ("tuple" : Str) then some .tuple else if x = ("dict" : Str) then some .dict else none
def tysB (pg : Pg) (c : SC) : List Ty → List Expr → Bool
  | [], [] => true
  | t :: ts, .Name x _ :: es => bltB pg c x && decide (x = Str.ofString (tyN t)) && tysB pg c ts es
  | _, _ => false
def kwNames : List Keyword → Option (List Str)
  | [] => some []
  | ⟨some n, _, _⟩ :: r => (kwNames r).map (n :: ·)
  | _ => none
def mthName : Mth → Str
  | .append => "append" | .extend => "extend" | .pop0 => "pop" | .pop1 => "pop" | .insert => "insert"
/-- the context of a comprehension's block -/
def blkSC (c : SC) (scope : Scope) : SC := ⟨c.N, relS scope c.sc, fun x => scope.names.lookup x == some .cell⟩
def ownN (c : SC) (own : List Nat) : List (Str × Nat) := own.map fun i => ((c.N[i]?).getD Str.empty, i)

def plainBase : Expr → Bool
  | .Name .. => true
  | .Call _ (_ :: _) _ _ => true
  | _ => false
mutual
def chkE (pg : Pg) : SC → IE → Expr → Bool
  | c, .var i, e => match e with
    | .Name x _ => slotB c i x
    | _ => false
  | c, .frz i, e => match e with
    | .Name x _ => slotB c i x
    | _ => false
  | c, .cst d, e => match e with
    | .Constant k _ _ => constB d k
    | _ => false
  | c, .glo n, e => match e with
    | .Name x _ => glB c x && (match pg.gl[n]? with | some (y, _) => decide (x = y) | none => false)
    | _ => false
  | c, .bin o a b, e => match e with
    | .BinOp l op r _ => bopB o op && chkE pg c a l && chkE pg c b r
    | _ => false
  | c, .neg a, e => match e with
    | .UnaryOp .USub l _ => chkE pg c a l
    | _ => false
  | c, .cmp o a b, e => match e with
    | .Compare l [op] [r] _ => copB o op && notSet r && chkE pg c a l && chkE pg c b r
    | _ => false
  | c, .chn o o' a b d, e => match e with
    | .Compare l [op, op'] [m, r] _ => copB o op && copB o' op' && notSet r && chkE pg c a l && chkE pg c b m && chkE pg c d r
    | _ => false
  | c, .and2 a b, e => match e with
    | .BoolOp .And (x :: y :: r) p => chkE pg c a x && (match r with
      | [] => chkE pg c b y
      | z :: r => chkE pg c b (.BoolOp .And (y :: z :: r) p))
    | _ => false
  | c, .or2 a b, e => match e with
    | .BoolOp .Or (x :: y :: r) p => chkE pg c a x && (match r with
      | [] => chkE pg c b y
      | z :: r => chkE pg c b (.BoolOp .Or (y :: z :: r) p))
    | _ => false
  | c, .nt a, e => match e with
    | .UnaryOp .Not l _ => chkE pg c a l
    | _ => false
  | c, .ite k a b, e => match e with
    | .IfExp x y z _ => chkE pg c k x && chkE pg c a y && chkE pg c b z
    | _ => false
  | c, .tup es, e => match e with
    | .Tuple xs _ _ => chkEs pg c es xs
    | _ => false
  | c, .lst es, e => match e with
    | .List xs _ => chkEs pg c es xs
    | _ => false
  | c, .idx a i, e => match e with
    | .Subscript x y _ => notSlice y && chkE pg c a x && chkE pg c i y
    | _ => false
  | c, .slc a lo hi, e => match e with
    | .Subscript x (.Slice l h none _) _ => chkE pg c a x && chkO pg c lo l && chkO pg c hi h
    | _ => false
  | c, .rev a, e => match e with
    | .Subscript x (.Slice none none (some (.UnaryOp .USub (.Constant (.int 1) _ _) _)) _) _ => chkE pg c a x
    | _ => false
  | c, .call f es, e => match e with
    | .Call (.Name x _) xs [] _ => fnB pg c f x && chkEs pg c es xs
    | _ => false
  | c, .callk f p es, e => match e with
    | .Call (.Name x _) [] kws _ => fnB pg c f x && (match kwNames kws with
      | some ks => kwB pg f p ks
      | none => false) && chkKs pg c es kws
    | _ => false
  | c, .blt b es, e => match e with
    | .Call (.Name x _) (y :: xs) [] _ => glB c x && (match b with | .gcd2 => pg.gcd | _ => pg.bn.contains x) && decide (x = bltName b) && chkEs pg c es (y :: xs)
    | _ => false
  | c, .isi a ts, e => match e with
    | .Call (.Name x _) [y, t] [] _ => bltB pg c x && decide (x = ("isinstance" : Str)) && notStar y && chkE pg c a y && (match t with
      | .Name _ _ => tysB pg c ts [t]
      | .Tuple us _ _ => Nat.ble ts.length 1000 && tysB pg c ts us
      | _ => false)
    | _ => false
  | c, .lrg lo hi, e => match e with
    | .Call (.Name x _) [.Call (.Name y _) xs [] _] [] _ => bltB pg c x && decide (x = ("list" : Str)) && bltB pg c y && decide (y = ("range" : Str)) && (match xs with
      | [h] => (match lo with | .cst (.int 0) => true | _ => false) && notStar h && chkE pg c hi h
      | [l, h] => notStar l && notStar h && chkE pg c lo l && chkE pg c hi h
      | _ => false)
    | _ => false
  | c, .trg lo hi, e => match e with
    | .Call (.Name x _) [.Call (.Name y _) xs [] _] [] _ => bltB pg c x && decide (x = ("tuple" : Str)) && bltB pg c y && decide (y = ("range" : Str)) && (match xs with
      | [h] => (match lo with | .cst (.int 0) => true | _ => false) && notStar h && chkE pg c hi h
      | [l, h] => notStar l && notStar h && chkE pg c lo l && chkE pg c hi h
      | _ => false)
    | _ => false
  | c, .lc elt tg it cd own, e => match e with
    | .ListComp x [⟨t, i, fs, 0⟩] scope _ => blkC c.N c.sc scope (ownN c own) && chkI pg c it t i && notSet i && noSub tg && (tgS tg).all (fun i => own.contains i) && chkT pg (blkSC c scope) tg t && (match fs, cd with
        | [], .non => true
        | [f], .som d => chkE pg (blkSC c scope) d f
        | _, _ => false) && chkE pg (blkSC c scope) elt x
    | _ => false
  | c, .mth m i es, e => match e with
    | .Call (.Attribute (.Name x _) n ap) xs [] p => slotB c i x && decide (n = mthName m) && (ap.endLine == p.line) && Nat.blt xs.length 30 && chkEs pg c es xs
    | _ => false
  | c, .rpr es, e => match e with
    | .Call (.Name x _) [.List xs _] [] _ => bltB pg c x && decide (x = ("repr" : Str)) && chkEs pg c es xs
    | _ => false
  | c, .giv a, e => chkE pg c a e
  | _, .dnw, e => match e with
    | .Dict [] [] _ => true
    | _ => false
  | c, .ds1 k v, e => match e with
    | .Dict [some x] [y] _ => chkE pg c k x && chkE pg c v y
    | _ => false
  | _, .dof _, _ => false
  | c, .dix a k, e => match e with
    | .Subscript x y _ => notSlice y && chkE pg c a x && chkE pg c k y
    | _ => false
  | c, .din n a b, e => match e with
    | .Compare l [op] [r] _ => (match n, op with
      | false, .In => true
      | true, .NotIn => true
      | _, _ => false) && notSet r && chkE pg c a l && chkE pg c b r
    | _ => false
  | c, .dgt a k d, e => match e with
    | .Call (.Attribute x n ap) [y, z] [] p => plainBase x && decide (n = ("get" : Str)) && (ap.endLine == p.line) && notStar y && notStar z && chkE pg c a x && chkE pg c k y && chkE pg c d z
    | _ => false
  | c, .lset a, e => match e with
    | .Call (.Name x _) [.Call (.Name y _) [z] [] _] [] _ => bltB pg c x && decide (x = ("len" : Str)) && bltB pg c y && decide (y = ("set" : Str)) && notStar z && chkE pg c a z
    | _ => false
  | _, .sset _, _ => false
def chkEs (pg : Pg) : SC → IEs → List Expr → Bool
  | _, .nil, es => match es with
    | [] => true
    | _ => false
  | c, .cons a as, es => match es with
    | e :: r => notStar e && chkE pg c a e && chkEs pg c as r
    | _ => false
def chkKs (pg : Pg) : SC → IEs → List Keyword → Bool
  | _, .nil, es => match es with
    | [] => true
    | _ => false
  | c, .cons a as, es => match es with
    | ⟨_, e, _⟩ :: r => chkE pg c a e && chkKs pg c as r
    | _ => false
def chkO (pg : Pg) : SC → IO → Option Expr → Bool
  | _, .non, e => match e with
    | none => true
    | _ => false
  | c, .som a, e => match e with
    | some e => chkE pg c a e
    | _ => false
def chkI (pg : Pg) : SC → II → Expr → Expr → Bool
  | c, .it a, _, e => chkE pg c a e
  | c, .rng lo hi, _, e => match e with
    | .Call (.Name y _) xs [] _ => bltB pg c y && decide (y = ("range" : Str)) && (match xs with
      | [h] => (match lo with | .cst (.int 0) => true | _ => false) && notStar h && chkE pg c hi h
      | [l, h] => notStar l && notStar h && chkE pg c lo l && chkE pg c hi h
      | _ => false)
    | _ => false
  | c, .enu a, t, e => match e, t with
    | .Call (.Name y _) [x] [] _, .Tuple _ _ _ => bltB pg c y && decide (y = ("enumerate" : Str)) && notStar x && chkE pg c a x
    | _, _ => false
  | c, .zip a b, t, e => match e, t with
    | .Call (.Name z _) [x, y] [] _, .Tuple _ _ _ => bltB pg c z && decide (z = ("zip" : Str)) && notStar x && notStar y && chkE pg c a x && chkE pg c b y
    | _, _ => false
  | _, .dks _, _, _ => false
def chkT (pg : Pg) : SC → IT → Expr → Bool
  | c, .nm i, e => match e with
    | .Name x _ => storeB c i x
    | _ => false
  | c, .tp ts, e => match e with
    | .Tuple xs _ _ => chkTs pg c ts xs
    | _ => false
  | c, .sub i a, e => match e with
    | .Subscript (.Name x _) y _ => slotB c i x && notSlice y && chkE pg c a y
    | _ => false
def chkTs (pg : Pg) : SC → ITs → List Expr → Bool
  | _, .nil, es => match es with
    | [] => true
    | _ => false
  | c, .cons t ts, es => match es with
    | e :: r => notStar e && chkT pg c t e && chkTs pg c ts r
    | _ => false
end
end Rf

set_option Elab.async false
set_option linter.all false
set_option maxRecDepth 100000
set_option maxHeartbeats 4000000
/-! Rf: what the checks say of the text's forms. -/
namespace Rf
open PySem PySem.Spec PyProof.Rows L2

theorem star_cons {e : Expr} {es : List Expr} {env : Env} (h : notStar e = true) : starEach (e :: es) env = (false, eval e env) :: starEach es env := by
  cases e <;> first | rfl | cases h
def noStars : List Expr → Bool
  | [] => true
  | e :: r => notStar e && noStars r
theorem plain_any {env : Env} {pos : Pos} : ∀ {es : List Expr}, noStars es = true → (backTo pos (starEach es env)).any (·.1) = false
  | [], _ => rfl
  | e :: r, h => by
    obtain ⟨h1, h2⟩ := ands h
    rw [star_cons h1]
    show (false || (backTo pos (starEach r env)).any (·.1)) = false
    rw [plain_any h2]; rfl
theorem plain_all {env : Env} {pos : Pos} : ∀ {es : List Expr}, noStars es = true → (backTo pos (starEach es env)).all (fun x => !x.1) = true
  | [], _ => rfl
  | e :: r, h => by
    obtain ⟨h1, h2⟩ := ands h
    rw [star_cons h1]
    show (true && (backTo pos (starEach r env)).all (fun x => !x.1)) = true
    rw [plain_all h2]; rfl
theorem star_all {env : Env} : ∀ {es : List Expr}, noStars es = true → starEach es env = es.map fun e => (false, eval e env)
  | [], _ => rfl
  | e :: r, h => by
    obtain ⟨h1, h2⟩ := ands h
    rw [star_cons h1, star_all h2]; rfl
theorem plainIx {b : Expr} (h : notSlice b = true) : PlainIx b := fun o i => by
  cases b <;> first | rfl | cases h
theorem mark_no {b : Expr} {op : CmpOp} (h : notSet b = true) : behindInMarks op b = false := by
  cases b <;> first | rfl | cases h
theorem last_no {b c : Expr} {op op' : CmpOp} (h : notSet c = true) : lastMarks [op, op'] [b, c] = false := by
  show behindInMarks op' c = false
  exact mark_no h
theorem fold_no {b : Expr} {env : Env} (h : notSet b = true) (x : Value) : foldedSetIterable b env x = pure x := by
  cases b <;> first | rfl | cases h
theorem asg_cons {e : Expr} {es : List Expr} {env : Env} (h : notStar e = true) : assignEach (e :: es) env = (false, assign e env) :: assignEach es env := by
  cases e <;> first | rfl | cases h
theorem asg_len {env : Env} : ∀ {es : List Expr}, (assignEach es env).length = es.length
  | [] => rfl
  | e :: r => by cases e <;> (show (assignEach r env).length + 1 = _; rw [asg_len]; rfl)
theorem asg_nost {env : Env} : ∀ {es : List Expr}, noStars es = true → (assignEach es env).findIdx? (·.1) = none
  | [], _ => rfl
  | e :: r, h => by
    obtain ⟨h1, h2⟩ := ands h
    rw [asg_cons h1, List.findIdx?_cons]
    simp [asg_nost h2]
theorem asg_sub {o i : Expr} {pos : Pos} {env : Env} (h : notSlice i = true) (v : Value) : assign (.Subscript o i pos) env v = (do
      let ov ← holding [v] (eval o env)
      let iv ← holding [v, ov] (eval i env)
      standAt pos
      holding [v, ov, iv] (setItem ov iv v)
      release [v, ov, iv] []) := by
  cases i <;> first | rfl | cases h

theorem vis_of {sc : Scope} {x : Str} (h : visB sc x = true) : Vis sc x := by
  unfold visB at h
  split at h
  · exact .inl (by assumption)
  · exact .inr (.inl (by assumption))
  · exact .inr (.inr (by assumption))
  · cases h
theorem locB_of {c : SC} {x : Str} (h : locB c x = true) : Loc c.sc x ∧ (c.fn x = true ∨ c.sc.names.lookup x = some .local) := by
  unfold locB at h
  split at h
  · rename_i e; exact ⟨.inl e, .inr e⟩
  · rename_i e; exact ⟨.inr e, .inl h⟩
  · cases h
theorem okName_of {x : Str} (h : okName x = true) : (x == ("__debug__" : Str)) = false ∧ (x == ("__classdict__" : Str)) = false ∧ x ≠ ("__name__" : Str) := by
  unfold okName at h
  obtain ⟨h1, h3⟩ := ands h
  obtain ⟨h1, h2⟩ := ands h1
  refine ⟨by simpa using h1, by simpa using h2, by simpa using h3⟩
theorem slotB_of {c : SC} {i : Nat} {x : Str} (h : slotB c i x = true) : c.N[i]? = some x ∧ Vis c.sc x ∧ (x == ("__debug__" : Str)) = false ∧ (x == ("__classdict__" : Str)) = false := by
  unfold slotB at h
  obtain ⟨h1, h3⟩ := ands h
  obtain ⟨h1, h2⟩ := ands h1
  obtain ⟨a, b, _⟩ := okName_of h3
  exact ⟨of_decide_eq_true h1, vis_of h2, a, b⟩
theorem storeB_of {c : SC} {i : Nat} {x : Str} (h : storeB c i x = true) : c.N[i]? = some x ∧ Loc c.sc x ∧ (c.fn x = true ∨ c.sc.names.lookup x = some .local) := by
  unfold storeB at h
  obtain ⟨h1, h2⟩ := ands h
  obtain ⟨a, b⟩ := locB_of h2
  exact ⟨of_decide_eq_true h1, a, b⟩
theorem glB_of {c : SC} {x : Str} (h : glB c x = true) : c.sc.names.lookup x = some .globalImplicit ∧ (x == ("__debug__" : Str)) = false ∧ x ≠ ("__name__" : Str) := by
  unfold glB at h
  obtain ⟨h1, h2⟩ := ands h
  obtain ⟨a, _, b⟩ := okName_of h1
  refine ⟨?_, a, b⟩
  split at h2
  · assumption
  · cases h2
end Rf

set_option Elab.async false
set_option linter.all false
set_option maxRecDepth 100000
set_option maxHeartbeats 4000000
/-! Rf: contexts, what a def promises, readings. -/
namespace Rf
open PySem PySem.Spec PyProof.Rows L2

/-! ### a def's promise -/
def ArR (K : PySem.W.Frag) (G H : Hp) : Ar → V → Prop
  | .pu d, x => Pu K G d x
  | .io xs, x => ∃ a ys, x = .ref a ∧ G a = none ∧ H a = some (.lst ys) ∧ PuA K G xs ys
  | .sc xs, x => ∃ a ys, x = .ref a ∧ ScrR K H a ys ∧ PuA K G xs ys
inductive ArsR (K : PySem.W.Frag) (G H : Hp) : List Ar → List V → Prop
  | nil : ArsR K G H [] []
  | cons {a : Ar} {x : V} {as : List Ar} {xs : List V} : ArR K G H a x → ArsR K G H as xs → ArsR K G H (a :: as) (x :: xs)
theorem ArsR.length {K : PySem.W.Frag} {G H : Hp} : ∀ {as : List Ar} {xs : List V}, ArsR K G H as xs → as.length = xs.length
  | _, _, .nil => rfl
  | _, _, .cons _ b => congrArg Nat.succ (ArsR.length b)
def ioAd : List Ar → List V → List Addr
  | .io _ :: as, .ref a :: vs => a :: ioAd as vs
  | _ :: as, _ :: vs => ioAd as vs
  | _, _ => []
inductive OutsR (K : PySem.W.Frag) (G H : Hp) : List Addr → List (List D) → Prop
  | nil : OutsR K G H [] []
  | cons {a : Addr} {ys : List V} {xs : List D} {as : List Addr} {xss : List (List D)} : G a = none → H a = some (.lst ys) → PuA K G xs ys → OutsR K G H as xss → OutsR K G H (a :: as) (xs :: xss)
def RvR (K : PySem.W.Frag) (G H Hs : Hp) (x : V) : Rv → Prop
  | .pu d => Pu K G d x
  | .fr xs => ∃ a ys, x = .ref a ∧ G a = none ∧ H a = some (.lst ys) ∧ PuA K G xs ys ∧ Hs a = none
structure CallQ (K : PySem.W.Frag) (G H : Hp) (ads : List Addr) (outs : List (List D)) (rv : Rv) (G' H' : Hp) (x : V) : Prop where
  sub : Sub G' H'
  g : Sub G G'
  h : ∀ a o, H a = some o → a ∉ ads → H' a = some o
  n : ∀ a, H a ≠ none → G a = none → a ∉ ads → G' a = none
  f : ∀ a, H a ≠ none → H' a ≠ none
  o : OutsR K G' H' ads outs
  r : RvR K G' H' H x rv
def spF (K : PySem.W.Frag) (F : FT) (f n : Nat) : Sp := fun vs H Q _ => ∃ G as rv outs, Sub G H ∧ ArsR K G H as vs ∧ (ioAd as vs).Nodup ∧ F f as = some (rv, outs) ∧ vs.length = n ∧
  ∀ G' H' x, CallQ K G H (ioAd as vs) outs rv G' H' x → Q x H'

/-- a call's end: it returns -/
def GR (outer : List Env) (P : Program) (w : World) (H : Hp) (s : Shared) (Q : VK) (r : Result) (s' : Shared) : Prop :=
  match r with
  | .ok (.ret u) => CE outer P w H s Q u s'
  | _ => False
structure FnG (P : Program) (w : World) (K : PySem.W.Frag) (mg : Str → Option Value) (base : Heap) (k : Nat) (f : Addr) (fd : FuncData) (ps : List Str) (sp : Sp) : Prop where
  len : ∀ vs H Q E, sp vs H Q E → vs.length = ps.length
  run : ∀ (A : Around) (outer : List Env) (s : Shared) (H : Hp) (args : Args) (us : List Value) (vs : List V) (Q : VK) (E : XK), Room k A → A.guards = some [] → Env0 P w K mg base A outer s H → BindsTo s fd args (ps.zip us) → Vals vs us → sp vs H Q E →
    codeAny (model P w) A (.call (.ref f) args) (GR outer P w H s Q) s
structure BindG (kws : List (Nat × List Str × List Nat)) (K : PySem.W.Frag) (f : Nat) (fd : FuncData) (ps : List Str) : Prop where
  pos : ∀ (s : Shared) (us : List Value), K.In s.heap → us.length = ps.length → BindsTo s fd ⟨us, []⟩ (ps.zip us)
  kw : ∀ ks p, (f, ks, p) ∈ kws → ∀ (s : Shared) (ws : List Value), K.In s.heap → ws.length = ks.length → ∃ us, pick ws p = some us ∧ BindsTo s fd ⟨[], ks.zip ws⟩ (ps.zip us)
structure PgOk (pg : Pg) (k : Nat) (P : Program) (w : World) (K : PySem.W.Frag) (mg : Str → Option Value) (base : Heap) : Prop where
  gl : ∀ (n : Nat) (y : Str) (d : D), pg.gl[n]? = some (y, d) → ∃ v u, mg y = some u ∧ RelV v u ∧ ∀ G, Pu K G d v
  bn : ∀ x, x ∈ pg.bn → mg x = none
  gcd : pg.gcd = true → mg "gcd" = some (.builtin "math.gcd")
  fns : ∀ (f : Nat) (x : Str) (ps : List Str) (fn : Fn), pg.fns[f]? = some (x, ps, fn) → ∃ a fd, mg x = some (.ref a) ∧ PySem.W.keepIn K (.ref a) = true ∧ fn.np = ps.length ∧ BindG pg.kws K f fd ps ∧ FnG P w K mg base k a fd ps (spF K (pg.F k) f ps.length)
structure XOk (pg : Pg) (k : Nat) (c : SC) (X : Cx) : Prop where
  N : X.N = c.N
  nd : X.N.Nodup
  sc : X.env.scope = c.sc
  fn : X.fn = c.fn
  calm : X.calm = true
  room : Room k X.A
  gds : X.A.guards = some []
  pg : PgOk pg k X.prog X.w X.K X.mg X.base
section
variable {pg : Pg} {k : Nat} {c : SC} {X : Cx}
theorem XOk.u67 (h : XOk pg k c X) : X.A.units + 67 < cLine := by have := h.room.un; omega
theorem XOk.u65 (h : XOk pg k c X) : X.A.units + 65 < cLine := by have := h.room.un; omega
theorem XOk.gl (h : XOk pg k c X) {x : Str} (e : glB c x = true) : Gl X x ∧ (x == ("__debug__" : Str)) = false ∧ x ≠ ("__name__" : Str) := by
  obtain ⟨a, b, d⟩ := glB_of e
  refine ⟨?_, b, d⟩
  show X.env.scope.names.lookup x = _
  rw [h.sc]; exact a
theorem XOk.blt (h : XOk pg k c X) {x : Str} (e : bltB pg c x = true) : Gl X x ∧ X.mg x = none ∧ (x == ("__debug__" : Str)) = false ∧ x ≠ ("__name__" : Str) := by
  obtain ⟨e1, e2⟩ := ands e
  obtain ⟨a, b, d⟩ := h.gl e1
  exact ⟨a, h.pg.bn x (by simpa using e2), b, d⟩
end

/-! ### the state behind -/
section
variable {O O' : Addr → Prop} {G H G' H' : Hp}
theorem Step.fb (st : Step O G H O' G' H') (a : Addr) (h : H' a = none) : H a = none := by
  cases q : H a with
  | none => rfl
  | some u => exact absurd h (st.f a (by rw [q]; simp))
end
def KE (K : PySem.W.Frag) (γ : Gam) (G H : Hp) (env : Ev) (σ : L2.St) (env' : Ev) (o : Opd) (Q : VK) : Prop := ∀ G' H' x, Sr K γ G' H' env' σ → Step (Ow env σ) G H (Ow env' σ) G' H' → OpdR K G' H' env' σ H x o → Q x H'
def tE (F : FT) (C : List D) (K : PySem.W.Frag) (γ : Gam) (ie : IE) : TE := fun σ H Q => ∃ G env o env', Sr K γ G H env σ ∧ evE F C ie env = some (o, env') ∧ KE K γ G H env σ env' o Q
def tT (F : FT) (C : List D) (K : PySem.W.Frag) (γ : Gam) (ie : IE) : TT := fun σ H Q => ∃ G env b env', Sr K γ G H env σ ∧ evE F C ie env = some (.pu (.bool b), env') ∧
  ∀ G' H', Sr K γ G' H' env' σ → Step (Ow env σ) G H (Ow env' σ) G' H' → Q b H'
def notFr : Opd → Bool
  | .fr _ => false
  | _ => true
inductive OpasR (K : PySem.W.Frag) (G H : Hp) (env : Ev) (σ : L2.St) (Hs : Hp) : List V → List Opd → Prop
  | nil : OpasR K G H env σ Hs [] []
  | cons {x : V} {o : Opd} {xs : List V} {os : List Opd} : OpdR K G H env σ Hs x o → notFr o = true → OpasR K G H env σ Hs xs os → OpasR K G H env σ Hs (x :: xs) (o :: os)
def tA (F : FT) (C : List D) (K : PySem.W.Frag) (γ : Gam) (es : IEs) : TA := fun σ H Q => ∃ G env os env', Sr K γ G H env σ ∧ evA F C es env = some (os, env') ∧
  ∀ G' H' xs, Sr K γ G' H' env' σ → Step (Ow env σ) G H (Ow env' σ) G' H' → OpasR K G' H' env' σ H xs os → Q xs H'
/-- items: each a value from now on -/
def tP (F : FT) (C : List D) (K : PySem.W.Frag) (γ : Gam) (es : IEs) : TA := fun σ H Q => ∃ G env ds env', Sr K γ G H env σ ∧ evP F C es env = some (ds, env') ∧
  ∀ G' H' xs, Sr K γ G' H' env' σ → Step (Ow env σ) G H (Ow env' σ) G' H' → PuA K G' ds xs → Q xs H'
def tO (F : FT) (C : List D) (K : PySem.W.Frag) (γ : Gam) (io : IO) : TO := fun σ H Q => ∃ G env i env', Sr K γ G H env σ ∧ evO F C io env = some (i, env') ∧
  ∀ G' H', Sr K γ G' H' env' σ → Step (Ow env σ) G H (Ow env' σ) G' H' → Q i H'

theorem PE.weak {X : Cx} {e : Expr} {t t' : TE} (h : PE X e t) (w : ∀ σ H Q, t' σ H Q → t σ H Q) : PE X e t' := ⟨fun pins s σ H Q I q => h.run pins s σ H Q I (w _ _ _ q)⟩
theorem PT.weak {X : Cx} {e : Expr} {t t' : TT} (h : PT X e t) (w : ∀ σ H Q, t' σ H Q → t σ H Q) : PT X e t' := ⟨fun pins s σ H Q I q => h.run pins s σ H Q I (w _ _ _ q)⟩
theorem PW.weak {X : Cx} {e : Expr} {t t' : TT} (h : PW X e t) (w : ∀ σ H Q, t' σ H Q → t σ H Q) : PW X e t' := ⟨fun wh pins s σ H Q I q => h.run wh pins s σ H Q I (w _ _ _ q)⟩
theorem PA.weak {X : Cx} {e : List Expr} {t t' : TA} (h : PA X e t) (w : ∀ σ H Q, t' σ H Q → t σ H Q) : PA X e t' := ⟨fun pos pins s σ H Q I q => h.run pos pins s σ H Q I (w _ _ _ q)⟩
theorem PK.weak {X : Cx} {e : List Keyword} {t t' : TA} (h : PK X e t) (w : ∀ σ H Q, t' σ H Q → t σ H Q) : PK X e t' := ⟨fun pos pins s σ H Q I q => h.run pos pins s σ H Q I (w _ _ _ q)⟩
theorem PO.weak {X : Cx} {e : Option Expr} {t t' : TO} (h : PO X e t) (w : ∀ σ H Q, t' σ H Q → t σ H Q) : PO X e t' := ⟨fun pins s σ H Q I q => h.run pins s σ H Q I (w _ _ _ q)⟩

section
variable {K : PySem.W.Frag} {γ : Gam} {G H G1 H1 G2 H2 : Hp} {env env1 env2 : Ev} {σ : L2.St} {o : Opd} {Q : VK} {x : V} {d : D}
theorem KE.fin (k : KE K γ G H env σ env1 o Q) (s : Sr K γ G1 H1 env1 σ) (st : Step (Ow env σ) G H (Ow env1 σ) G1 H1) : RQ K G1 H1 o Q := fun G' H' x e r =>
  k G' H' x (s.ext e) (st.trans (Step.ext e)) ((opd_of s e r).start st.fb)
theorem KE.pu (k : KE K γ G H env σ env1 (.pu d) Q) (s : Sr K γ G1 H1 env1 σ) (st : Step (Ow env σ) G H (Ow env1 σ) G1 H1) (r : Pu K G1 d x) : Q x H1 := k G1 H1 x s st r
theorem rdsAll_ok (s : Sr K γ G1 H1 env1 σ) : ∀ {os : List Opd} {xs : List V} {ds : List D}, OpasR K G1 H1 env1 σ H xs os → rdsAll env1 os = some ds → RdsA K G1 H1 ds xs
  | _, _, _, .nil, e => by simp [rdsAll] at e; subst e; exact .nil
  | _, _, _, .cons r _ rr, e => by
    simp only [rdsAll] at e
    split at e
    · rename_i d ds h1 h2
      cases e
      exact .cons (rds_ok s r h1) (rdsAll_ok s rr h2)
    · cases e
theorem OpasR.later {Hs G' H' : Hp} {env' : Ev} (st : Step (Ow env σ) G H (Ow env' σ) G' H') : ∀ {os : List Opd} {xs : List V}, OpasR K G H env σ Hs xs os → OpasR K G' H' env' σ Hs xs os
  | _, _, .nil => .nil
  | _, _, .cons r n rr => .cons (r.later st) n (OpasR.later st rr)
theorem OpasR.start {Hs Hs' : Hp} (h : ∀ a, Hs a = none → Hs' a = none) : ∀ {os : List Opd} {xs : List V}, OpasR K G H env σ Hs xs os → OpasR K G H env σ Hs' xs os
  | _, _, .nil => .nil
  | _, _, .cons r n rr => .cons (r.start h) n (OpasR.start h rr)
theorem OpasR.length {Hs : Hp} : ∀ {os : List Opd} {xs : List V}, OpasR K G H env σ Hs xs os → os.length = xs.length
  | _, _, .nil => rfl
  | _, _, .cons _ _ b => congrArg Nat.succ (OpasR.length b)
/-- a new list given away as a value -/
theorem thaw_ok {G0 H0 : Hp} {env0 : Ev} (s : Sr K γ G H env σ) (st : Step (Ow env0 σ) G0 H0 (Ow env σ) G H) (r : OpdR K G H env σ H0 x o) :
    ∃ G1, Sr K γ G1 H env σ ∧ Step (Ow env0 σ) G0 H0 (Ow env σ) G1 H ∧ OpdR K G1 H env σ H0 x (thaw o) ∧ notFr (thaw o) = true := by
  cases o with
  | pu d => exact ⟨G, s, st, r, rfl⟩
  | bo i => exact ⟨G, s, st, r, rfl⟩
  | fo xs => exact ⟨G, s, st, r, rfl⟩
  | fr xs =>
    obtain ⟨G1, a, b, _, e, _⟩ := frz_ok (d := .list xs) s st r rfl
    exact ⟨G1, a, b, e, rfl⟩
  | fd kvs =>
    obtain ⟨G1, a, b, _, e, _⟩ := frz_ok (d := .dict kvs) s st r rfl
    exact ⟨G1, a, b, e, rfl⟩
end
end Rf

set_option Elab.async false
set_option linter.all false
set_option maxRecDepth 100000
set_option maxHeartbeats 4000000
/-! Rf: names, constants, operators, tests, displays, subscripts. -/
namespace Rf
open PySem PySem.Spec PyProof.Rows L2

section
variable {X : Cx} {F : FT} {C : List D} {γ : Gam} {a b c : Expr} {ia ib ic : IE} {pos : Pos}

theorem opd_bl {K : PySem.W.Frag} {G H Hs : Hp} {env : Ev} {σ : L2.St} {x : V} {b : Bool} (r : OpdR K G H env σ Hs x (.pu (.bool b))) : x = .bl b := by
  have r' : Pu K G (.bool b) x := r
  cases r'; rfl
theorem opd_int {K : PySem.W.Frag} {G H Hs : Hp} {env : Ev} {σ : L2.St} {x : V} {b : Int} (r : OpdR K G H env σ Hs x (.pu (.int b))) : x = .int b := by
  have r' : Pu K G (.int b) x := r
  cases r'; rfl
theorem pt_plain {e : Expr} {ie : IE} (h : PE X e (tE F C X.K γ ie)) (he : ∀ whole, isTrue e X.env whole = (do let v ← whole; standAt e.pos; holding [v] (truthy v))) : PT X e (tT F C X.K γ ie) := by
  refine PT.weak (pt_val h he) fun σ H Q ⟨G, env, b, env', sr, ev, k⟩ => ?_
  exact ⟨G, env, _, env', sr, ev, fun G' H' x s st r => ⟨b, opd_bl r, k G' H' s st⟩⟩

theorem e_var {i : Nat} {x : Str} (hN : X.N[i]? = some x) (hv : Vis X.env.scope x) (hd : (x == ("__debug__" : Str)) = false) (hcd : (x == ("__classdict__" : Str)) = false) : PE X (.Name x pos) (tE F C X.K γ (.var i)) := by
  refine PE.weak (pe_var hN hv hd hcd) fun σ H Q ⟨G, env, o, env', sr, ev, k⟩ => ?_
  simp only [evE] at ev
  split at ev
  · rename_i d q
    cases ev
    obtain ⟨v, h1, h2⟩ := sr.slot i _ q
    exact ⟨v, h1, k G H v sr Step.refl h2⟩
  · rename_i t xs q
    cases ev
    obtain ⟨l, ys, h1, _⟩ := sr.slot i _ q
    exact ⟨_, h1, k G H _ sr Step.refl h1⟩
  · rename_i t xs q
    cases ev
    obtain ⟨l, ys, h1, _⟩ := sr.slot i _ q
    exact ⟨_, h1, k G H _ sr Step.refl h1⟩
  · rename_i kvs q
    cases ev
    obtain ⟨l, ys, h1, _⟩ := sr.slot i _ q
    exact ⟨_, h1, k G H _ sr Step.refl h1⟩
  · cases ev

theorem ownAt_set {env : Ev} {σ : L2.St} {i j : Nat} {l : Addr} {d : D} (h : OwnAt (env.set i (.val d)) σ j l) : OwnAt env σ j l ∧ j ≠ i := by
  obtain ⟨⟨t, e, io⟩, h1⟩ := h
  by_cases q : i = j
  · subst q
    rw [List.getElem?_set] at e
    simp only [if_true] at e
    split at e <;> cases e
    cases io
  · rw [List.getElem?_set_ne q] at e
    exact ⟨⟨⟨t, e, io⟩, h1⟩, fun z => q z.symm⟩
theorem e_frz {i : Nat} {x : Str} (hN : X.N[i]? = some x) (hv : Vis X.env.scope x) (hd : (x == ("__debug__" : Str)) = false) (hcd : (x == ("__classdict__" : Str)) = false) : PE X (.Name x pos) (tE F C X.K γ (.frz i)) := by
  refine PE.weak (pe_var hN hv hd hcd) fun σ H Q ⟨G, env, o, env', sr, ev, k⟩ => ?_
  simp only [evE] at ev
  split at ev
  · rename_i d q
    cases ev
    obtain ⟨v, h1, h2⟩ := sr.slot i _ q
    exact ⟨v, h1, k G H v sr Step.refl h2⟩
  · rename_i xs q
    cases ev
    obtain ⟨l, ys, h1, h2, h3, h4, h5⟩ := sr.ow_at q
    have up : Sub G (upd G l (.lst ys)) := sub_tell h2
    have pl : Pu X.K (upd G l (.lst ys)) (.list xs) (.ref l) := .lst upd_same (h4.mono up)
    have hi : i < env.length := (List.getElem?_eq_some_iff.mp q).1
    refine ⟨_, h1, k (upd G l (.lst ys)) H _ ⟨fun b u e => ?_, by simpa using sr.len, fun j s e => ?_, fun j j' b h h' => ?_⟩ ⟨up, fun _ _ e _ => e, fun b h1 h2 h3 => ?_, fun _ e => e, fun b hb => ?_⟩ pl⟩
    · by_cases z : b = l
      · subst z; rw [upd_same] at e; cases e; exact h3
      · rw [upd_ne z] at e; exact sr.sub _ _ e
    · by_cases z : i = j
      · subst z
        rw [List.getElem?_set_self hi] at e
        cases e
        exact ⟨_, h1, pl⟩
      · rw [List.getElem?_set_ne z] at e
        have q' := sr.slot j s e
        cases s with
        | emp => trivial
        | val d => obtain ⟨v, e1, e2⟩ := q'; exact ⟨v, e1, e2.mono up⟩
        | own t zs =>
          obtain ⟨m, ws, e1, e2, e3, e4, e5⟩ := q'
          refine ⟨m, ws, e1, ?_, e3, e4.mono up, e5⟩
          rw [upd_ne]
          · exact e2
          · rintro rfl
            exact z (sr.inj i j m h5 ⟨⟨_, e, rfl⟩, e1⟩)
        | dic zs =>
          obtain ⟨m, ws, e1, e2, e3, e4, e5⟩ := q'
          refine ⟨m, ws, e1, ?_, e3, e4.mono up, e5⟩
          rw [upd_ne]
          · exact e2
          · rintro rfl
            exact z (sr.inj i j m h5 ⟨⟨_, e, rfl⟩, e1⟩)
        | scr t zs => obtain ⟨m, ws, e1, e2, e3⟩ := q'; exact ⟨m, ws, e1, e2, e3.mono up⟩
    · exact sr.inj j j' b (ownAt_set h).1 (ownAt_set h').1
    · rw [upd_ne (fun z => h3 (by subst z; exact ⟨i, h5⟩))]; exact h2
    · obtain ⟨j, hj⟩ := hb
      exact .inl ⟨j, (ownAt_set hj).1⟩
  · rename_i kvs q
    cases ev
    obtain ⟨l, qs, h1, h2, h3, h4, _, h5⟩ := sr.dc_at q
    have up : Sub G (upd G l (.dK qs)) := sub_tell h2
    have pl : Pu X.K (upd G l (.dK qs)) (.dict kvs) (.ref l) := .dic upd_same (h4.mono up)
    have hi : i < env.length := (List.getElem?_eq_some_iff.mp q).1
    refine ⟨_, h1, k (upd G l (.dK qs)) H _ ⟨fun b u e => ?_, by simpa using sr.len, fun j s e => ?_, fun j j' b h h' => ?_⟩ ⟨up, fun _ _ e _ => e, fun b h1 h2 h3 => ?_, fun _ e => e, fun b hb => ?_⟩ pl⟩
    · by_cases z : b = l
      · subst z; rw [upd_same] at e; cases e; exact h3
      · rw [upd_ne z] at e; exact sr.sub _ _ e
    · by_cases z : i = j
      · subst z
        rw [List.getElem?_set_self hi] at e
        cases e
        exact ⟨_, h1, pl⟩
      · rw [List.getElem?_set_ne z] at e
        have q' := sr.slot j s e
        cases s with
        | emp => trivial
        | val d => obtain ⟨v, e1, e2⟩ := q'; exact ⟨v, e1, e2.mono up⟩
        | own t zs =>
          obtain ⟨m, ws, e1, e2, e3, e4, e5⟩ := q'
          refine ⟨m, ws, e1, ?_, e3, e4.mono up, e5⟩
          rw [upd_ne]
          · exact e2
          · rintro rfl
            exact z (sr.inj i j m h5 ⟨⟨_, e, rfl⟩, e1⟩)
        | dic zs =>
          obtain ⟨m, ws, e1, e2, e3, e4, e5⟩ := q'
          refine ⟨m, ws, e1, ?_, e3, e4.mono up, e5⟩
          rw [upd_ne]
          · exact e2
          · rintro rfl
            exact z (sr.inj i j m h5 ⟨⟨_, e, rfl⟩, e1⟩)
        | scr t zs => obtain ⟨m, ws, e1, e2, e3⟩ := q'; exact ⟨m, ws, e1, e2, e3.mono up⟩
    · exact sr.inj j j' b (ownAt_set h).1 (ownAt_set h').1
    · rw [upd_ne (fun z => h3 (by subst z; exact ⟨i, h5⟩))]; exact h2
    · obtain ⟨j, hj⟩ := hb
      exact .inl ⟨j, (ownAt_set hj).1⟩
  · cases ev

theorem e_cst {d : D} {cc : Const} {j} (h : constB d cc = true) : PE X (.Constant cc j pos) (tE F C X.K γ (.cst d)) := by
  have key : ∀ {v : V}, PE X (.Constant cc j pos) (tC v) → (∀ G, Pu X.K G d v) → PE X (.Constant cc j pos) (tE F C X.K γ (.cst d)) := fun {v} h1 h2 =>
    PE.weak h1 fun σ H Q ⟨G, env, o, env', sr, ev, k⟩ => by
      simp only [evE] at ev
      cases ev
      exact k G H v sr Step.refl (h2 G)
  cases d <;> cases cc <;> simp only [constB] at h <;> (try cases h)
  · exact key pe_non fun _ => .non
  · rename_i x y
    have e : x = y := by simpa using h
    subst e
    exact key pe_bl fun _ => .bl _
  · rename_i x y
    have e : x = y := of_decide_eq_true h
    subst e
    exact key pe_int fun _ => .int _
  · rename_i x y
    have e : x = y := of_decide_eq_true h
    subst e
    exact key pe_str fun _ => .str _
theorem e_glo {n : Nat} {x : Str} {d : D} {v : V} {u : Value} (hC : C[n]? = some d) (hg : Gl X x) (hm : X.mg x = some u) (r : RelV v u) (p : ∀ G, Pu X.K G d v) (hd : (x == ("__debug__" : Str)) = false) : PE X (.Name x pos) (tE F C X.K γ (.glo n)) :=
  PE.weak (pe_glob hg hm r hd) fun σ H Q ⟨G, env, o, env', sr, ev, k⟩ => by
    simp only [evE, hC] at ev
    cases ev
    exact k G H v sr Step.refl (p G)

theorem e_bin {o : BOp} {op : Operator} (ho : bopB o op = true) (ha : PE X a (tE F C X.K γ ia)) (hb : PE X b (tE F C X.K γ ib)) : PE X (.BinOp a op b pos) (tE F C X.K γ (.bin o ia ib)) := by
  have e : op = bopOf o := by cases o <;> cases op <;> first | rfl | cases ho
  subst e
  refine PE.weak (pe_op (op_bin o) ha hb) fun σ H Q ⟨G, env, o', env', sr, ev, k⟩ => ?_
  simp only [evE] at ev
  split at ev
  · cases ev
  rename_i x e1 h1
  split at ev
  · cases ev
  rename_i y e2 h2
  split at ev
  · rename_i p q hp hq
    obtain ⟨res, hr, he⟩ := Option.map_eq_some_iff.mp ev
    cases he
    exact ⟨G, env, x, e1, sr, h1, fun G1 H1 v s1 st1 r1 => ⟨G1, e1, y, _, s1, h2, fun G2 H2 u s2 st2 r2 =>
      ⟨G2, p, q, _, s2.sub, rdp_ok s2 (r1.later st2) hp, rdp_ok s2 r2 hq, hr, k.fin s2 (st1.trans st2)⟩⟩⟩
  · cases ev
theorem e_neg (ha : PE X a (tE F C X.K γ ia)) : PE X (.UnaryOp .USub a pos) (tE F C X.K γ (.neg ia)) := by
  refine PE.weak (pe_un un_neg ha) fun σ H Q ⟨G, env, o', env', sr, ev, k⟩ => ?_
  simp only [evE] at ev
  split at ev
  · rename_i d e1 h1
    obtain ⟨res, hr, he⟩ := Option.map_eq_some_iff.mp ev
    cases he
    cases d <;> simp only [negV] at hr <;> cases hr
    rename_i i
    exact ⟨G, env, _, _, sr, h1, fun G1 H1 v s1 st1 r1 => ⟨i, opd_int r1, k.pu s1 st1 (.int _)⟩⟩
  · cases ev
theorem cop_of {o : COp} {op : CmpOp} (ho : copB o op = true) : op = copOf o := by cases o <;> cases op <;> first | rfl | cases ho
theorem cmp_red {o : COp} {σ : L2.St} {H : Hp} {Q : VK} (h : tE F C X.K γ (.cmp o ia ib) σ H Q) : tOp (rCmpV X.K o) (tE F C X.K γ ia) (tE F C X.K γ ib) σ H Q := by
  obtain ⟨G, env, o', env', sr, ev, k⟩ := h
  simp only [evE] at ev
  split at ev
  · cases ev
  rename_i x e1 h1
  split at ev
  · cases ev
  rename_i y e2 h2
  split at ev
  · rename_i p q hp hq
    obtain ⟨res, hr, he⟩ := Option.map_eq_some_iff.mp ev
    cases he
    exact ⟨G, env, x, e1, sr, h1, fun G1 H1 v s1 st1 r1 => ⟨G1, e1, y, _, s1, h2, fun G2 H2 u s2 st2 r2 =>
      ⟨G2, p, q, _, s2.sub, rds_ok s2 (r1.later st2) hp, rds_ok s2 r2 hq, hr, k.pu s2 (st1.trans st2) (.bl _)⟩⟩⟩
  · cases ev
/-- a test, from the value's reading -/
theorem tT_tE {ie : IE} {K : PySem.W.Frag} {σ : L2.St} {H : Hp} {Q : Bool → Hp → Prop} (h : tT F C K γ ie σ H Q) : tE F C K γ ie σ H (fun x H' => ∃ b, x = .bl b ∧ Q b H') := by
  obtain ⟨G, env, b, env', sr, ev, k⟩ := h
  exact ⟨G, env, _, env', sr, ev, fun G' H' x s st r => ⟨b, opd_bl r, k G' H' s st⟩⟩
theorem e_cmp {o : COp} {op : CmpOp} (hu : X.A.units + 65 < cLine) (ho : copB o op = true) (hs : notSet b = true) (ha : PE X a (tE F C X.K γ ia)) (hb : PE X b (tE F C X.K γ ib)) : PE X (.Compare a [op] [b] pos) (tE F C X.K γ (.cmp o ia ib)) := by
  have e := cop_of ho
  subst e
  exact PE.weak (pe_cmpR (op_cmpV hu o) ha hb (mark_no hs)) fun _ _ _ h => cmp_red h
theorem t_cmp {o : COp} {op : CmpOp} (hu : X.A.units + 65 < cLine) (ho : copB o op = true) (hs : notSet b = true) (ha : PE X a (tE F C X.K γ ia)) (hb : PE X b (tE F C X.K γ ib)) : PT X (.Compare a [op] [b] pos) (tT F C X.K γ (.cmp o ia ib)) := by
  have e := cop_of ho
  subst e
  exact PT.weak (pt_cmpR (op_cmpV hu o) ha hb (mark_no hs)) fun _ _ _ h => cmp_red (tT_tE h)
theorem chn_red {o o' : COp} {σ : L2.St} {H : Hp} {Q : VK} (h : tE F C X.K γ (.chn o o' ia ib ic) σ H Q) : tChain (rCmpV X.K o) (rCmpV X.K o') (tE F C X.K γ ia) (tE F C X.K γ ib) (tE F C X.K γ ic) σ H Q := by
  obtain ⟨G, env, oo, env', sr, ev, k⟩ := h
  simp only [evE] at ev
  split at ev
  · cases ev
  rename_i x e1 h1
  split at ev
  · cases ev
  rename_i y e2 h2
  split at ev
  · rename_i p q hp hq
    refine ⟨G, env, x, e1, sr, h1, fun G1 H1 v s1 st1 r1 => ⟨G1, e1, y, e2, s1, h2, fun G2 H2 u s2 st2 r2 => ?_⟩⟩
    split at ev
    · cases ev
    · rename_i hc
      cases ev
      exact ⟨G2, p, q, false, s2.sub, rds_ok s2 (r1.later st2) hp, rds_ok s2 r2 hq, hc, false, rfl, k.pu s2 (st1.trans st2) (.bl _)⟩
    · rename_i hc
      split at ev
      · cases ev
      rename_i z e3 h3
      split at ev
      · rename_i q' r hq' hr'
        obtain ⟨res, hr, he⟩ := Option.map_eq_some_iff.mp ev
        cases he
        refine ⟨G2, p, q, true, s2.sub, rds_ok s2 (r1.later st2) hp, rds_ok s2 r2 hq, hc, true, rfl, ?_⟩
        rw [if_pos rfl]
        exact ⟨G2, e2, z, _, s2, h3, fun G3 H3 w s3 st3 r3 => ⟨G3, q', r, _, s3.sub, rds_ok s3 (r2.later st3) hq', rds_ok s3 r3 hr', hr, k.pu s3 ((st1.trans st2).trans st3) (.bl _)⟩⟩
      · cases ev
  · cases ev
theorem e_chn {o o' : COp} {op op' : CmpOp} (hu : X.A.units + 65 < cLine) (ho : copB o op = true) (ho' : copB o' op' = true) (hs : notSet c = true) (ha : PE X a (tE F C X.K γ ia)) (hb : PE X b (tE F C X.K γ ib)) (hc : PE X c (tE F C X.K γ ic)) :
    PE X (.Compare a [op, op'] [b, c] pos) (tE F C X.K γ (.chn o o' ia ib ic)) := by
  have e := cop_of ho; have e' := cop_of ho'
  subst e; subst e'
  exact PE.weak (pe_chain (op_cmpV hu o) (op_cmpV hu o') ha hb hc (last_no hs)) fun _ _ _ h => chn_red h
theorem t_chn {o o' : COp} {op op' : CmpOp} (hu : X.A.units + 65 < cLine) (ho : copB o op = true) (ho' : copB o' op' = true) (hs : notSet c = true) (ha : PE X a (tE F C X.K γ ia)) (hb : PE X b (tE F C X.K γ ib)) (hc : PE X c (tE F C X.K γ ic)) :
    PT X (.Compare a [op, op'] [b, c] pos) (tT F C X.K γ (.chn o o' ia ib ic)) := by
  have e := cop_of ho; have e' := cop_of ho'
  subst e; subst e'
  exact PT.weak (pt_chain (op_cmpV hu o) (op_cmpV hu o') ha hb hc (last_no hs)) fun _ _ _ h => chn_red (tT_tE h)

/-! ### and, or, not, if-else -/
theorem and_cases {env env' : Ev} {o : Opd} (ev : evE F C (.and2 ia ib) env = some (o, env')) :
    (∃ e1, evE F C ia env = some (.pu (.bool true), e1) ∧ evE F C ib e1 = some (o, env')) ∨ (evE F C ia env = some (.pu (.bool false), env') ∧ o = .pu (.bool false)) := by
  simp only [evE] at ev
  split at ev
  · rename_i e1 h1; exact .inl ⟨e1, h1, ev⟩
  · rename_i e1 h1; cases ev; exact .inr ⟨h1, rfl⟩
  · cases ev
theorem or_cases {env env' : Ev} {o : Opd} (ev : evE F C (.or2 ia ib) env = some (o, env')) :
    (∃ e1, evE F C ia env = some (.pu (.bool false), e1) ∧ evE F C ib e1 = some (o, env')) ∨ (evE F C ia env = some (.pu (.bool true), env') ∧ o = .pu (.bool true)) := by
  simp only [evE] at ev
  split at ev
  · rename_i e1 h1; exact .inl ⟨e1, h1, ev⟩
  · rename_i e1 h1; cases ev; exact .inr ⟨h1, rfl⟩
  · cases ev
theorem KE.later {K : PySem.W.Frag} {G H G1 H1 : Hp} {env env1 env2 : Ev} {σ : L2.St} {o : Opd} {Q : VK} (k : KE K γ G H env σ env2 o Q) (st : Step (Ow env σ) G H (Ow env1 σ) G1 H1) : KE K γ G1 H1 env1 σ env2 o Q := fun G' H' x s st' r =>
  k G' H' x s (st.trans st') (r.start st.fb)
theorem and_redV {K : PySem.W.Frag} {σ : L2.St} {H : Hp} {Q : VK} (h : tE F C K γ (.and2 ia ib) σ H Q) : tAndV (tE F C K γ ia) (tE F C K γ ib) σ H Q := by
  obtain ⟨G, env, o, env', sr, ev, k⟩ := h
  rcases and_cases ev with ⟨e1, h1, h2⟩ | ⟨h1, rfl⟩
  · refine ⟨G, env, _, e1, sr, h1, fun G1 H1 x s1 st1 r1 => ⟨true, opd_bl r1, ?_⟩⟩
    rw [if_pos rfl]
    exact ⟨G1, e1, o, env', s1, h2, k.later st1⟩
  · exact ⟨G, env, _, env', sr, h1, fun G1 H1 x s1 st1 r1 => ⟨false, opd_bl r1, k.pu s1 st1 (.bl _)⟩⟩
theorem or_redV {K : PySem.W.Frag} {σ : L2.St} {H : Hp} {Q : VK} (h : tE F C K γ (.or2 ia ib) σ H Q) : tOrV (tE F C K γ ia) (tE F C K γ ib) σ H Q := by
  obtain ⟨G, env, o, env', sr, ev, k⟩ := h
  rcases or_cases ev with ⟨e1, h1, h2⟩ | ⟨h1, rfl⟩
  · exact ⟨G, env, _, e1, sr, h1, fun G1 H1 x s1 st1 r1 => ⟨false, opd_bl r1, ⟨G1, e1, o, env', s1, h2, k.later st1⟩⟩⟩
  · refine ⟨G, env, _, env', sr, h1, fun G1 H1 x s1 st1 r1 => ⟨true, opd_bl r1, ?_⟩⟩
    rw [if_pos rfl]
    exact k.pu s1 st1 (.bl _)
theorem and_redT {K : PySem.W.Frag} {σ : L2.St} {H : Hp} {Q : Bool → Hp → Prop} (h : tT F C K γ (.and2 ia ib) σ H Q) : tAnd (tT F C K γ ia) (tT F C K γ ib) σ H Q := by
  obtain ⟨G, env, b, env', sr, ev, k⟩ := h
  rcases and_cases ev with ⟨e1, h1, h2⟩ | ⟨h1, e⟩
  · refine ⟨G, env, true, e1, sr, h1, fun G1 H1 s1 st1 => ?_⟩
    show (if true = true then tT F C K γ ib σ H1 Q else _)
    rw [if_pos rfl]
    exact ⟨G1, e1, b, env', s1, h2, fun G' H' s st => k G' H' s (st1.trans st)⟩
  · cases e
    exact ⟨G, env, false, env', sr, h1, fun G1 H1 s1 st1 => k G1 H1 s1 st1⟩
theorem or_redT {K : PySem.W.Frag} {σ : L2.St} {H : Hp} {Q : Bool → Hp → Prop} (h : tT F C K γ (.or2 ia ib) σ H Q) : tOr (tT F C K γ ia) (tT F C K γ ib) σ H Q := by
  obtain ⟨G, env, b, env', sr, ev, k⟩ := h
  rcases or_cases ev with ⟨e1, h1, h2⟩ | ⟨h1, e⟩
  · exact ⟨G, env, false, e1, sr, h1, fun G1 H1 s1 st1 => ⟨G1, e1, b, env', s1, h2, fun G' H' s st => k G' H' s (st1.trans st)⟩⟩
  · cases e
    refine ⟨G, env, true, env', sr, h1, fun G1 H1 s1 st1 => ?_⟩
    show (if true = true then Q true H1 else _)
    rw [if_pos rfl]
    exact k G1 H1 s1 st1
theorem e_not (ha : PE X a (tE F C X.K γ ia)) : PE X (.UnaryOp .Not a pos) (tE F C X.K γ (.nt ia)) := by
  refine PE.weak (pe_not ha) fun σ H Q ⟨G, env, o, env', sr, ev, k⟩ => ?_
  simp only [evE] at ev
  split at ev
  · rename_i b e1 h1
    cases ev
    exact ⟨G, env, _, _, sr, h1, fun G1 H1 x s1 st1 r1 => ⟨b, opd_bl r1, k.pu s1 st1 (.bl _)⟩⟩
  · cases ev
theorem t_not (ha : PT X a (tT F C X.K γ ia)) : PT X (.UnaryOp .Not a pos) (tT F C X.K γ (.nt ia)) := by
  refine PT.weak (pt_not ha) fun σ H Q ⟨G, env, o, env', sr, ev, k⟩ => ?_
  simp only [evE] at ev
  split at ev
  · rename_i b e1 h1
    cases ev
    exact ⟨G, env, _, _, sr, h1, fun G1 H1 s1 st1 => k G1 H1 s1 st1⟩
  · cases ev
theorem ite_cases {env env' : Ev} {o : Opd} (ev : evE F C (.ite ic ia ib) env = some (o, env')) : ∃ d e1, evE F C ic env = some (.pu (.bool d), e1) ∧ evE F C (if d = true then ia else ib) e1 = some (o, env') := by
  simp only [evE] at ev
  split at ev
  · rename_i e1 h1; exact ⟨true, e1, h1, ev⟩
  · rename_i e1 h1; exact ⟨false, e1, h1, ev⟩
  · cases ev
theorem e_ite (hc : PT X c (tT F C X.K γ ic)) (ha : PE X a (tE F C X.K γ ia)) (hb : PE X b (tE F C X.K γ ib)) : PE X (.IfExp c a b pos) (tE F C X.K γ (.ite ic ia ib)) := by
  refine PE.weak (pe_ifExp hc ha hb) fun σ H Q ⟨G, env, o, env', sr, ev, k⟩ => ?_
  obtain ⟨d, e1, h1, h2⟩ := ite_cases ev
  refine ⟨G, env, d, e1, sr, h1, fun G1 H1 s1 st1 => ?_⟩
  cases d with
  | true => exact ⟨G1, e1, o, env', s1, h2, k.later st1⟩
  | false => exact ⟨G1, e1, o, env', s1, h2, k.later st1⟩
theorem t_ite (hc : PT X c (tT F C X.K γ ic)) (ha : PT X a (tT F C X.K γ ia)) (hb : PT X b (tT F C X.K γ ib)) : PT X (.IfExp c a b pos) (tT F C X.K γ (.ite ic ia ib)) := by
  refine ⟨fun pins s σ H Q I ⟨G, env, bb, env', sr, ev, k⟩ => ?_⟩
  obtain ⟨d, e1, h1, h2⟩ := ite_cases ev
  show wpAny _ _ (do if ← isTrue c X.env (eval c X.env) then isTrue a X.env (eval a X.env) else isTrue b X.env (eval b X.env)) _ _ _
  refine wpAny_bind (thn (hc.run pins s σ H (fun q H1 => q = d ∧ ∃ G1, Sr X.K γ G1 H1 e1 σ ∧ Step (Ow env σ) G H (Ow e1 σ) G1 H1) I ⟨G, env, d, e1, sr, h1, fun G1 H1 s1 st1 => ⟨rfl, G1, s1, st1⟩⟩) fun q s1 ⟨H1, I1, e, G1, sr1, st1⟩ => ?_)
  subst e
  cases q with
  | true => exact ha.run pins s1 σ H1 Q I1 ⟨G1, e1, bb, env', sr1, h2, fun G' H' s st => k G' H' s (st1.trans st)⟩
  | false => exact hb.run pins s1 σ H1 Q I1 ⟨G1, e1, bb, env', sr1, h2, fun G' H' s st => k G' H' s (st1.trans st)⟩

/-! ### displays, subscripts -/
variable {es : List Expr} {ies : IEs} {x1 : Nat}
theorem e_tup {x1} (h : PA X es (tP F C X.K γ ies)) : PE X (.Tuple es x1 pos) (tE F C X.K γ (.tup ies)) := by
  refine PE.weak (pe_tup h) fun σ H Q ⟨G, env, o, env', sr, ev, k⟩ => ?_
  simp only [evE] at ev
  split at ev
  · rename_i ds e1 h1
    split at ev
    · rename_i hz
      cases ev
      exact ⟨G, env, ds, _, sr, h1, fun G1 H1 xs s1 st1 r1 => ⟨by rw [← r1.length]; exact lenOk_le hz, fun p hp => RQ.tup (k.fin s1 st1) s1.sub r1 hp⟩⟩
    · cases ev
  · cases ev
theorem e_lst (h : PA X es (tP F C X.K γ ies)) : PE X (.List es pos) (tE F C X.K γ (.lst ies)) := by
  refine PE.weak (pe_lst h) fun σ H Q ⟨G, env, o, env', sr, ev, k⟩ => ?_
  simp only [evE] at ev
  split at ev
  · rename_i ds e1 h1
    split at ev
    · rename_i hz
      cases ev
      exact ⟨G, env, ds, _, sr, h1, fun G1 H1 xs s1 st1 r1 => ⟨by rw [← r1.length]; exact lenOk_le hz, fun p hp => RQ.fr (k.fin s1 st1) s1.sub r1 hp⟩⟩
    · cases ev
  · cases ev
theorem e_idx (hs : notSlice b = true) (ha : PE X a (tE F C X.K γ ia)) (hb : PE X b (tE F C X.K γ ib)) : PE X (.Subscript a b pos) (tE F C X.K γ (.idx ia ib)) := by
  refine PE.weak (pe_ix ix_V ha hb (plainIx hs)) fun σ H Q ⟨G, env, o', env', sr, ev, k⟩ => ?_
  simp only [evE] at ev
  split at ev
  · cases ev
  rename_i x e1 h1
  split at ev
  · rename_i kk e2 h2
    split at ev
    · rename_i d hd
      obtain ⟨r, hr, he⟩ := Option.map_eq_some_iff.mp ev
      cases he
      refine ⟨G, env, x, e1, sr, h1, fun G1 H1 v s1 st1 r1 => ⟨G1, e1, _, _, s1, h2, fun G2 H2 u s2 st2 r2 => ?_⟩⟩
      have hk : ∃ i, kk = .int i := by
        cases d <;> cases kk <;> simp only [idxV] at hr <;> first | exact ⟨_, rfl⟩ | cases hr
      obtain ⟨i, rfl⟩ := hk
      exact ⟨G2, d, i, r, s2.sub, rds_ok s2 (r1.later st2) hd, opd_int r2, hr, fun z pz => k.pu s2 (st1.trans st2) pz⟩
    · cases ev
  · cases ev
theorem o_non : PO X none (tO F C X.K γ .non) := PO.weak po_none fun σ H Q ⟨G, env, i, env', sr, ev, k⟩ => by
  simp only [evO] at ev
  cases ev
  exact k G H sr Step.refl
theorem o_som {e : Expr} {ie : IE} (h : PE X e (tE F C X.K γ ie)) : PO X (some e) (tO F C X.K γ (.som ie)) := PO.weak (po_some h) fun σ H Q ⟨G, env, i, env', sr, ev, k⟩ => by
  simp only [evO] at ev
  split at ev
  · rename_i j e1 h1
    cases ev
    exact ⟨G, env, _, _, sr, h1, fun G1 H1 x s1 st1 r1 => ⟨j, opd_int r1, k G1 H1 s1 st1⟩⟩
  · cases ev
theorem e_slc {lo hi : Option Expr} {il ih : IO} {p2 : Pos} (ha : PE X a (tE F C X.K γ ia)) (hl : PO X lo (tO F C X.K γ il)) (hh : PO X hi (tO F C X.K γ ih)) : PE X (.Subscript a (.Slice lo hi none p2) pos) (tE F C X.K γ (.slc ia il ih)) := by
  refine PE.weak (pe_slice sl_V ha hl hh) fun σ H Q ⟨G, env, o', env', sr, ev, k⟩ => ?_
  simp only [evE] at ev
  split at ev
  · cases ev
  rename_i x e1 h1
  split at ev
  · cases ev
  rename_i l e2 h2
  split at ev
  · cases ev
  rename_i u e3 h3
  split at ev
  · rename_i d hd
    obtain ⟨r, hr, he⟩ := Option.map_eq_some_iff.mp ev
    cases he
    exact ⟨G, env, x, e1, sr, h1, fun G1 H1 v s1 st1 r1 => ⟨G1, e1, l, e2, s1, h2, fun G2 H2 s2 st2 => ⟨G2, e2, u, _, s2, h3, fun G3 H3 s3 st3 =>
      ⟨G3, d, _, s3.sub, rds_ok s3 ((r1.later st2).later st3) hd, hr, k.fin s3 ((st1.trans st2).trans st3)⟩⟩⟩⟩
  · cases ev
end
end Rf

set_option Elab.async false
set_option linter.all false
set_option maxRecDepth 100000
set_option maxHeartbeats 4000000
/-! Rf: arguments, built-in calls, ranges, methods. -/
namespace Rf
open PySem PySem.Spec PyProof.Rows L2

section
variable {X : Cx} {F : FT} {C : List D} {γ : Gam} {a b c e : Expr} {ia ib ic ie : IE} {es : List Expr} {ies : IEs} {pos p : Pos}

theorem a_nil : PA X [] (tA F C X.K γ .nil) := PA.weak pa_nil fun σ H Q ⟨G, env, os, env', sr, ev, k⟩ => by
  simp only [evA] at ev
  cases ev
  exact k G H [] sr Step.refl .nil
theorem tA_cons {K : PySem.W.Frag} {σ : L2.St} {H : Hp} {Q : List V → Hp → Prop} (h : tA F C K γ (.cons ie ies) σ H Q) : tCons (tE F C K γ ie) (tA F C K γ ies) σ H Q := by
  obtain ⟨G, env, os, env', sr, ev, k⟩ := h
  simp only [evA] at ev
  split at ev
  · cases ev
  rename_i o e1 h1
  split at ev
  · cases ev
  rename_i os' e2 h2
  cases ev
  refine ⟨G, env, o, e1, sr, h1, fun G1 H1 x s1 st1 r1 => ?_⟩
  obtain ⟨G1', s1', st1', r1', nf⟩ := thaw_ok s1 st1 r1
  exact ⟨G1', e1, os', _, s1', h2, fun G2 H2 xs s2 st2 r2 => k G2 H2 (x :: xs) s2 (st1'.trans st2) (.cons (r1'.later st2) nf (r2.start st1'.fb))⟩
theorem a_cons (hs : notStar e = true) (he : PE X e (tE F C X.K γ ie)) (hr : PA X es (tA F C X.K γ ies)) : PA X (e :: es) (tA F C X.K γ (.cons ie ies)) :=
  PA.weak (pa_cons he hr (star_cons hs)) fun _ _ _ h => tA_cons h
theorem k_nil : PK X [] (tA F C X.K γ .nil) := PK.weak pk_nil fun σ H Q ⟨G, env, os, env', sr, ev, k⟩ => by
  simp only [evA] at ev
  cases ev
  exact k G H [] sr Step.refl .nil
theorem k_cons {nm : Option Str} {kpos : Pos} {kws : List Keyword} (he : PE X e (tE F C X.K γ ie)) (hr : PK X kws (tA F C X.K γ ies)) : PK X (⟨nm, e, kpos⟩ :: kws) (tA F C X.K γ (.cons ie ies)) :=
  PK.weak (pk_cons he hr) fun _ _ _ h => tA_cons h
theorem p_nil : PA X [] (tP F C X.K γ .nil) := PA.weak pa_nil fun σ H Q ⟨G, env, os, env', sr, ev, k⟩ => by
  simp only [evP] at ev
  cases ev
  exact k G H [] sr Step.refl .nil
theorem p_cons (hs : notStar e = true) (he : PE X e (tE F C X.K γ ie)) (hr : PA X es (tP F C X.K γ ies)) : PA X (e :: es) (tP F C X.K γ (.cons ie ies)) := by
  refine PA.weak (pa_cons he hr (star_cons hs)) fun σ H Q ⟨G, env, ds, env', sr, ev, k⟩ => ?_
  simp only [evP] at ev
  split at ev
  · cases ev
  rename_i o e1 h1
  split at ev
  · cases ev
  rename_i d hd
  split at ev
  · cases ev
  rename_i ds' e2 h2
  cases ev
  refine ⟨G, env, o, e1, sr, h1, fun G1 H1 x s1 st1 r1 => ?_⟩
  obtain ⟨G1', s1', st1', _, r1', _⟩ := frz_ok s1 st1 r1 hd
  exact ⟨G1', e1, ds', _, s1', h2, fun G2 H2 xs s2 st2 r2 => k G2 H2 (x :: xs) s2 (st1'.trans st2) (.cons (r1'.mono st2.g) r2)⟩

/-! ### built-in calls -/
theorem boot_blt (b : Blt) (h : b ≠ .gcd2) : bootBuiltins (bltName b) = some (bltKind b).val := by
  cases b <;> first | exact absurd rfl h | decide +kernel
theorem e_blt {bl : Blt} {x : Str} (hcalm : X.calm = true) (hgd : X.A.guards = some []) (hu : X.A.units + 67 < cLine) (hx : x = bltName bl) (hg : Gl X x) (hd : (x == ("__debug__" : Str)) = false) (hn : x ≠ ("__name__" : Str))
    (hm : if bl = .gcd2 then X.mg "gcd" = some (.builtin "math.gcd") else X.mg x = none) (hst : noStars (e :: es) = true) (ha : PA X (e :: es) (tA F C X.K γ ies)) : PE X (.Call (.Name x p) (e :: es) [] pos) (tE F C X.K γ (.blt bl ies)) := by
  obtain ⟨hs1, hs2⟩ := ands hst
  have red : ∀ {σ : L2.St} {H : Hp} {Q : VK}, tE F C X.K γ (.blt bl ies) σ H Q → tCB (rBlt X.K bl) (tA F C X.K γ ies) σ H Q := fun {σ H Q} ⟨G, env, o, env', sr, ev, k⟩ => by
    simp only [evE] at ev
    split at ev
    · cases ev
    rename_i os e1 h1
    split at ev
    · rename_i ds hds
      obtain ⟨res, hr, he⟩ := Option.map_eq_some_iff.mp ev
      cases he
      exact ⟨G, env, os, _, sr, h1, fun G1 H1 xs s1 st1 r1 => ⟨G1, ds, _, s1.sub, rdsAll_ok s1 r1 hds, hr, k.fin s1 st1⟩⟩
    · cases ev
  have hc := call_blt hcalm hgd hu bl
  by_cases hb : bl = .gcd2
  · subst hb
    subst hx
    rw [if_pos rfl] at hm
    exact PE.weak (pe_callBfun (id := "math.gcd") hc hg hm ha hd (star_cons hs1) (plain_any hs2)) fun _ _ _ h => red h
  · rw [if_neg hb] at hm
    have hv := boot_blt bl hb
    rw [← hx] at hv
    cases hk : bltKind bl with
    | fn id =>
      rw [hk] at hc hv
      exact PE.weak (pe_callB (id := id) hc hg hm hv ha hn hd (star_cons hs1) (plain_any hs2)) fun _ _ _ h => red h
    | ty n =>
      rw [hk] at hc hv
      exact PE.weak (pe_callTy (T := n) hc hg hm hv ha hn hd (star_cons hs1) (plain_any hs2)) fun _ _ _ h => red h

/-! ### isinstance -/
theorem boot_ty (t : Ty) : bootBuiltins (Str.ofString (tyN t)) = some (.type (tyN t)) := by cases t <;> decide +kernel
def tTys (ts : List Ty) : TA := fun _ H Q => Q (ts.map fun t => V.ty (tyN t)) H
theorem clsV_map (ts : List Ty) : Paired ClsV (ts.map fun t => V.ty (tyN t)) (ts.map fun t => Value.type (tyN t)) := by
  induction ts with
  | nil => exact .nil
  | cons t ts ih => exact .cons (.ty _) ih
/-- the type names of a tuple -/
theorem tys_pa {pg : Pg} {k : Nat} {sc : SC} (hX : XOk pg k sc X) : ∀ {ts : List Ty} {us : List Expr}, tysB pg sc ts us = true → PA X us (tTys ts) ∧ noStars us = true
  | [], [], _ => ⟨PA.weak pa_nil fun _ _ _ h => h, rfl⟩
  | [], _ :: _, h => by cases h
  | t :: ts, [], h => by cases h
  | t :: ts, u :: us, h => by
    cases u <;> first | (simp only [tysB] at h; cases h) | skip
    rename_i x q
    simp only [tysB] at h
    obtain ⟨h12, h3⟩ := ands h
    obtain ⟨h1, h2⟩ := ands h12
    obtain ⟨g1, g2, g3, g4⟩ := hX.blt h1
    obtain ⟨r1, r2⟩ := tys_pa hX h3
    have hx : x = Str.ofString (tyN t) := of_decide_eq_true h2
    have hv := boot_ty t
    rw [← hx] at hv
    exact ⟨PA.weak (pa_cons (pe_bltn (v := .ty (tyN t)) g1 g2 hv rfl g4 g3) r1 rfl) fun _ _ _ h => h, r2⟩
theorem e_isi1 {ts : List Ty} {y : Str} {q : Pos} {t : Ty} (hg : Gl X "isinstance") (hm : X.mg "isinstance" = none) (hs : notStar a = true) (ha : PE X a (tE F C X.K γ ia)) (ht : PE X (.Name y q) (tC (.ty (tyN t)))) :
    PE X (.Call (.Name "isinstance" p) [a, .Name y q] [] pos) (tE F C X.K γ (.isi ia [t])) := by
  refine PE.weak (pe_callB (call_isi) hg hm (by decide +kernel) (pa_cons ha (pa_cons ht pa_nil rfl) (star_cons hs)) (by decide) (by decide) (star_cons hs) rfl) fun σ H Q ⟨G, env, o, env', sr, ev, k⟩ => ?_
  simp only [evE] at ev
  split at ev
  · cases ev
  rename_i x e1 h1
  split at ev
  · rename_i d hd
    cases ev
    exact ⟨G, env, x, _, sr, h1, fun G1 H1 v s1 st1 r1 => ⟨v, .ty (tyN t), _, _, _, rfl, .ty _, tyX_of s1.sub (rdp_ok s1 r1 hd), kit_is X.K d t, by
      have := k.pu (x := .bl (tyIs t d)) s1 st1 (by simp; exact .bl _)
      exact this⟩⟩
  · cases ev
theorem e_isiT {ts : List Ty} {us : List Expr} {kk : Nat} {q : Pos} (hg : Gl X "isinstance") (hm : X.mg "isinstance" = none) (hs : notStar a = true) (ha : PE X a (tE F C X.K γ ia)) (ht : PA X us (tTys ts)) (hl : ts.length ≤ 1000) :
    PE X (.Call (.Name "isinstance" p) [a, .Tuple us kk q] [] pos) (tE F C X.K γ (.isi ia ts)) := by
  refine PE.weak (pe_callB (call_isiT) hg hm (by decide +kernel) (pa_cons ha (pa_cons (pe_tup ht) pa_nil rfl) (star_cons hs)) (by decide) (by decide) (star_cons hs) rfl) fun σ H Q ⟨G, env, o, env', sr, ev, k⟩ => ?_
  simp only [evE] at ev
  split at ev
  · cases ev
  rename_i x e1 h1
  split at ev
  · rename_i d hd
    cases ev
    refine ⟨G, env, x, _, sr, h1, fun G1 H1 v s1 st1 r1 => ⟨by rw [List.length_map, sizeLine_eq]; omega, fun l hl => ?_⟩⟩
    refine ⟨v, l, _, _, _, _, rfl, upd_same, clsV_map ts, tyX_of (s1.sub.trans (up_sub hl)) ?_, kit_any X.K d ts, ?_⟩
    · cases rdp_ok s1 r1 hd with
      | pu p => exact .pu p
      | li h q => exact .li (up_sub hl _ _ h) q
      | di h q => exact .di (up_sub hl _ _ h) q
    · exact k G1 _ (.bl _) (s1.newH hl) (st1.trans (Step.newH hl)) (.bl _)
  · cases ev

/-! ### list(range(..)), tuple(range(..)) -/
theorem ups_pu {K : PySem.W.Frag} {G : Hp} : ∀ (n : Nat) (lo : Int), PuA K G (ups lo n) ((List.range n).map fun i => V.int (lo + (i : Nat)))
  | 0, _ => .nil
  | n + 1, lo => by
    rw [List.range_succ_eq_map, List.map_cons, List.map_map]
    refine .cons ?_ ?_
    · have e : lo + ((0 : Nat) : Int) = lo := by simp
      rw [e]; exact .int lo
    · have e : ((fun i : Nat => V.int (lo + (i : Nat))) ∘ Nat.succ) = fun i : Nat => V.int ((lo + 1) + (i : Nat)) := by
        funext i
        show V.int _ = V.int _
        congr 1
        have : ((Nat.succ i : Nat) : Int) = (i : Int) + 1 := by omega
        rw [this]; omega
      rw [e]
      exact ups_pu n (lo + 1)
theorem ups_length : ∀ (n : Nat) (lo : Int), (ups lo n).length = n
  | 0, _ => rfl
  | n + 1, lo => congrArg Nat.succ (ups_length n _)
theorem rng_ok {d e : D} {xs : List D} (h : rngV d e = some xs) : ∃ i j : Int, d = .int i ∧ e = .int j ∧ (-4611686018427387904 ≤ i ∧ i < 4611686018427387904 ∧ -4611686018427387904 ≤ j ∧ j < 4611686018427387904) ∧ xs = ups i (j - i).toNat := by
  cases d <;> cases e <;> simp only [rngV] at h <;> (try cases h)
  rename_i i j
  split at h
  · rename_i ok
    cases h
    unfold rngOk at ok
    obtain ⟨ok, h4⟩ := ands ok
    obtain ⟨ok, h3⟩ := ands ok
    obtain ⟨h1, h2⟩ := ands ok
    exact ⟨i, j, rfl, rfl, ⟨of_decide_eq_true h1, of_decide_eq_true h2, of_decide_eq_true h3, of_decide_eq_true h4⟩, rfl⟩
  · cases h
theorem rg_cases {il ih : IE} {mk : List D → Opd} {env env' : Ev} {o : Opd} {t : IE} (ht : t = .lrg il ih ∧ mk = .fr ∨ t = .trg il ih ∧ mk = (fun xs => .pu (.tuple xs))) (ev : evE F C t env = some (o, env')) :
    ∃ d e e1 xs, evE F C il env = some (.pu d, e1) ∧ evE F C ih e1 = some (.pu e, env') ∧ rngV d e = some xs ∧ lenOk xs.length = true ∧ o = mk xs := by
  rcases ht with ⟨rfl, rfl⟩ | ⟨rfl, rfl⟩ <;> simp only [evE] at ev
  all_goals
    split at ev
    · rename_i d e1 h1
      split at ev
      · rename_i e e2 h2
        split at ev
        · rename_i xs h3
          split at ev
          · rename_i h4
            cases ev
            exact ⟨d, e, e1, xs, h1, h2, h3, h4, rfl⟩
          · cases ev
        · cases ev
      · cases ev
    · cases ev
/-- range(..) written as an argument: its bounds -/
def tRG (F : FT) (C : List D) (K : PySem.W.Frag) (γ : Gam) (il ih : IE) : L2.St → Hp → (Int → Int → Hp → Prop) → Prop := fun σ H Q => ∃ G env i j e1 env', Sr K γ G H env σ ∧ evE F C il env = some (.pu (.int i), e1) ∧ evE F C ih e1 = some (.pu (.int j), env') ∧
  ∀ G' H', Sr K γ G' H' env' σ → Step (Ow env σ) G H (Ow env' σ) G' H' → Q i j H'
theorem PRg.weak {e : Expr} {t t' : L2.St → Hp → (Int → Int → Hp → Prop) → Prop} (h : PRg X e t) (w : ∀ σ H Q, t' σ H Q → t σ H Q) : PRg X e t' := fun pins s σ H Q I q => h pins s σ H Q I (w _ _ _ q)
theorem rg_1 (hg : Gl X "range") (hm : X.mg "range" = none) (hs : notStar a = true) (ha : PE X a (tE F C X.K γ ia)) : PRg X (.Call (.Name "range" p) [a] [] pos) (tRG F C X.K γ (.cst (.int 0)) ia) :=
  PRg.weak (prg_1 hg hm ha (star_cons hs)) fun σ H Q ⟨G, env, i, j, e1, env', sr, h1, h2, k⟩ => by
    simp only [evE] at h1
    cases h1
    exact ⟨G, env, _, env', sr, h2, fun G1 H1 x s1 st1 r1 => ⟨j, opd_int r1, k G1 H1 s1 st1⟩⟩
theorem rg_2 (hg : Gl X "range") (hm : X.mg "range" = none) (hs : notStar a = true) (hs2 : notStar b = true) (ha : PE X a (tE F C X.K γ ia)) (hb : PE X b (tE F C X.K γ ib)) : PRg X (.Call (.Name "range" p) [a, b] [] pos) (tRG F C X.K γ ia ib) :=
  PRg.weak (prg_2 hg hm ha hb (star_cons hs) (star_cons hs2) (plain_any (es := [b]) (by simp [noStars, hs2]))) fun σ H Q ⟨G, env, i, j, e1, env', sr, h1, h2, k⟩ =>
    ⟨G, env, _, e1, sr, h1, fun G1 H1 x s1 st1 r1 => ⟨G1, e1, _, env', s1, h2, fun G2 H2 y s2 st2 r2 => ⟨i, j, opd_int r1, opd_int r2, k G2 H2 s2 (st1.trans st2)⟩⟩⟩
theorem e_lrg {q : Pos} (hc : X.calm = true) (hg : Gl X "list") (hm : X.mg "list" = none) (hs : notStar e = true) (he : PRg X e (tRG F C X.K γ ia ib)) : PE X (.Call (.Name "list" p) [e] [] q) (tE F C X.K γ (.lrg ia ib)) := by
  refine PE.weak (pe_listRg hc hg hm he (star_cons hs)) fun σ H Q ⟨G, env, o, env', sr, ev, k⟩ => ?_
  obtain ⟨d, e', e1, xs, h1, h2, h3, h4, rfl⟩ := rg_cases (.inl ⟨rfl, rfl⟩) ev
  obtain ⟨i, j, rfl, rfl, bd, rfl⟩ := rng_ok h3
  refine ⟨G, env, i, j, e1, env', sr, h1, h2, fun G1 H1 s1 st1 => ⟨⟨by omega, by omega, by omega, by omega, ?_⟩, fun q hq => RQ.fr (k.fin s1 st1) s1.sub (ups_pu _ _) hq⟩⟩
  have := lenOk_le h4
  rw [ups_length, sizeLine_eq] at this
  omega
theorem e_trg {q : Pos} (hc : X.calm = true) (hg : Gl X "tuple") (hm : X.mg "tuple" = none) (hs : notStar e = true) (he : PRg X e (tRG F C X.K γ ia ib)) : PE X (.Call (.Name "tuple" p) [e] [] q) (tE F C X.K γ (.trg ia ib)) := by
  refine PE.weak (pe_tupRg hc hg hm he (star_cons hs)) fun σ H Q ⟨G, env, o, env', sr, ev, k⟩ => ?_
  obtain ⟨d, e', e1, xs, h1, h2, h3, h4, rfl⟩ := rg_cases (mk := fun xs => .pu (.tuple xs)) (.inr ⟨rfl, rfl⟩) ev
  obtain ⟨i, j, rfl, rfl, bd, rfl⟩ := rng_ok h3
  refine ⟨G, env, i, j, e1, env', sr, h1, h2, fun G1 H1 s1 st1 => ⟨⟨by omega, by omega, by omega, by omega, ?_⟩, fun q hq => RQ.tup (k.fin s1 st1) s1.sub (ups_pu _ _) hq⟩⟩
  have := lenOk_le h4
  rw [ups_length, sizeLine_eq] at this
  omega

/-! ### xs[::-1], repr([..]) -/
theorem e_rev {k : Nat} {p1 p2 p3 pos : Pos} (ha : PE X a (tE F C X.K γ ia)) : PE X (.Subscript a (.Slice none none (some (.UnaryOp .USub (.Constant (.int 1) k p1) p2)) p3) pos) (tE F C X.K γ (.rev ia)) := by
  refine PE.weak (pe_revL ha) fun σ H Q ⟨G, env, o, env', sr, ev, k⟩ => ?_
  simp only [evE] at ev
  split at ev
  · cases ev
  rename_i x e1 h1
  split at ev
  · rename_i d hd
    obtain ⟨r, hr, he⟩ := Option.map_eq_some_iff.mp ev
    cases he
    cases d <;> simp only [revV] at hr <;> cases hr
    rename_i xs
    refine ⟨G, env, x, _, sr, h1, fun G1 H1 v s1 st1 r1 => ?_⟩
    obtain ⟨l, ys, rfl, hl, pl⟩ := (rds_ok s1 r1 hd).list s1.sub rfl
    exact ⟨l, ys, rfl, hl, fun q hq => RQ.fr (k.fin s1 st1) s1.sub pl.reverse hq⟩
  · cases ev
def rReprD (K : PySem.W.Frag) : List V → Hp → VK → Prop := fun vs H Q => ∃ x d, vs = [x] ∧ Dq K H x d ∧ reprOk d = true ∧ Q (.str d.shown) H
theorem call_reprD (hgd : X.A.guards = some []) (hu : X.A.units + 65 < cLine) : CallR X (.builtin "repr") (rReprD X.K) := by
  intro pins s σ H vs us Q I r h
  obtain ⟨x, d, rfl, dp, ok, q⟩ := h
  obtain ⟨u, rfl, rx⟩ := Vals.one r
  exact repr_run hgd hu I rx dp ok q
theorem rdsA_dq {K : PySem.W.Frag} {G H : Hp} (sb : Sub G H) : ∀ {ds : List D} {vs : List V}, rOkAll ds = true → RdsA K G H ds vs → DqAll K H vs ds
  | _, _, _, .nil => .nil
  | _, _, h, .cons a b => by
    simp only [rOkAll, Bool.and_eq_true] at h
    exact .cons (a.dq h.1 sb) (rdsA_dq sb h.2 b)
theorem RdsA.newH {K : PySem.W.Frag} {G H : Hp} {q : Addr} {o : HO} (hq : H q = none) : ∀ {ds : List D} {vs : List V}, RdsA K G H ds vs → RdsA K G (upd H q o) ds vs
  | _, _, .nil => .nil
  | _, _, .cons a b => .cons (by
      cases a with
      | rd r => cases r with
        | pu p => exact .rd (.pu p)
        | li h t => exact .rd (.li (up_sub hq _ _ h) t)
        | di h t => exact .rd (.di (up_sub hq _ _ h) t)
      | sc h t =>
        refine .sc ?_ t
        rcases h with (h | ⟨ob, h⟩) | h
        · exact .inl (.inl (up_sub hq _ _ h))
        · exact .inl (.inr ⟨ob, up_sub hq _ _ h⟩)
        · exact .inr h) (RdsA.newH hq b)
theorem RdsA.length {K : PySem.W.Frag} {G H : Hp} : ∀ {ds : List D} {vs : List V}, RdsA K G H ds vs → ds.length = vs.length
  | _, _, .nil => rfl
  | _, _, .cons _ b => congrArg Nat.succ (RdsA.length b)
theorem e_rpr {q : Pos} (hgd : X.A.guards = some []) (hu : X.A.units + 65 < cLine) (hg : Gl X "repr") (hm : X.mg "repr" = none) (ha : PA X es (tA F C X.K γ ies)) : PE X (.Call (.Name "repr" p) [.List es q] [] pos) (tE F C X.K γ (.rpr ies)) := by
  refine PE.weak (pe_callB (call_reprD hgd hu) hg hm (by decide +kernel) (pa_cons (pe_lst ha) pa_nil rfl) (by decide) (by decide) rfl rfl) fun σ H Q ⟨G, env, o, env', sr, ev, k⟩ => ?_
  simp only [evE] at ev
  split at ev
  · cases ev
  rename_i os e1 h1
  split at ev
  · rename_i ds hds
    split at ev
    · rename_i hz
      cases ev
      obtain ⟨hz, hr⟩ := ands hz
      refine ⟨G, env, os, _, sr, h1, fun G1 H1 xs s1 st1 r1 => ?_⟩
      have ra := rdsAll_ok s1 r1 hds
      refine ⟨by rw [← ra.length]; exact lenOk_le hz, fun l hl => ⟨.ref l, .list ds, rfl, ?_, hr, ?_⟩⟩
      · exact .lst (SqL.of upd_same) (rdsA_dq (s1.sub.trans (up_sub hl)) (by simpa only [rOk] using (reprOk_ok hr).1) (ra.newH hl))
      · exact k G1 _ _ (s1.newH hl) (st1.trans (Step.newH hl)) (.str _)
    · cases ev
  · cases ev
end
end Rf

set_option Elab.async false
set_option linter.all false
set_option maxRecDepth 100000
set_option maxHeartbeats 4000000
/-! Rf: methods of lists, calls of defs. -/
namespace Rf
open PySem PySem.Spec PyProof.Rows L2

theorem blt_lt {a b : Nat} (h : Nat.blt a b = true) : a < b := by
  unfold Nat.blt at h
  exact Nat.le_of_ble_eq_true h
theorem get_set {α : Type} {l : List α} {i j : Nat} {a b : α} (h : (l.set i a)[j]? = some b) : (j = i ∧ b = a) ∨ (j ≠ i ∧ l[j]? = some b) := by
  by_cases q : i = j
  · subst q
    rw [List.getElem?_set] at h
    simp only [if_true] at h
    split at h
    · cases h; exact .inl ⟨rfl, rfl⟩
    · cases h
  · rw [List.getElem?_set_ne q] at h
    exact .inr ⟨fun z => q z.symm, h⟩
section
variable {K : PySem.W.Frag} {γ : Gam} {G H : Hp} {env : Ev} {σ : L2.St}
theorem ownAt_own {i j t : Nat} {xs ys : List D} {a : Addr} (e : env[i]? = some (.own t xs)) (h : OwnAt (env.set i (.own t ys)) σ j a) : OwnAt env σ j a := by
  obtain ⟨⟨u, q, io⟩, h1⟩ := h
  rcases get_set q with ⟨rfl, _⟩ | ⟨_, q⟩
  · exact ⟨⟨_, e, rfl⟩, h1⟩
  · exact ⟨⟨u, q, io⟩, h1⟩
/-- a list that slot i holds is changed -/
theorem Sr.mut (s : Sr K γ G H env σ) {i t : Nat} {xs xs' : List D} {a : Addr} {ys' : List V} (e : env[i]? = some (.own t xs)) (ha : σ[i]? = some (some (.ref a))) (p : PuA K G xs' ys') :
    Sr K γ G (upd H a (.lst ys')) (env.set i (.own t xs')) σ ∧ Step (Ow env σ) G H (Ow (env.set i (.own t xs')) σ) G (upd H a (.lst ys')) := by
  obtain ⟨a', ys, h1, h2, h3, h4, h5, h6⟩ := s.slot i _ e
  rw [ha] at h1; cases h1
  have own : OwnAt env σ i a := ⟨⟨_, e, rfl⟩, ha⟩
  refine ⟨⟨fun b u q => ?_, by simpa using s.len, fun j sl q => ?_, fun j j' b q q' => s.inj j j' b (ownAt_own e q) (ownAt_own e q')⟩, ⟨Sub.refl G, fun b u q no => ?_, fun _ _ q _ => q, fun b q => ?_, fun b ⟨j, hj⟩ => .inl ⟨j, ownAt_own e hj⟩⟩⟩
  · rw [upd_ne (fun z => by subst z; rw [h2] at q; cases q)]; exact s.sub _ _ q
  · rcases get_set q with ⟨rfl, rfl⟩ | ⟨ne, q⟩
    · exact ⟨a, ys', ha, h2, upd_same, p, h5, h6⟩
    · have r := s.slot j sl q
      cases sl with
      | emp => trivial
      | val d => exact r
      | own u zs =>
        obtain ⟨m, ws, e1, e2, e3, e4⟩ := r
        refine ⟨m, ws, e1, e2, ?_, e4⟩
        rw [upd_ne]
        · exact e3
        · rintro rfl
          exact ne (s.inj j i m ⟨⟨_, q, rfl⟩, e1⟩ own)
      | dic zs =>
        obtain ⟨m, ws, e1, e2, e3, e4⟩ := r
        refine ⟨m, ws, e1, e2, ?_, e4⟩
        rw [upd_ne]
        · exact e3
        · rintro rfl
          exact ne (s.inj j i m ⟨⟨_, q, rfl⟩, e1⟩ own)
      | scr u zs =>
        obtain ⟨m, ws, e1, e2, e3⟩ := r
        refine ⟨m, ws, e1, ?_, e3⟩
        rcases e2 with ⟨o, e2⟩ | e2
        · exact .inl ⟨o, by rw [upd_ne (fun z => by subst z; rw [h3] at e2; cases e2)]; exact e2⟩
        · exact .inr e2
  · rw [upd_ne (fun z => no (by subst z; exact ⟨i, own⟩))]; exact q
  · by_cases z : b = a
    · subst z; rw [upd_same]; simp
    · rw [upd_ne z]; exact q
end

section
variable {X : Cx} {F : FT} {C : List D} {γ : Gam} {a b c e : Expr} {ia ib ic ie : IE} {es : List Expr} {ies : IEs} {pos p ap : Pos}

theorem mth_cases {m : Mth} {i : Nat} {env env' : Ev} {o : Opd} (ev : evE F C (.mth m i ies) env = some (o, env')) :
    ∃ t xs os e1, env[i]? = some (.own t xs) ∧ evA F C ies env = some (os, e1) ∧ mthV m e1 i os = some (o, env') := by
  simp only [evE] at ev
  split at ev
  · rename_i t xs q
    split at ev
    · cases ev
    · rename_i os e1 h1
      exact ⟨t, xs, os, e1, q, h1, ev⟩
  · cases ev
/-- what a method's call does, at the values -/
theorem mth_run {m : Mth} {i : Nat} {G0 H0 G1 H1 : Hp} {env env1 env' : Ev} {σ : L2.St} {o : Opd} {Q : VK} {os : List Opd} {vs : List V} {a : Addr} (hv : mthV m env1 i os = some (o, env')) (k : KE X.K γ G0 H0 env σ env' o Q) (s : Sr X.K γ G1 H1 env1 σ) (st : Step (Ow env σ) G0 H0 (Ow env1 σ) G1 H1)
    (r : OpasR X.K G1 H1 env1 σ H0 vs os) (ha : σ[i]? = some (some (.ref a))) :
    (m = .append → rAppend (.ref a) vs H1 Q) ∧ (m = .extend → rExtend (.ref a) vs H1 Q) ∧ (m = .pop0 → rPop (.ref a) vs H1 Q) ∧ (m = .pop1 → rPopAt (.ref a) vs H1 Q) ∧
    (m = .insert → ∃ (l : Addr) (xs : List V) (j : Int) (y : V), V.ref a = .ref l ∧ vs = [.int j, y] ∧ H1 l = some (.lst xs) ∧ xs.length < sizeLine ∧ 0 ≤ j ∧ j < 2 ^ 63 ∧ Q .non (upd H1 l (.lst (xs.take j.toNat ++ [y] ++ xs.drop j.toNat)))) := by
  simp only [mthV] at hv
  split at hv
  · rename_i t xs q
    obtain ⟨a', ys, h1, h2, h3, h4, _⟩ := s.ow_at q
    rw [ha] at h1; cases h1
    have hl := h4.length
    have fin : ∀ {G2 : Hp} {xs' : List D} {ys' : List V} {z : V} {d : D}, Sr X.K γ G2 H1 env1 σ → Step (Ow env σ) G0 H0 (Ow env1 σ) G2 H1 → PuA X.K G2 xs' ys' → o = .pu d → env' = env1.set i (.own t xs') → Pu X.K G2 d z → Q z (upd H1 a (.lst ys')) := fun {G2 xs' ys' z d} s2 st2 p e1 e2 pz => by
      subst e1; subst e2
      obtain ⟨m1, m2⟩ := s2.mut q ha p
      exact k _ _ z m1 (st2.trans m2) pz
    cases m with
    | append =>
      refine ⟨fun _ => ?_, (fun z => nomatch z), (fun z => nomatch z), (fun z => nomatch z), (fun z => nomatch z)⟩
      cases os with
      | nil => cases hv
      | cons x os =>
        cases os with
        | cons _ _ => cases hv
        | nil =>
          simp only at hv
          split at hv
          · rename_i d hd
            split at hv
            · rename_i hz
              cases hv
              cases r with
              | cons r1 _ rr =>
                cases rr
                obtain ⟨G2, s2, st2, sb, pd, _⟩ := frz_ok s st r1 hd
                have hz' : xs.length < 16777216 := blt_lt hz
                exact ⟨a, ys, _, rfl, rfl, h3, by rw [sizeLine_eq, ← hl]; exact hz', fin s2 st2 ((h4.mono sb).append (.cons pd .nil)) rfl rfl .non⟩
            · cases hv
          · cases hv
    | extend =>
      refine ⟨(fun z => nomatch z), fun _ => ?_, (fun z => nomatch z), (fun z => nomatch z), (fun z => nomatch z)⟩
      cases os with
      | nil => cases hv
      | cons x os =>
        cases os with
        | cons _ _ => cases hv
        | nil =>
          simp only at hv
          split at hv
          · rename_i zs hd
            split at hv
            · rename_i hz
              cases hv
              cases r with
              | cons r1 _ rr =>
                cases rr
                obtain ⟨G2, s2, st2, sb, pd, _⟩ := frz_ok s st r1 hd
                cases pd with
                | lst g1 pz =>
                  exact ⟨a, _, ys, _, rfl, rfl, h3, s2.sub _ _ g1, by rw [← hl, ← pz.length]; exact lenOk_le hz, fin s2 st2 ((h4.mono sb).append pz) rfl rfl .non⟩
            · cases hv
          · cases hv
    | pop0 =>
      refine ⟨(fun z => nomatch z), (fun z => nomatch z), fun _ => ?_, (fun z => nomatch z), (fun z => nomatch z)⟩
      cases os with
      | cons _ _ => cases hv
      | nil =>
        simp only at hv
        split at hv
        · rename_i d hd
          cases hv
          cases r
          obtain ⟨y, hy, py⟩ := h4.get hd
          exact ⟨a, ys, y, rfl, rfl, h3, by rw [← hl]; exact hy, fin s st h4.dropLast rfl rfl py⟩
        · cases hv
    | pop1 =>
      refine ⟨(fun z => nomatch z), (fun z => nomatch z), (fun z => nomatch z), fun _ => ?_, (fun z => nomatch z)⟩
      rcases os with _ | ⟨x0, os⟩
      · cases hv
      rcases os with _ | ⟨x1, os⟩ <;> rcases x0 with d0 | _ | _ | _ <;> (try rcases d0 with _ | _ | kk | _ | _ | _ | _) <;> (try cases hv)
      simp only at hv
      split at hv
      · rename_i hz
        obtain ⟨z1, z2⟩ := ands hz
        have b1 := of_decide_eq_true z1
        have b2 := of_decide_eq_true z2
        split at hv
        · rename_i n hn
          split at hv
          · rename_i d hd
            cases hv
            cases r with
            | cons r1 _ rr =>
              cases rr
              obtain ⟨y, hy, py⟩ := h4.get hd
              have e1 := opd_int r1
              subst e1
              exact ⟨a, ys, kk, n, y, rfl, rfl, h3, by omega, by omega, by rw [← hl]; exact (ixN_seq hn).1, hy, fin s st (h4.eraseIdx n) rfl rfl py⟩
          · cases hv
        · cases hv
      · cases hv
    | insert =>
      refine ⟨(fun z => nomatch z), (fun z => nomatch z), (fun z => nomatch z), (fun z => nomatch z), fun _ => ?_⟩
      rcases os with _ | ⟨x0, os⟩
      · cases hv
      rcases os with _ | ⟨x, _ | ⟨x3, os⟩⟩ <;> rcases x0 with d0 | _ | _ | _ <;> (try rcases d0 with _ | _ | kk | _ | _ | _ | _) <;> (try cases hv)
      simp only at hv
      split at hv
      · rename_i d hd
        split at hv
        · rename_i hz
          obtain ⟨z12, z3⟩ := ands hz
          obtain ⟨z1, z2⟩ := ands z12
          have b1 := of_decide_eq_true z1
          have b2 := of_decide_eq_true z2
          have b3 : xs.length < 16777216 := blt_lt z3
          cases hv
          cases r with
          | cons r1 _ rr =>
            cases rr with
            | cons r2 _ rr =>
              cases rr
              have e1 := opd_int r1
              subst e1
              obtain ⟨G2, s2, st2, sb, pd, _⟩ := frz_ok s st r2 hd
              refine ⟨a, ys, kk, _, rfl, rfl, h3, by rw [sizeLine_eq, ← hl]; exact b3, b1, by omega, fin s2 st2 ?_ rfl rfl .non⟩
              rw [List.append_assoc]
              exact ((h4.mono sb).take _).append (.cons pd ((h4.mono sb).drop _))
        · cases hv
      · cases hv
  · cases hv
theorem e_mth {m : Mth} {i : Nat} {x n : Str} {q : Pos} (hN : X.N[i]? = some x) (hv : Vis X.env.scope x) (hd : (x == ("__debug__" : Str)) = false) (hcd : (x == ("__classdict__" : Str)) = false) (hn : n = mthName m) (hl : (ap.endLine == pos.line) = true) (hst : noStars es = true) (hz : es.length < 30) (h0 : es = [] → ies = .nil)
    (ha : PA X es (tA F C X.K γ ies)) : PE X (.Call (.Attribute (.Name x q) n ap) es [] pos) (tE F C X.K γ (.mth m i ies)) := by
  have red : ∀ {σ : L2.St} {H : Hp} {Q : VK}, tE F C X.K γ (.mth m i ies) σ H Q → ∃ l, σ[i]? = some (some (.ref l)) ∧ tyV X.K "list" (.ref l) H ∧ tA F C X.K γ ies σ H fun vs H1 =>
    (m = .append → rAppend (.ref l) vs H1 Q) ∧ (m = .extend → rExtend (.ref l) vs H1 Q) ∧ (m = .pop0 → rPop (.ref l) vs H1 Q) ∧ (m = .pop1 → rPopAt (.ref l) vs H1 Q) ∧
    (m = .insert → ∃ (l' : Addr) (xs : List V) (j : Int) (y : V), V.ref l = .ref l' ∧ vs = [.int j, y] ∧ H1 l' = some (.lst xs) ∧ xs.length < sizeLine ∧ 0 ≤ j ∧ j < 2 ^ 63 ∧ Q .non (upd H1 l' (.lst (xs.take j.toNat ++ [y] ++ xs.drop j.toNat)))) := fun {σ H Q} ⟨G, env, o, env', sr, ev, k⟩ => by
    obtain ⟨t, xs, os, e1, h0, h1, h2⟩ := mth_cases ev
    obtain ⟨l, ys, q1, q2, q3, q4, _⟩ := sr.ow_at h0
    exact ⟨l, q1, .inl ⟨rfl, ys, SqL.of q3⟩, G, env, os, e1, sr, h1, fun G1 H1 vs s1 st1 r1 => mth_run h2 k s1 st1 r1 q1⟩
  subst hn
  cases es with
  | nil =>
    have e0 := h0 rfl
    subst e0
    have no : m ≠ .pop0 → ∀ σ H Q, ¬ tE F C X.K γ (.mth m i .nil) σ H Q := fun hm σ H Q ⟨G, env, o, env', sr, ev, k⟩ => by
      obtain ⟨t, xs, os, e1, h0, h1, h2⟩ := mth_cases ev
      simp only [evA] at h1
      cases h1
      simp only [mthV, h0] at h2
      cases m <;> first | exact hm rfl | cases h2
    by_cases hm : m = .pop0
    · subst hm
      refine PE.weak (pe_bm0 (T := "list") (r := rPop) PySem.F.plainAttrs_list PySem.F.slot_list_pop PySem.F.type_list_pop mt_pop (pe_var hN hv hd hcd) rfl hl) fun σ H Q h => ?_
      obtain ⟨l, h1, h2, G, env, os, env', sr, ev, k⟩ := red h
      simp only [evA] at ev
      cases ev
      exact ⟨_, h1, h2, (k G H [] sr Step.refl .nil).2.2.1 rfl⟩
    · exact ⟨fun pins s σ H Q I h => (no hm σ H Q h).elim⟩
  | cons e es =>
    obtain ⟨hs1, hs2⟩ := ands hst
    have few : ((backTo pos (starEach (e :: es) X.env)).all (fun x => !x.1) && (backToKw pos (keywordEach [] X.env)).all (fun x => x.1.isSome)
      && decide ((e :: es).length + ([] : List Keyword).length + (if ([] : List Keyword).isEmpty then 0 else 1) < 30)) = true := by
      rw [plain_all hst]
      simp only [Bool.true_and, Bool.and_eq_true, decide_eq_true_eq]
      exact ⟨rfl, by simpa using hz⟩
    cases m with
    | append =>
      refine PE.weak (pe_bm (T := "list") (r := rAppend) PySem.F.plainAttrs_list PySem.F.slot_list_append PySem.F.type_list_append mt_append (pe_var hN hv hd hcd) ha rfl few hl (star_cons hs1) (plain_any hs2)) fun σ H Q h => ?_
      obtain ⟨l, h1, h2, G, env, os, env', sr, ev, k⟩ := red h
      exact ⟨_, h1, h2, G, env, os, env', sr, ev, fun G1 H1 xs s1 st1 r1 => (k G1 H1 xs s1 st1 r1).1 rfl⟩
    | extend =>
      refine PE.weak (pe_bm (T := "list") (r := rExtend) PySem.F.plainAttrs_list PySem.F.slot_list_extend PySem.F.type_list_extend mt_extend (pe_var hN hv hd hcd) ha rfl few hl (star_cons hs1) (plain_any hs2)) fun σ H Q h => ?_
      obtain ⟨l, h1, h2, G, env, os, env', sr, ev, k⟩ := red h
      exact ⟨_, h1, h2, G, env, os, env', sr, ev, fun G1 H1 xs s1 st1 r1 => (k G1 H1 xs s1 st1 r1).2.1 rfl⟩
    | pop0 =>
      refine PE.weak (pe_bm (T := "list") (r := rPop) PySem.F.plainAttrs_list PySem.F.slot_list_pop PySem.F.type_list_pop mt_pop (pe_var hN hv hd hcd) ha rfl few hl (star_cons hs1) (plain_any hs2)) fun σ H Q h => ?_
      obtain ⟨l, h1, h2, G, env, os, env', sr, ev, k⟩ := red h
      exact ⟨_, h1, h2, G, env, os, env', sr, ev, fun G1 H1 xs s1 st1 r1 => (k G1 H1 xs s1 st1 r1).2.2.1 rfl⟩
    | pop1 =>
      refine PE.weak (pe_bm (T := "list") (r := rPopAt) PySem.F.plainAttrs_list PySem.F.slot_list_pop PySem.F.type_list_pop mt_popAt (pe_var hN hv hd hcd) ha rfl few hl (star_cons hs1) (plain_any hs2)) fun σ H Q h => ?_
      obtain ⟨l, h1, h2, G, env, os, env', sr, ev, k⟩ := red h
      exact ⟨_, h1, h2, G, env, os, env', sr, ev, fun G1 H1 xs s1 st1 r1 => (k G1 H1 xs s1 st1 r1).2.2.2.1 rfl⟩
    | insert =>
      refine PE.weak (pe_bm (T := "list") PySem.F.plainAttrs_list PySem.F.slot_list_insert PySem.F.type_list_insert mt_insert (pe_var hN hv hd hcd) ha rfl few hl (star_cons hs1) (plain_any hs2)) fun σ H Q h => ?_
      obtain ⟨l, h1, h2, G, env, os, env', sr, ev, k⟩ := red h
      exact ⟨_, h1, h2, G, env, os, env', sr, ev, fun G1 H1 xs s1 st1 r1 => (k G1 H1 xs s1 st1 r1).2.2.2.2 rfl⟩
end
end Rf

set_option Elab.async false
set_option linter.all false
set_option maxRecDepth 100000
set_option maxHeartbeats 4000000
/-! Rf: calls of defs. -/
namespace Rf
open PySem PySem.Spec PyProof.Rows L2

/-- the lists handed in -/
inductive IoR (G H Hs : Hp) (env : Ev) (σ : L2.St) : List (Option Nat) → List Addr → Prop
  | nil : IoR G H Hs env σ [] []
  | slot {i : Nat} {a : Addr} {ys : List V} {is : List (Option Nat)} {as : List Addr} : OwnAt env σ i a → H a = some (.lst ys) → IoR G H Hs env σ is as → IoR G H Hs env σ (some i :: is) (a :: as)
  | fo {a : Addr} {ys : List V} {is : List (Option Nat)} {as : List Addr} : ¬ Ow env σ a → Hs a = none → H a = some (.lst ys) → IoR G H Hs env σ is as → IoR G H Hs env σ (none :: is) (a :: as)
section
variable {K : PySem.W.Frag} {γ : Gam} {G H Hs G0 H0 : Hp} {env env0 env' : Ev} {σ : L2.St}
theorem IoR.mem (s : Sr K γ G H env σ) {a : Addr} : ∀ {is : List (Option Nat)} {as : List Addr}, IoR G H Hs env σ is as → a ∈ as → (∃ ys, H a = some (.lst ys)) ∧ ((∃ i, some i ∈ is ∧ OwnAt env σ i a) ∨ (none ∈ is ∧ ¬ Ow env σ a ∧ Hs a = none))
  | _, _, .nil, h => by simp at h
  | _, _, .slot o hl r, h => by
    rcases List.mem_cons.mp h with rfl | h
    · exact ⟨⟨_, hl⟩, .inl ⟨_, by simp, o⟩⟩
    · obtain ⟨p, q⟩ := IoR.mem s r h
      refine ⟨p, ?_⟩
      rcases q with ⟨i, q1, q2⟩ | ⟨q1, q2⟩
      · exact .inl ⟨i, List.mem_cons_of_mem _ q1, q2⟩
      · exact .inr ⟨List.mem_cons_of_mem _ q1, q2⟩
  | _, _, .fo h1 h2 h3 r, h => by
    rcases List.mem_cons.mp h with rfl | h
    · exact ⟨⟨_, h3⟩, .inr ⟨by simp, h1, h2⟩⟩
    · obtain ⟨p, q⟩ := IoR.mem s r h
      refine ⟨p, ?_⟩
      rcases q with ⟨i, q1, q2⟩ | ⟨q1, q2⟩
      · exact .inl ⟨i, List.mem_cons_of_mem _ q1, q2⟩
      · exact .inr ⟨List.mem_cons_of_mem _ q1, q2⟩
theorem IoR.get {j : Nat} : ∀ {is : List (Option Nat)} {as : List Addr} {n : Nat}, IoR G H Hs env σ is as → is[n]? = some (some j) → ∃ a, as[n]? = some a ∧ OwnAt env σ j a
  | _, _, _, .nil, h => by simp at h
  | _, _, 0, .slot o _ r, h => by simp at h; subst h; exact ⟨_, rfl, o⟩
  | _, _, n + 1, .slot o _ r, h => by
    obtain ⟨a, h1, h2⟩ := IoR.get (n := n) r (by simpa using h)
    exact ⟨a, by simpa using h1, h2⟩
  | _, _, 0, .fo _ _ _ r, h => by simp at h
  | _, _, n + 1, .fo _ _ _ r, h => by
    obtain ⟨a, h1, h2⟩ := IoR.get (n := n) r (by simpa using h)
    exact ⟨a, by simpa using h1, h2⟩
theorem IoR.nodup (s : Sr K γ G H env σ) : ∀ {is : List (Option Nat)} {as : List Addr}, IoR G H Hs env σ is as → distinct is = true → as.Nodup
  | _, _, .nil, _ => .nil
  | _, _, .slot (i := i) o _ r, h => by
    unfold distinct at h
    obtain ⟨h1, h2⟩ := ands h
    refine List.nodup_cons.mpr ⟨fun z => ?_, IoR.nodup s r h2⟩
    rcases (IoR.mem s r z).2 with ⟨j, q1, q2⟩ | ⟨_, q2, _⟩
    · rw [s.inj _ _ _ q2 o] at q1
      simp [q1] at h1
    · exact q2 ⟨_, o⟩
  | _, _, .fo n1 n2 n3 r, h => by
    unfold distinct at h
    obtain ⟨h1, h2⟩ := ands h
    refine List.nodup_cons.mpr ⟨fun z => ?_, IoR.nodup s r h2⟩
    rcases (IoR.mem s r z).2 with ⟨j, q1, q2⟩ | ⟨q1, _⟩
    · exact n1 ⟨_, q2⟩
    · simp [q1] at h1
theorem args_ok (s : Sr K γ G H env σ) : ∀ {os : List Opd} {xs : List V} {as : List Ar}, OpasR K G H env σ Hs xs os → arsOf env os = some as → ArsR K G H as xs ∧ IoR G H Hs env σ (iosOf env os) (ioAd as xs)
  | _, _, _, .nil, e => by simp only [arsOf] at e; cases e; exact ⟨.nil, .nil⟩
  | _, _, _, .cons (o := o) (x := x) r nf rr, e => by
    simp only [arsOf] at e
    split at e
    · rename_i a as' h1 h2
      cases e
      obtain ⟨q1, q2⟩ := args_ok s rr h2
      cases o with
      | pu d =>
        simp only [arOf] at h1
        cases h1
        exact ⟨.cons r q1, by cases x <;> exact q2⟩
      | fr xs => cases nf
      | fo xs =>
        simp only [arOf] at h1
        cases h1
        obtain ⟨l, ys, rfl, e1, e2, e3, e4, e5⟩ := r
        exact ⟨.cons ⟨l, ys, rfl, e1, e2, e3⟩ q1, .fo e4 e5 e2 q2⟩
      | fd kvs => simp only [arOf] at h1; cases h1
      | bo i =>
        have r' : σ[i]? = some (some x) := r
        simp only [arOf] at h1
        split at h1
        · rename_i t xs q
          cases h1
          obtain ⟨l, ys, e1, e2, e3, e4, e5⟩ := s.ow_at q
          rw [r'] at e1; cases e1
          refine ⟨.cons ⟨l, ys, rfl, e2, e3, e4⟩ q1, ?_⟩
          simp only [iosOf, q]
          exact .slot e5 e3 q2
        · rename_i t xs q
          cases h1
          obtain ⟨l, ys, e1, e2, e3⟩ := s.slot i _ q
          rw [r'] at e1; cases e1
          refine ⟨.cons ⟨l, ys, rfl, e2, e3⟩ q1, ?_⟩
          simp only [iosOf, q]
          exact q2
        · cases h1
    · cases e
theorem back_ok : ∀ {ios : List (Option Nat)} {outs : List (List D)} {env env' : Ev}, backOut env ios outs = some env' → distinct ios = true →
    env'.length = env.length ∧ ∀ (j : Nat) (sl : Sl), env'[j]? = some sl → (some j ∉ ios ∧ env[j]? = some sl) ∨ ∃ (n t : Nat) (xs xs0 : List D), ios[n]? = some (some j) ∧ outs[n]? = some xs ∧ env[j]? = some (.own t xs0) ∧ sl = .own t xs
  | [], [], _, _, e, _ => by
    simp only [backOut] at e
    cases e
    exact ⟨rfl, fun j sl h => .inl ⟨by simp, h⟩⟩
  | [], _ :: _, _, _, e, _ => by cases e
  | none :: is, [], _, _, e, _ => by cases e
  | some i :: is, [], _, _, e, _ => by cases e
  | none :: is, xs :: xss, _, _, e, d => by
    simp only [backOut] at e
    unfold distinct at d
    obtain ⟨_, d2⟩ := ands d
    obtain ⟨h1, h2⟩ := back_ok e d2
    refine ⟨h1, fun j sl h => ?_⟩
    rcases h2 j sl h with ⟨p, q⟩ | ⟨n, t, ys, y0, q1, q2, q3, q4⟩
    · exact .inl ⟨by simp [p], q⟩
    · exact .inr ⟨n + 1, t, ys, y0, by simpa using q1, by simpa using q2, q3, q4⟩
  | some i :: is, xs :: xss, env, _, e, d => by
    simp only [backOut] at e
    split at e
    · rename_i t x0 h0
      unfold distinct at d
      obtain ⟨d1, d2⟩ := ands d
      obtain ⟨h1, h2⟩ := back_ok e d2
      refine ⟨by rw [h1]; simp, fun j sl h => ?_⟩
      rcases h2 j sl h with ⟨p, q⟩ | ⟨n, u, ys, y0, q1, q2, q3, q4⟩
      · rcases get_set q with ⟨rfl, rfl⟩ | ⟨ne, q⟩
        · exact .inr ⟨0, t, xs, x0, rfl, rfl, h0, rfl⟩
        · refine .inl ⟨?_, q⟩
          simp only [List.mem_cons, not_or]
          exact ⟨fun z => ne (Option.some.inj z), p⟩
      · rcases get_set q3 with ⟨rfl, _⟩ | ⟨ne, q3⟩
        · have := List.mem_of_getElem? q1
          simp [this] at d1
        · exact .inr ⟨n + 1, u, ys, y0, by simpa using q1, by simpa using q2, q3, q4⟩
    · cases e
theorem OutsR.get : ∀ {as : List Addr} {xss : List (List D)} {n : Nat} {a : Addr} {xs : List D}, OutsR K G H as xss → as[n]? = some a → xss[n]? = some xs → ∃ ys, G a = none ∧ H a = some (.lst ys) ∧ PuA K G xs ys
  | _, _, _, _, _, .nil, h, _ => by simp at h
  | _, _, 0, _, _, .cons h1 h2 h3 _, e1, e2 => by simp at e1 e2; subst e1; subst e2; exact ⟨_, h1, h2, h3⟩
  | _, _, n + 1, _, _, .cons _ _ _ r, e1, e2 => OutsR.get (n := n) r (by simpa using e1) (by simpa using e2)

/-- the caller, behind the call -/
theorem call_ok {F : FT} {f n : Nat} {os : List Opd} {xs : List V} {o : Opd} {Q : VK} {E : XK} (s : Sr K γ G H env σ) (st : Step (Ow env0 σ) G0 H0 (Ow env σ) G H) (r : OpasR K G H env σ H0 xs os) (e : callO F f os env = some (o, env'))
    (k : KE K γ G0 H0 env0 σ env' o Q) (hn : ∀ as r, F f as = some r → as.length = n) : spF K F f n xs H Q E := by
  simp only [callO] at e
  split at e
  · cases e
  rename_i as has
  split at e
  · rename_i hd
    split at e
    · cases e
    rename_i rv outs hF
    split at e
    · cases e
    rename_i env2 hb
    have eo : o = rvO rv := by cases e; rfl
    have ee : env2 = env' := by cases e; rfl
    subst ee
    obtain ⟨ar, io⟩ := args_ok s r has
    obtain ⟨b1, b2⟩ := back_ok hb hd
    refine ⟨G, as, rv, outs, s.sub, ar, io.nodup s hd, hF, by rw [← ar.length]; exact hn _ _ hF, fun G' H' x q => ?_⟩
    have noSlot : ∀ {j a}, OwnAt env σ j a → some j ∉ iosOf env os → a ∉ ioAd as xs := fun {j a} h1 h2 z => by
      rcases (io.mem s z).2 with ⟨i, q1, q2⟩ | ⟨_, q2, _⟩
      · rw [s.inj _ _ _ q2 h1] at q1; exact h2 q1
      · exact q2 ⟨_, h1⟩
    have back : ∀ {j a}, OwnAt env2 σ j a → OwnAt env σ j a := fun {j a} ⟨⟨t, h1, io'⟩, h2⟩ => by
      rcases b2 j _ h1 with ⟨_, q1⟩ | ⟨_, u, _, y0, _, _, q3, _⟩
      · exact ⟨⟨_, q1, io'⟩, h2⟩
      · exact ⟨⟨_, q3, rfl⟩, h2⟩
    have fz : ∀ {a ob u}, H a = some (.frz ob u) → a ∉ ioAd as xs := fun {a ob u} h z => by
      obtain ⟨⟨ys, h1⟩, _⟩ := io.mem s z
      rw [h] at h1; cases h1
    have outer : ∀ {a}, H0 a ≠ none → ¬ Ow env0 σ a → a ∉ ioAd as xs := fun {a} h1 h2 z => by
      rcases (io.mem s z).2 with ⟨i, _, q2⟩ | ⟨_, _, q3⟩
      · rcases st.o a ⟨_, q2⟩ with y | y
        · exact h2 y
        · exact h1 y
      · exact h1 q3
    have S' : Sr K γ G' H' env2 σ := by
      refine ⟨q.sub, by rw [b1]; exact s.len, fun j sl h => ?_, fun i j a h1 h2 => s.inj i j a (back h1) (back h2)⟩
      rcases b2 j sl h with ⟨p, h'⟩ | ⟨n', t, ys, y0, q1, q2, q3, rfl⟩
      · have w := s.slot j sl h'
        cases sl with
        | emp => trivial
        | val d => obtain ⟨v, w1, w2⟩ := w; exact ⟨v, w1, w2.mono q.g⟩
        | own t zs =>
          obtain ⟨a, ys, w1, w2, w3, w4, w5⟩ := w
          have na := noSlot ⟨⟨_, h', rfl⟩, w1⟩ p
          exact ⟨a, ys, w1, q.n a (by rw [w3]; simp) w2 na, q.h a _ w3 na, w4.mono q.g, w5⟩
        | dic zs =>
          obtain ⟨a, ys, w1, w2, w3, w4, w5⟩ := w
          have na := noSlot ⟨⟨_, h', rfl⟩, w1⟩ p
          exact ⟨a, ys, w1, q.n a (by rw [w3]; simp) w2 na, q.h a _ w3 na, w4.mono q.g, w5⟩
        | scr t zs =>
          obtain ⟨a, ys, w1, w2, w3⟩ := w
          refine ⟨a, ys, w1, ?_, w3.mono q.g⟩
          rcases w2 with ⟨ob, w2⟩ | w2
          · exact .inl ⟨ob, q.h a _ w2 (fz w2)⟩
          · exact .inr w2
      · obtain ⟨a, ws, w1, w2, w3, w4, w5⟩ := s.slot j _ q3
        obtain ⟨a', g1, g2⟩ := io.get q1
        have ea : a' = a := by
          have z := g2.2
          rw [w1] at z; cases z; rfl
        subst ea
        obtain ⟨zs, h1, h2, h3⟩ := q.o.get g1 q2
        exact ⟨a', zs, w1, h1, h2, h3, w5⟩
    have T' : Step (Ow env0 σ) G0 H0 (Ow env2 σ) G' H' := by
      refine ⟨st.g.trans q.g, fun a ob h1 h2 => ?_, fun a h1 h2 h3 => ?_, fun a h => q.f a (st.f a h), fun a ⟨j, h⟩ => st.o a ⟨j, back h⟩⟩
      · exact q.h a ob (st.h a ob h1 h2) (outer (by rw [h1]; simp) h2)
      · exact q.n a (st.f a h1) (st.n a h1 h2 h3) (outer h1 h3)
    refine k G' H' x S' T' ?_
    rw [eo]
    have rr := q.r
    cases rv with
    | pu d => exact rr
    | fr zs =>
      obtain ⟨a, ys, e1, e2, e3, e4, e5⟩ := rr
      have now : ¬ Ow env2 σ a := fun ⟨j, z⟩ => by
        obtain ⟨_, y, h⟩ := s.ow_some ⟨j, back z⟩
        rw [e5] at h; cases h
      exact ⟨a, ys, e1, e2, e3, e4, now, st.fb a e5⟩
  · cases e
end

/-! ### the rules -/
section
variable {X : Cx} {k : Nat} {f : Addr} {fd : FuncData} {ps : List Str} {sp : Sp}
theorem run_fnG {pins : List (Addr × Obj)} {σ : L2.St} {H : Hp} {s : Shared} {Q : VK} {E : XK} {us ws : List Value} {kw : List (Str × Value)} {vs : List V} (F : FnG X.prog X.w X.K X.mg X.base k f fd ps sp) (hr : Room k X.A) (hg : X.A.guards = some [])
    (hb : BindsTo s fd ⟨us, kw⟩ (ps.zip ws)) (I : Inv X pins σ H s) (r : Vals vs ws) (h : sp vs H Q E) : wpAny (model X.prog X.w) X.A (call (.ref f) us kw) (EP X pins σ Q) X.xe s := by
  refine wpAny_call (codeAny_mono (F.run X.A X.stack s H ⟨us, kw⟩ ws vs Q E hr hg I.env0 hb r h) fun r s' hq => ?_)
  cases r with
  | error e => exact False.elim hq
  | ok fl =>
    cases fl with
    | ret u => exact I.after hq
    | next => exact False.elim hq
    | brk => exact False.elim hq
    | cont => exact False.elim hq
variable {FF : FT} {C : List D} {γ : Gam} {x : Str} {p pos : Pos} {es : List Expr} {ies : IEs} {kws : List Keyword} {n fi : Nat}
theorem callN_len {pg : Pg} {k f n : Nat} {x : Str} {ps : List Str} {fn : Fn} (h : pg.fns[f]? = some (x, ps, fn)) (hn : fn.np = n) : ∀ as r, pg.F k f as = some r → as.length = n := fun as r e => by
  cases k with
  | zero => cases e
  | succ k =>
    have e' : callN pg.C pg.T (k + 1) f as = some r := e
    simp only [callN] at e'
    have ht : pg.T[f]? = some fn := by
      show (pg.fns.map (·.2.2))[f]? = some fn
      rw [List.getElem?_map, h]; rfl
    rw [ht] at e'
    simp only [runF] at e'
    split at e'
    · rename_i q; rw [← hn]; exact q
    · cases e'
theorem e_call (F : FnG X.prog X.w X.K X.mg X.base k f fd ps (spF X.K FF fi ps.length)) (hn : ∀ as r, FF fi as = some r → as.length = ps.length) (hr : Room k X.A) (hgd : X.A.guards = some []) (hg : Gl X x) (hm : X.mg x = some (.ref f)) (hk : PySem.W.keepIn X.K (.ref f) = true)
    (hb : ∀ (s : Shared) (us : List Value), X.K.In s.heap → us.length = ps.length → BindsTo s fd ⟨us, []⟩ (ps.zip us)) (hd : (x == ("__debug__" : Str)) = false) (hst : noStars es = true) (h0 : es = [] → ies = .nil) (ha : PA X es (tA FF C X.K γ ies)) :
    PE X (.Call (.Name x p) es [] pos) (tE FF C X.K γ (.call fi ies)) := by
  refine ⟨fun pins s σ H Q I ⟨G, env, o, env', sr, ev, k⟩ => ?_⟩
  simp only [evE] at ev
  split at ev
  · cases ev
  rename_i os e1 h1
  have fin : ∀ {s1 : Shared} {H1 : Hp} {G1 : Hp} {us : List Value} {vs : List V}, Inv X pins σ H1 s1 → Vals vs us → Sr X.K γ G1 H1 e1 σ → Step (Ow env σ) G H (Ow e1 σ) G1 H1 → OpasR X.K G1 H1 e1 σ H vs os → wpAny (model X.prog X.w) X.A (call (.ref f) us) (EP X pins σ Q) X.xe s1 := fun {s1 H1 G1 us vs} I1 rv s2 st r => by
    have q := call_ok (E := fun _ _ _ => False) s2 st r ev k hn
    refine run_fnG F hr hgd (hb s1 us I1.kIn ?_) I1 rv q
    rw [← rv.length]; exact F.len _ _ _ _ q
  refine wpAny_Call_Name_kw (ld_glob I hg hm ?_ hd)
  cases es with
  | nil =>
    have e0 := h0 rfl
    subst e0
    simp only [evA] at h1
    cases h1
    exact PySem.W.callWith_K0 I.kIn hk (fin I .nil sr Step.refl .nil)
  | cons e es =>
    obtain ⟨hs1, hs2⟩ := ands hst
    exact PySem.W.callWith_K (h₀ := X.base) I.ok.mod.kin hk (thn (ha.run pos pins s σ H (fun vs H1 => ∃ G1, Sr X.K γ G1 H1 e1 σ ∧ Step (Ow env σ) G H (Ow e1 σ) G1 H1 ∧ OpasR X.K G1 H1 e1 σ H vs os) I ⟨G, env, os, e1, sr, h1, fun G1 H1 xs s1 st1 r1 => ⟨G1, s1, st1, r1⟩⟩)
      fun us s1 ⟨vs, H1, I1, r, G1, s2, st, ro⟩ => ⟨I1.kIn, fin I1 r s2 st ro⟩) (star_cons hs1) (plain_any hs2)

/-! ### keywords -/
theorem kw_ok {env : Env} : ∀ {kws : List Keyword} {ks : List Str}, kwNames kws = some ks → (backToKw pos (keywordEach kws env)).all (·.1.isSome) = true ∧ (backToKw pos (keywordEach kws env)).filterMap (·.1) = ks ∧ (backToKw pos (keywordEach kws env)).any (·.1.isNone) = false ∧ ks.length = kws.length
  | [], _, h => by cases h; exact ⟨rfl, rfl, rfl, rfl⟩
  | ⟨nm, e, q⟩ :: r, ks, h => by
    cases nm with
    | none => cases h
    | some nm =>
      simp only [kwNames] at h
      obtain ⟨ks', h1, h2⟩ := Option.map_eq_some_iff.mp h
      subst h2
      obtain ⟨a, b, c, d⟩ := kw_ok (env := env) h1
      refine ⟨?_, ?_, ?_, by simp [d]⟩
      · show (true && (backToKw pos (keywordEach r env)).all (·.1.isSome)) = true
        rw [a]; rfl
      · show nm :: (backToKw pos (keywordEach r env)).filterMap (·.1) = _
        rw [b]
      · show (false || (backToKw pos (keywordEach r env)).any (·.1.isNone)) = false
        rw [c]; rfl
def IEs.len : IEs → Nat
  | .nil => 0
  | .cons _ r => r.len + 1
theorem evA_len : ∀ {ies : IEs} {env e1 : Ev} {os : List Opd}, evA FF C ies env = some (os, e1) → os.length = ies.len
  | .nil, _, _, _, h => by simp only [evA] at h; cases h; rfl
  | .cons ie r, _, _, _, h => by
    simp only [evA] at h
    split at h
    · cases h
    split at h
    · cases h
    rename_i h2
    cases h
    simp [IEs.len, evA_len h2]
theorem chkKs_len {pg : Pg} {c : SC} : ∀ {ies : IEs} {kws : List Keyword}, chkKs pg c ies kws = true → ies.len = kws.length
  | .nil, [], _ => rfl
  | .nil, _ :: _, h => by simp [chkKs] at h
  | .cons _ _, [], h => by simp [chkKs] at h
  | .cons ie r, ⟨n, e, q⟩ :: kws, h => by
    simp only [chkKs] at h
    obtain ⟨_, h2⟩ := ands h
    simp [IEs.len, chkKs_len h2]
theorem pick_opas {K : PySem.W.Frag} {G H Hs : Hp} {env : Ev} {σ : L2.St} {xs : List V} {os : List Opd} (r : OpasR K G H env σ Hs xs os) : ∀ {p : List Nat} {os' : List Opd}, pick os p = some os' → ∃ xs', pick xs p = some xs' ∧ OpasR K G H env σ Hs xs' os'
  | [], _, h => by simp only [pick] at h; cases h; exact ⟨[], rfl, .nil⟩
  | i :: p, _, h => by
    simp only [pick] at h
    split at h
    · rename_i o os' h1 h2
      cases h
      obtain ⟨xs', q1, q2⟩ := pick_opas r h2
      have key : ∀ {xs : List V} {os : List Opd} {i : Nat}, OpasR K G H env σ Hs xs os → os[i]? = some o → ∃ x, xs[i]? = some x ∧ OpdR K G H env σ Hs x o ∧ notFr o = true := by
        intro xs os i r
        induction r generalizing i with
        | nil => intro h; simp at h
        | cons a b _ ih =>
          intro h
          cases i with
          | zero => simp at h; subst h; exact ⟨_, rfl, a, b⟩
          | succ i =>
            obtain ⟨x, e1, e2⟩ := ih (by simpa using h)
            exact ⟨x, by simpa using e1, e2⟩
      obtain ⟨x, e1, e2, e3⟩ := key r h1
      exact ⟨x :: xs', by simp only [pick, e1, q1], .cons e2 e3 q2⟩
    · cases h
theorem pick_vals {xs : List V} {us : List Value} (r : Vals xs us) : ∀ {p : List Nat} {xs' : List V} {us' : List Value}, pick xs p = some xs' → pick us p = some us' → Vals xs' us'
  | [], _, _, h1, h2 => by simp only [pick] at h1 h2; cases h1; cases h2; exact .nil
  | i :: p, _, _, h1, h2 => by
    simp only [pick] at h1 h2
    split at h1
    · rename_i x xs' a1 a2
      split at h2
      · rename_i u us' b1 b2
        cases h1; cases h2
        obtain ⟨u', c1, c2⟩ := r.get a1
        rw [b1] at c1; cases c1
        exact .cons c2 (pick_vals r a2 b2)
      · cases h2
    · cases h1
theorem e_callk {pm : List Nat} {ks : List Str} (F : FnG X.prog X.w X.K X.mg X.base k f fd ps (spF X.K FF fi ps.length)) (hn : ∀ as r, FF fi as = some r → as.length = ps.length) (hr : Room k X.A) (hgd : X.A.guards = some []) (hg : Gl X x) (hm : X.mg x = some (.ref f)) (hk : PySem.W.keepIn X.K (.ref f) = true)
    (hb : ∀ (s : Shared) (ws : List Value), X.K.In s.heap → ws.length = ks.length → ∃ us, pick ws pm = some us ∧ BindsTo s fd ⟨[], ks.zip ws⟩ (ps.zip us)) (hd : (x == ("__debug__" : Str)) = false) (hks : kwNames kws = some ks) (hl : ies.len = kws.length) (ha : PK X kws (tA FF C X.K γ ies)) :
    PE X (.Call (.Name x p) [] kws pos) (tE FF C X.K γ (.callk fi pm ies)) := by
  refine ⟨fun pins s σ H Q I ⟨G, env, o, env', sr, ev, k⟩ => ?_⟩
  simp only [evE] at ev
  split at ev
  · cases ev
  rename_i os e1 h1
  split at ev
  · rename_i os' hp
    obtain ⟨k1, k2, k3, k4⟩ := kw_ok (pos := pos) (env := X.env) hks
    refine wpAny_Call_Name_kw (ld_glob I hg hm ?_ hd)
    refine PySem.W.callWith_KW0 (h₀ := X.base) I.ok.mod.kin hk k1 (thn (ha.run pos pins s σ H (fun vs H1 => ∃ G1, Sr X.K γ G1 H1 e1 σ ∧ Step (Ow env σ) G H (Ow e1 σ) G1 H1 ∧ OpasR X.K G1 H1 e1 σ H vs os) I ⟨G, env, os, e1, sr, h1, fun G1 H1 xs s1 st1 r1 => ⟨G1, s1, st1, r1⟩⟩)
      fun ws s1 ⟨vs, H1, I1, r, G1, s2, st, ro⟩ => ⟨I1.kIn, ?_⟩) (by rw [k3]; rfl)
    rw [k2]
    have hw : ws.length = ks.length := by rw [← r.length, ← ro.length, evA_len h1, hl, k4]
    obtain ⟨us, p1, bt⟩ := hb s1 ws I1.kIn hw
    obtain ⟨xs', p2, ro'⟩ := pick_opas ro hp
    have q := call_ok (E := fun _ _ _ => False) s2 st ro' ev k hn
    exact run_fnG F hr hgd bt I1 (pick_vals r p2 p1) q
  · cases ev
end
end Rf

set_option Elab.async false
set_option linter.all false
set_option maxRecDepth 100000
set_option maxHeartbeats 4000000
/-! Rf: what loops walk. -/
namespace Rf
open PySem PySem.Spec PyProof.Rows L2
open Sem (wp)
open AutoSeq1 (wpAny_loadPart')

/-! ### enumerate of a tuple -/
theorem meets_enumT (l : Addr) (o : Obj) (items : Array Value) (hc : o.cls = .type "tuple") (n : Nat) (hd : o.data = .seq items n) :
    Meets (Builtin.«enumerate.__new__» ⟨[.type "enumerate", .ref l], []⟩) (fun _ R s => s.heap.get? l = some o ∧
      R (.ok (.ret (.ref (s.heap.push { cls := .type "tuple_iterator", data := .fields #[.ref l, .int 0 0] }).objs.size)))
        { s with heap := (s.heap.push { cls := .type "tuple_iterator", data := .fields #[.ref l, .int 0 0] }).push { cls := .type "enumerate", data := .fields #[.none, .bool false, .ref s.heap.objs.size, rawInt 0, .none, .none] } }) :=
  .of_wp fun prog w A R s h => by
    obtain ⟨hp, g, d, tk, os⟩ := s; obtain ⟨hl, h⟩ := h
    have hsub := sub_enumerate
    have hL : Heap.IsTuple (Shared.heap ⟨hp, g, d, tk, os⟩) l items := ⟨_, hl, hc, n, hd⟩
    have q1 : ∀ {A' : Around} {E : Value → Shared → Prop} {Q : Value → Shared → Prop}, Q (.ref hp.objs.size) ⟨hp.push { cls := .type "tuple_iterator", data := .fields #[.ref l, .int 0 0] }, g, d, tk, os⟩ → wpAny (model prog w) A' (pyIter (.ref l)) Q E ⟨hp, g, d, tk, os⟩ :=
      fun q => wpAny_pyIter_tuple hL q
    wp_walk using q1
    refine wpAny_stack_any fun st => wpAny_pure ?_
    split
    · rename_i c _ _ _ _ _
      cases (c == Value.type "enumerate")
      · wp_walk using q1
        exact ⟨_, rfl, h⟩
      · wp_walk using q1
        exact ⟨_, rfl, h⟩
    · wp_walk using q1
      exact ⟨_, rfl, h⟩
section
variable {prog : Program} {w : World} {A : Around} {E : Value → Shared → Prop} {s : Shared}
theorem call_enumT {l : Addr} {items : Array Value} {Q : Value → Shared → Prop} (hL : s.heap.IsTuple l items)
    (h : ∀ h', IsEnum h' (s.heap.objs.size + 1) s.heap.objs.size 0 .none → h'.IsTupleIter s.heap.objs.size l 0 → h'.objs.size = s.heap.objs.size + 2 →
      (∀ b o, s.heap.get? b = some o → h'.get? b = some o) → Q (.ref (s.heap.objs.size + 1)) { s with heap := h' }) :
    wpAny (model prog w) A (call (.type "enumerate") [.ref l]) Q E s := by
  obtain ⟨o, hl, hc, n, hd⟩ := hL
  refine callType_new F.called_enumerate (by decide) (F.typeCall_enumerate_1 _) (F.newCall_enumerate_1 _) (fun obj => F.args_object_init_2 obj _) F.entry_enumerate_new
    (meets_enumT l o items hc n hd) ⟨hl, ?_⟩
  have hz : (s.heap.push { cls := .type "tuple_iterator", data := .fields #[.ref l, .int 0 0] }).objs.size = s.heap.objs.size + 1 := Heap.size_push ..
  show _ ∧ _
  rw [hz]
  have he : IsEnum ((s.heap.push { cls := .type "tuple_iterator", data := .fields #[.ref l, .int 0 0] }).push
      { cls := .type "enumerate", data := .fields #[.none, .bool false, .ref s.heap.objs.size, rawInt 0, .none, .none] }) (s.heap.objs.size + 1) s.heap.objs.size 0 .none := by
    have := Heap.get?_push_size (s.heap.push { cls := .type "tuple_iterator", data := .fields #[.ref l, .int 0 0] })
      (o := { cls := .type "enumerate", data := .fields #[.none, .bool false, .ref s.heap.objs.size, rawInt 0, .none, .none] }) rfl
    rw [hz] at this; exact this
  refine ⟨⟨_, he, rfl⟩, h _ he ⟨_, Heap.get?_push_of_some _ (Heap.get?_push_size _ rfl), rfl, rfl⟩ (by rw [Heap.size_push, hz]) fun b o x => Heap.get?_push_of_some _ (Heap.get?_push_of_some _ x)⟩
end
/-- the tuple at a as it stands at each turn, each item in a new pair -/
def IteT (K : PySem.W.Frag) (a : Addr) : It :=
  ⟨fun i H => ∃ (xs : List V) (x : V), SqT K H a xs ∧ xs[i]? = some x, fun i H v H' => ∃ T x, v = .ref T ∧ H T = none ∧ H' = upd H T (.tup [.int (i : Nat), x]) ∧ ∀ xs, SqT K H a xs → xs[i]? = some x, fun i H => ∃ xs : List V, SqT K H a xs ∧ xs.length ≤ i⟩
theorem turn_enumT {P : Program} {w : World} {K : PySem.W.Frag} {elts : List Expr} {kk : Nat} {tpos : Pos} (a e it : Addr) :
    Turn P w K (.Tuple elts kk tpos) (IteT K a) [e, it] e (fun i h => (∃ old, IsEnum h e it ((i : Nat) : Int) old) ∧ h.IsTupleIter it a i ∧ e ≠ it) where
  mem := by simp
  obj := fun i h st b hb => by
    obtain ⟨⟨old, he⟩, ⟨o, ho, hc, hd⟩, _⟩ := st
    have e' : b = e ∨ b = it := by simpa using hb
    rcases e' with z | z
    · rw [z]; exact ⟨_, he, fun v q => nomatch q⟩
    · rw [z]; exact ⟨o, ho, fun v q => by rw [hd] at q; cases q⟩
  keep := fun i h h' st k => let ⟨⟨old, he⟩, hi, hne⟩ := st; ⟨⟨old, k e (by simp) _ he⟩, hi.at fun o q => k it (by simp) o q, hne⟩
  item := by
    intro X hP hw hK hc i pins s σ H E I hf st hg
    subst hP hw hK
    obtain ⟨⟨old, he⟩, hit, hne⟩ := st
    obtain ⟨xs, x, hq, hx⟩ := hg
    obtain ⟨its, rv, p, hz⟩ := I.tuple hq
    have p' : s.heap.IsTuple a its.toArray := p
    obtain ⟨u, hu, ru⟩ := rv.get hx
    have hel : e < s.heap.objs.size := Heap.lt_size he
    have hil : it < s.heap.objs.size := by obtain ⟨_, q, _⟩ := hit; exact Heap.lt_size q
    have hlt : i < its.toArray.size := by
      have := (List.getElem?_eq_some_iff.mp hu).1
      simpa using this
    have nea : a ≠ it := fun z => by
      obtain ⟨o1, h1, c1, _⟩ := p'
      obtain ⟨o2, h2, c2, _⟩ := hit
      rw [z, h2] at h1; cases h1
      rw [c1] at c2
      exact absurd c2 (by simp)
    have nee : e ≠ a := fun z => by
      obtain ⟨o1, h1, c1, _⟩ := p'
      rw [← z, he] at h1; cases h1
      exact absurd c1 (by simp)
    refine wpAny_pyNext_enum_itemD (Draws.tuple (A := X.A.in1) (I.ok.hd hc) it a nea its.toArray) he ⟨hit, p'⟩ hlt hne (by simp [hne, nee]) fun x' h' tk hx' ho st' hT hsz hk => ?_
    have eu : x' = u := by
      have : its[i]? = some x' := by simpa using hx'
      rw [hu] at this; cases this; rfl
    subst eu
    refine ⟨_, rfl, wpAny_letOwnedTupleGo_enum (s := { s with heap := h', toks := tk + 1 }) ho fun h'' he' sb => ?_⟩
    have hT2 : h''.get? s.heap.objs.size = some { cls := .type "tuple", data := .seq #[.int i tk, x'] } := (sb.2 _ (Nat.ne_of_gt hel)).trans hT
    have new : ObjOk X.prog X.w (upd H s.heap.objs.size (.tup [.int (i : Nat), x])) h'' s.heap.objs.size (.tup [.int (i : Nat), x]) :=
      ⟨by show 2 ≤ sizeLine; decide, [.int i tk, x'], .cons ⟨_, rfl⟩ (.cons ru .nil), ⟨_, hT2, rfl, _, rfl⟩⟩
    have I1 : Inv X pins σ (upd H s.heap.objs.size (.tup [.int (i : Nat), x])) { s with heap := h'', toks := tk + 1 } :=
      I.turnedNew (ch := [e, it]) (fun b ob hb q => (sb.2 b (fun z => hb (by simp [z]))).trans (hk b ob (fun z => hb (by simp [z])) (fun z => hb (by simp [z])) q)) hf (Nat.le_refl _) new
    refine ⟨.ref s.heap.objs.size, _, I1, rfl, ⟨_, x, rfl, I.hok.fresh (Nat.le_refl _), rfl, fun ys hy => by rw [I.tuple_inj hy hq]; exact hx⟩, ⟨⟨x', ?_⟩, st'.1.at fun o q => (sb.2 it (Ne.symm hne)).trans q, hne⟩, fun b hb => ?_⟩
    · have e1 : ((i + 1 : Nat) : Int) = (i : Int) + 1 := by omega
      rw [e1]; exact he'
    · have hb' : b < s.heap.objs.size := by
        have e' : b = e ∨ b = it := by simpa using hb
        rcases e' with z | z
        · rw [z]; exact hel
        · rw [z]; exact hil
      rw [upd_ne (Nat.ne_of_lt hb')]
      exact (hf b hb).1
  done := by
    intro X hP hw hK hc i pins s σ H E I hf st hg
    subst hP hw hK
    obtain ⟨⟨old, he⟩, hit, hne⟩ := st
    obtain ⟨xs, hq, hx⟩ := hg
    obtain ⟨its, rv, p, hz⟩ := I.tuple hq
    have p' : s.heap.IsTuple a its.toArray := p
    obtain ⟨f0, f1, f2, f3, f4, f5⟩ := hf it (by simp)
    have hl := rv.length
    have hT : s.TypeIs (.ref e) "enumerate" := ⟨_, he, rfl⟩
    unfold pyNext
    refine wpAny_bind (wpAny_attempt (wpAny_callSpecial?_slot (name := Str.ofString "__next__") hT F.slot_enumerate_next
      (wpAny_call_entry F.slot_enumerate_next hT F.entry_enumerate_next ?_ (F.args_enumerate_next_1 _))))
    show wpAny _ _ (field (.ref e) 2 >>= _) _ _ _
    refine wpAny_bind (wpAny_field he rfl (x := .ref it) rfl ?_)
    refine wpAny_bind (wpAny_nextOf_tuple_end (I.ok.hd hc) hit p' (by simp; omega) fun h' x he' hx' => ?_)
    obtain ⟨o, ho, hc'⟩ := hx'
    refine wpAny_bind (wpAny_isInstance (T := "StopIteration") (b := true) ⟨o, ho, hc'⟩ isSubtype_stop ?_)
    exact wpAny_pure ⟨rfl, I.turned (t' := s.toks) (fun b o hb q => he' b o hb q) f0 f1 f3 f4 f5⟩
  self := fun A i s Q E st h => let ⟨⟨_, he⟩, _⟩ := st; wpAny_pyIter_enum he h

/-! ### lists or tuples -/
section
variable {X : Cx} {tg : Expr}
def iSeq (K : PySem.W.Frag) (tl : TE) : TI := fun σ H R => tl σ H fun x H1 => ∃ a, x = .ref a ∧ (((∃ xs, SqL K H1 a xs) ∧ R (Itl K a) H1) ∨ ((∃ xs, SqT K H1 a xs) ∧ R (Itt K a) H1))
theorem pi_seq {l : Expr} {tl : TE} (hl : PE X l tl) : PI X tg l (iSeq X.K tl) := by
  refine ⟨fun pins s σ H R I h => ?_⟩
  refine thn (hl.run pins s σ H _ I h) fun v s1 ⟨x, H1, I1, r1, q1⟩ => ?_
  obtain ⟨a, e, q1⟩ := q1
  subst e
  cases r1
  rcases q1 with ⟨⟨xs, hq⟩, q⟩ | ⟨⟨xs, hq⟩, q⟩
  · obtain ⟨its, rv, p, hz⟩ := I1.list hq
    refine wpAny_pyIter_list p.isList ?_
    refine ⟨s1.heap.objs.size, [s1.heap.objs.size], _, _, H1, rfl, I1.kept (t' := s1.toks) fun b o e => Heap.get?_push_of_some _ e, turn_list a _, ⟨_, Heap.get?_push_size _ rfl, rfl, rfl⟩, fun b hb => ?_, q⟩
    have e : b = s1.heap.objs.size := by simpa using hb
    subst e
    exact I1.fpOk (Nat.le_refl _) (I1.hok.fresh (Nat.le_refl _))
  · obtain ⟨its, rv, p, hz⟩ := I1.tuple hq
    refine wpAny_pyIter_tuple (show s1.heap.IsTuple a its.toArray from p) ?_
    refine ⟨s1.heap.objs.size, [s1.heap.objs.size], _, _, H1, rfl, I1.kept (t' := s1.toks) fun b o e => Heap.get?_push_of_some _ e, turn_tuple a _, ⟨_, Heap.get?_push_size _ rfl, rfl, rfl⟩, fun b hb => ?_, q⟩
    have e : b = s1.heap.objs.size := by simpa using hb
    subst e
    exact I1.fpOk (Nat.le_refl _) (I1.hok.fresh (Nat.le_refl _))
def iEnu (K : PySem.W.Frag) (tl : TE) : TI := fun σ H R => tl σ H fun x H1 => ∃ a, x = .ref a ∧ (((∃ xs, SqL K H1 a xs) ∧ R (Ite K a) H1) ∨ ((∃ xs, SqT K H1 a xs) ∧ R (IteT K a) H1))
theorem pi_enu {e : Expr} {te : TE} {p pos tpos : Pos} {elts : List Expr} {kk : Nat} (hg : Gl X "enumerate") (hm : X.mg "enumerate" = none) (hs : notStar e = true) (he : PE X e te) : PI X (.Tuple elts kk tpos) (.Call (.Name "enumerate" p) [e] [] pos) (iEnu X.K te) := by
  refine ⟨fun pins s σ H R I h => ?_⟩
  refine Call_ (ld_blt I hg hm boot_enumerate (PyProof.Rows.callWith_type1 (thn ((pa_cons he pa_nil (star_cons hs)).run pos pins s σ H (fun vs H1 => match vs with
    | [x] => ∃ a, x = V.ref a ∧ (((∃ xs, SqL X.K H1 a xs) ∧ R (Ite X.K a) H1) ∨ ((∃ xs, SqT X.K H1 a xs) ∧ R (IteT X.K a) H1))
    | _ => False) I h) fun us s1 ⟨vs, H1, I1, r1, q1⟩ => ?_) (star_cons hs) rfl))
  rcases vs with _ | ⟨x, _ | ⟨y, vs⟩⟩
  · exact q1.elim
  rotate_left
  · exact q1.elim
  obtain ⟨a, ea, q⟩ := q1
  subst ea
  cases r1 with
  | cons r rr =>
    cases rr
    cases r
    have fresh2 : ∀ b, b ∈ [s1.heap.objs.size + 1, s1.heap.objs.size] → FpOk X pins H1 b := fun b hb => by
      have e' : b = s1.heap.objs.size + 1 ∨ b = s1.heap.objs.size := by simpa using hb
      have hle : s1.heap.objs.size ≤ b := by
        rcases e' with z | z
        · rw [z]; exact Nat.le_add_right _ _
        · rw [z]; exact Nat.le_refl _
      exact I1.fpOk hle (I1.hok.fresh hle)
    rcases q with ⟨⟨xs, hq⟩, q⟩ | ⟨⟨xs, hq⟩, q⟩
    · obtain ⟨its, rv, p', hz⟩ := I1.list hq
      refine call_enumerate_list p'.isList fun h' he hit hsz hk => wpAny_pyIter_enum he ?_
      exact ⟨s1.heap.objs.size + 1, [s1.heap.objs.size + 1, s1.heap.objs.size], _, _, H1, rfl, I1.kept (t' := s1.toks) hk, turn_enum a (s1.heap.objs.size + 1) s1.heap.objs.size, ⟨⟨.none, he⟩, hit, Nat.succ_ne_self _⟩, fresh2, q⟩
    · obtain ⟨its, rv, p', hz⟩ := I1.tuple hq
      refine call_enumT (show s1.heap.IsTuple a its.toArray from p') fun h' he hit hsz hk => wpAny_pyIter_enum he ?_
      exact ⟨s1.heap.objs.size + 1, [s1.heap.objs.size + 1, s1.heap.objs.size], _, _, H1, rfl, I1.kept (t' := s1.toks) hk, turn_enumT a (s1.heap.objs.size + 1) s1.heap.objs.size, ⟨⟨.none, he⟩, hit, Nat.succ_ne_self _⟩, fresh2, q⟩

/-! ### what is served -/
structure ItR (K : PySem.W.Frag) (G : Hp) (J : It) (ds : List D) : Prop where
  go : ∀ i H, Sub G H → i < ds.length → J.go i H
  stop : ∀ H, Sub G H → J.stop ds.length H
  yld : ∀ i H x H' Gc, Sub G Gc → Sub Gc H → J.yld i H x H' → ∀ d, ds[i]? = some d → ∃ Gc', Ext Gc H Gc' H' ∧ Pu K Gc' d x
theorem ItR.list {K : PySem.W.Frag} {G : Hp} {a : Addr} {ys : List V} {ds : List D} (e : G a = some (.lst ys)) (p : PuA K G ds ys) : ItR K G (Itl K a) ds where
  go := fun i H s hi => by
    obtain ⟨v, hv, _⟩ := p.get (List.getElem?_eq_getElem hi)
    exact ⟨ys, v, SqL.of (s _ _ e), hv⟩
  stop := fun H s => ⟨ys, SqL.of (s _ _ e), by rw [p.length]; exact Nat.le_refl _⟩
  yld := fun i H x H' Gc s1 s2 ⟨h1, h2⟩ d hd => by
    subst h1
    have hx := h2 ys (SqL.of (s2 _ _ (s1 _ _ e)))
    obtain ⟨v, hv, pv⟩ := p.get hd
    rw [hx] at hv; cases hv
    exact ⟨Gc, Ext.refl s2, pv.mono s1⟩
theorem ItR.tup {K : PySem.W.Frag} {G : Hp} {a : Addr} {ys : List V} {ds : List D} (e : SqT K G a ys) (p : PuA K G ds ys) : ItR K G (Itt K a) ds where
  go := fun i H s hi => by
    obtain ⟨v, hv, _⟩ := p.get (List.getElem?_eq_getElem hi)
    exact ⟨ys, v, sqT_sub s e, hv⟩
  stop := fun H s => ⟨ys, sqT_sub s e, by rw [p.length]; exact Nat.le_refl _⟩
  yld := fun i H x H' Gc s1 s2 ⟨h1, h2⟩ d hd => by
    subst h1
    have hx := h2 ys (sqT_sub (s1.trans s2) e)
    obtain ⟨v, hv, pv⟩ := p.get hd
    rw [hx] at hv; cases hv
    exact ⟨Gc, Ext.refl s2, pv.mono s1⟩
theorem enuL_length : ∀ (ds : List D) (k : Nat), (enuL k ds).length = ds.length
  | [], _ => rfl
  | _ :: r, k => congrArg Nat.succ (enuL_length r (k + 1))
theorem enuL_get : ∀ {ds : List D} {k i : Nat} {d : D}, (enuL k ds)[i]? = some d → ∃ e, ds[i]? = some e ∧ d = .tuple [.int ((k + i : Nat) : Int), e]
  | [], _, _, _, h => by simp [enuL] at h
  | e :: r, k, 0, d, h => by
    simp [enuL] at h
    exact ⟨e, rfl, by rw [← h]; simp⟩
  | e :: r, k, i + 1, d, h => by
    obtain ⟨x, h1, h2⟩ := enuL_get (ds := r) (k := k + 1) (i := i) (by simpa [enuL] using h)
    refine ⟨x, by simpa using h1, ?_⟩
    rw [h2]
    have : k + 1 + i = k + (i + 1) := by omega
    rw [this]
theorem pair_new {K : PySem.W.Frag} {Gc H : Hp} {T : Addr} {x y : V} {d e : D} (s : Sub Gc H) (hT : H T = none) (px : Pu K Gc d x) (py : Pu K Gc e y) :
    ∃ Gc', Ext Gc H Gc' (upd H T (.tup [x, y])) ∧ Pu K Gc' (.tuple [d, e]) (.ref T) := by
  refine ⟨upd Gc T (.tup [x, y]), Ext.newG s hT, ?_⟩
  have up := up_sub (o := .tup [x, y]) (none_of s hT)
  exact .tup (SqT.of upd_same) (.cons (px.mono up) (.cons (py.mono up) .nil))
theorem ItR.enuL {K : PySem.W.Frag} {G : Hp} {a : Addr} {ys : List V} {ds : List D} (e : G a = some (.lst ys)) (p : PuA K G ds ys) : ItR K G (Ite K a) (enuL 0 ds) where
  go := fun i H s hi => by
    rw [enuL_length] at hi
    obtain ⟨v, hv, _⟩ := p.get (List.getElem?_eq_getElem hi)
    exact ⟨ys, v, SqL.of (s _ _ e), hv⟩
  stop := fun H s => ⟨ys, SqL.of (s _ _ e), by rw [enuL_length, p.length]; exact Nat.le_refl _⟩
  yld := fun i H x H' Gc s1 s2 ⟨T, x', e1, hT, e2, h2⟩ d hd => by
    subst e1; subst e2
    have hx := h2 ys (SqL.of (s2 _ _ (s1 _ _ e)))
    obtain ⟨d', hd', rfl⟩ := enuL_get hd
    obtain ⟨v, hv, pv⟩ := p.get hd'
    rw [hx] at hv; cases hv
    rw [Nat.zero_add]
    exact pair_new s2 hT (.int _) (pv.mono s1)
theorem ItR.enuT {K : PySem.W.Frag} {G : Hp} {a : Addr} {ys : List V} {ds : List D} (e : SqT K G a ys) (p : PuA K G ds ys) : ItR K G (IteT K a) (Rf.enuL 0 ds) where
  go := fun i H s hi => by
    rw [enuL_length] at hi
    obtain ⟨v, hv, _⟩ := p.get (List.getElem?_eq_getElem hi)
    exact ⟨ys, v, sqT_sub s e, hv⟩
  stop := fun H s => ⟨ys, sqT_sub s e, by rw [enuL_length, p.length]; exact Nat.le_refl _⟩
  yld := fun i H x H' Gc s1 s2 ⟨T, x', e1, hT, e2, h2⟩ d hd => by
    subst e1; subst e2
    have hx := h2 ys (sqT_sub (s1.trans s2) e)
    obtain ⟨d', hd', rfl⟩ := enuL_get hd
    obtain ⟨v, hv, pv⟩ := p.get hd'
    rw [hx] at hv; cases hv
    rw [Nat.zero_add]
    exact pair_new s2 hT (.int _) (pv.mono s1)
theorem zipL_length : ∀ (xs ys : List D), (zipL xs ys).length = min xs.length ys.length
  | [], _ => by simp [zipL]
  | _ :: _, [] => by simp [zipL]
  | _ :: r, _ :: s => by simp [zipL, zipL_length r s]
theorem zipL_get : ∀ {xs ys : List D} {i : Nat} {d : D}, (zipL xs ys)[i]? = some d → ∃ a b, xs[i]? = some a ∧ ys[i]? = some b ∧ d = .tuple [a, b]
  | [], _, _, _, h => by simp [zipL] at h
  | _ :: _, [], _, _, h => by simp [zipL] at h
  | x :: r, y :: s, 0, d, h => by
    simp [zipL] at h
    exact ⟨x, y, rfl, rfl, h.symm⟩
  | x :: r, y :: s, i + 1, d, h => by
    obtain ⟨a, b, h1, h2, h3⟩ := zipL_get (xs := r) (ys := s) (i := i) (by simpa [zipL] using h)
    exact ⟨a, b, by simpa using h1, by simpa using h2, h3⟩
theorem ItR.zipL {K : PySem.W.Frag} {G : Hp} {a b : Addr} {ys zs : List V} {ds es : List D} (e : G a = some (.lst ys)) (p : PuA K G ds ys) (e' : G b = some (.lst zs)) (p' : PuA K G es zs) : ItR K G (Itz K a b) (Rf.zipL ds es) where
  go := fun i H s hi => by
    rw [zipL_length] at hi
    obtain ⟨v, hv, _⟩ := p.get (List.getElem?_eq_getElem (Nat.lt_of_lt_of_le hi (Nat.min_le_left _ _)))
    obtain ⟨w, hw, _⟩ := p'.get (List.getElem?_eq_getElem (Nat.lt_of_lt_of_le hi (Nat.min_le_right _ _)))
    exact ⟨ys, zs, v, w, SqL.of (s _ _ e), SqL.of (s _ _ e'), hv, hw⟩
  stop := fun H s => ⟨ys, zs, SqL.of (s _ _ e), SqL.of (s _ _ e'), by
    rw [zipL_length, p.length, p'.length]
    omega⟩
  yld := fun i H x H' Gc s1 s2 ⟨T, x', y', e1, hT, e2, h2, h3⟩ d hd => by
    subst e1; subst e2
    have hx := h2 ys (SqL.of (s2 _ _ (s1 _ _ e)))
    have hy := h3 zs (SqL.of (s2 _ _ (s1 _ _ e')))
    obtain ⟨da, db, h1, h4, rfl⟩ := zipL_get hd
    obtain ⟨v, hv, pv⟩ := p.get h1
    obtain ⟨w, hw, pw⟩ := p'.get h4
    rw [hx] at hv; cases hv
    rw [hy] at hw; cases hw
    exact pair_new s2 hT (pv.mono s1) (pw.mono s1)
theorem ItR.zipT {K : PySem.W.Frag} {G : Hp} {a b : Addr} {ys zs : List V} {ds es : List D} (e : SqT K G a ys) (p : PuA K G ds ys) (e' : SqT K G b zs) (p' : PuA K G es zs) : ItR K G (RZ.ItzT K a b) (Rf.zipL ds es) where
  go := fun i H s hi => by
    rw [zipL_length] at hi
    obtain ⟨v, hv, _⟩ := p.get (List.getElem?_eq_getElem (Nat.lt_of_lt_of_le hi (Nat.min_le_left _ _)))
    obtain ⟨w, hw, _⟩ := p'.get (List.getElem?_eq_getElem (Nat.lt_of_lt_of_le hi (Nat.min_le_right _ _)))
    exact ⟨ys, zs, v, w, sqT_sub s e, sqT_sub s e', hv, hw⟩
  stop := fun H s => ⟨ys, zs, sqT_sub s e, sqT_sub s e', by
    rw [zipL_length, p.length, p'.length]
    omega⟩
  yld := fun i H x H' Gc s1 s2 ⟨T, x', y', e1, hT, e2, h2, h3⟩ d hd => by
    subst e1; subst e2
    have hx := h2 ys (sqT_sub (s1.trans s2) e)
    have hy := h3 zs (sqT_sub (s1.trans s2) e')
    obtain ⟨da, db, h1, h4, rfl⟩ := zipL_get hd
    obtain ⟨v, hv, pv⟩ := p.get h1
    obtain ⟨w, hw, pw⟩ := p'.get h4
    rw [hx] at hv; cases hv
    rw [hy] at hw; cases hw
    exact pair_new s2 hT (pv.mono s1) (pw.mono s1)
theorem ups_get : ∀ {n : Nat} {lo : Int} {i : Nat} {d : D}, (ups lo n)[i]? = some d → d = .int (lo + i)
  | 0, _, _, _, h => by simp [ups] at h
  | n + 1, lo, 0, d, h => by simp [ups] at h; rw [← h]; simp
  | n + 1, lo, i + 1, d, h => by
    have := ups_get (n := n) (lo := lo + 1) (i := i) (by simpa [ups] using h)
    rw [this]
    congr 1
    omega
theorem ItR.rng {K : PySem.W.Frag} {G : Hp} (lo : Int) (n : Nat) : ItR K G (Itr lo n) (ups lo n) where
  go := fun i H s hi => by rw [ups_length] at hi; exact hi
  stop := fun H s => by rw [ups_length]; exact Nat.le_refl _
  yld := fun i H x H' Gc s1 s2 ⟨h1, h2⟩ d hd => by
    subst h1
    rw [ups_get hd, h2]
    exact ⟨Gc, Ext.refl s2, .int _⟩

/-! ### the rules -/
variable {F : FT} {C : List D} {γ : Gam} {a b : Expr} {ia ib : IE} {p pos tpos : Pos} {elts : List Expr} {kk : Nat}
def tI (F : FT) (C : List D) (K : PySem.W.Frag) (γ : Gam) (ii : II) : TI := fun σ H R => ∃ G env ds env', Sr K γ G H env σ ∧ evI F C ii env = some (ds, env') ∧
  ∀ G' H' J, Sr K γ G' H' env' σ → Step (Ow env σ) G H (Ow env' σ) G' H' → ItR K G' J ds → R J H'
theorem PI.weak {tg it : Expr} {t t' : TI} (h : PI X tg it t) (w : ∀ σ H Q, t' σ H Q → t σ H Q) : PI X tg it t' := ⟨fun pins s σ H Q I q => h.run pins s σ H Q I (w _ _ _ q)⟩
theorem seq_cases {K : PySem.W.Frag} {G : Hp} {d : D} {x : V} {ds : List D} (p : Pu K G d x) (h : seqV d = some ds) : ∃ l ys, x = .ref l ∧ PuA K G ds ys ∧ (G l = some (.lst ys) ∨ SqT K G l ys) := by
  cases p <;> simp only [seqV] at h <;> (try cases h)
  · rename_i l ys e p
    exact ⟨l, ys, rfl, p, .inl e⟩
  · rename_i l ys e p
    exact ⟨l, ys, rfl, p, .inr e⟩
theorem i_it {tg : Expr} (ha : PE X a (tE F C X.K γ ia)) : PI X tg a (tI F C X.K γ (.it ia)) := by
  refine PI.weak (pi_seq ha) fun σ H R ⟨G, env, ds, env', sr, ev, k⟩ => ?_
  simp only [evI] at ev
  split at ev
  · cases ev
  rename_i o e1 h1
  split at ev
  · cases ev
  rename_i d hd
  obtain ⟨ds', h2, e2⟩ := Option.map_eq_some_iff.mp ev
  cases e2
  refine ⟨G, env, o, _, sr, h1, fun G1 H1 x s1 st1 r1 => ?_⟩
  obtain ⟨G2, s2, st2, _, pd, _⟩ := frz_ok s1 st1 r1 hd
  obtain ⟨l, ys, rfl, pa, q⟩ := seq_cases pd h2
  rcases q with q | q
  · exact ⟨l, rfl, .inl ⟨⟨ys, SqL.of (s2.sub _ _ q)⟩, k G2 H1 _ s2 st2 (.list q pa)⟩⟩
  · exact ⟨l, rfl, .inr ⟨⟨ys, sqT_sub s2.sub q⟩, k G2 H1 _ s2 st2 (.tup q pa)⟩⟩
theorem i_enu (hg : Gl X "enumerate") (hm : X.mg "enumerate" = none) (hs : notStar a = true) (ha : PE X a (tE F C X.K γ ia)) : PI X (.Tuple elts kk tpos) (.Call (.Name "enumerate" p) [a] [] pos) (tI F C X.K γ (.enu ia)) := by
  refine PI.weak (pi_enu hg hm hs ha) fun σ H R ⟨G, env, ds, env', sr, ev, k⟩ => ?_
  simp only [evI] at ev
  split at ev
  · cases ev
  rename_i o e1 h1
  split at ev
  · cases ev
  rename_i d hd
  obtain ⟨ds', h2, e2⟩ := Option.map_eq_some_iff.mp ev
  cases e2
  refine ⟨G, env, o, _, sr, h1, fun G1 H1 x s1 st1 r1 => ?_⟩
  obtain ⟨G2, s2, st2, _, pd, _⟩ := frz_ok s1 st1 r1 hd
  obtain ⟨l, ys, rfl, pa, q⟩ := seq_cases pd h2
  rcases q with q | q
  · exact ⟨l, rfl, .inl ⟨⟨ys, SqL.of (s2.sub _ _ q)⟩, k G2 H1 _ s2 st2 (.enuL q pa)⟩⟩
  · exact ⟨l, rfl, .inr ⟨⟨ys, sqT_sub s2.sub q⟩, k G2 H1 _ s2 st2 (.enuT q pa)⟩⟩
theorem i_zip (hg : Gl X "zip") (hm : X.mg "zip" = none) (hs : notStar a = true) (hs2 : notStar b = true) (ha : PE X a (tE F C X.K γ ia)) (hb : PE X b (tE F C X.K γ ib)) :
    PI X (.Tuple elts kk tpos) (.Call (.Name "zip" p) [a, b] [] pos) (tI F C X.K γ (.zip ia ib)) := by
  refine PI.weak (RZ.pi_zipA hg hm (pa_cons ha (pa_cons hb pa_nil (star_cons hs2)) (star_cons hs)) (star_cons hs) (plain_any (es := [b]) (by simp [noStars, hs2]))) fun σ H R ⟨G, env, ds, env', sr, ev, k⟩ => ?_
  simp only [evI] at ev
  split at ev
  · cases ev
  rename_i o e1 h1
  split at ev
  · cases ev
  rename_i d hd
  split at ev
  · cases ev
  rename_i o' e2 h2
  split at ev
  · cases ev
  rename_i d' hd'
  obtain ⟨ds', h3, e3⟩ := Option.map_eq_some_iff.mp ev
  cases e3
  refine ⟨G, env, o, e1, sr, h1, fun G1 H1 x s1 st1 r1 => ?_⟩
  obtain ⟨G2, s2, st2, _, pd, _⟩ := frz_ok s1 st1 r1 hd
  refine ⟨G2, e1, o', _, s2, h2, fun G3 H3 y s3 st3 r3 => ?_⟩
  obtain ⟨G4, s4, st4, sb, pd', _⟩ := frz_ok s3 st3 r3 hd'
  have pd4 := pd.mono st4.g
  cases d <;> cases d' <;> simp only [zipV] at h3 <;> cases h3
  · cases pd4 with
    | lst q pa =>
      cases pd' with
      | lst q' pa' => exact ⟨_, _, _, _, rfl, .inl ⟨SqL.of (s4.sub _ _ q), SqL.of (s4.sub _ _ q'), k G4 H3 _ s4 (st2.trans st4) (.zipL q pa q' pa')⟩⟩
  · cases pd4 with
    | tup q pa =>
      cases pd' with
      | tup q' pa' => exact ⟨_, _, _, _, rfl, .inr ⟨sqT_sub s4.sub q, sqT_sub s4.sub q', k G4 H3 _ s4 (st2.trans st4) (.zipT q pa q' pa')⟩⟩
theorem rng_cases {env env' : Ev} {ds : List D} {il ih : IE} (ev : evI F C (.rng il ih) env = some (ds, env')) : ∃ i j e1, evE F C il env = some (.pu (.int i), e1) ∧ evE F C ih e1 = some (.pu (.int j), env') ∧
    (-4611686018427387904 ≤ i ∧ i < 4611686018427387904 ∧ -4611686018427387904 ≤ j ∧ j < 4611686018427387904) ∧ ds = ups i (j - i).toNat := by
  simp only [evI] at ev
  split at ev
  · rename_i d e1 h1
    split at ev
    · rename_i d' e2 h2
      obtain ⟨ds', h3, e3⟩ := Option.map_eq_some_iff.mp ev
      cases e3
      obtain ⟨i, j, rfl, rfl, bd, rfl⟩ := rng_ok h3
      exact ⟨i, j, e1, h1, h2, bd, rfl⟩
    · cases ev
  · cases ev
theorem i_rg1 {tg : Expr} (hg : Gl X "range") (hm : X.mg "range" = none) (hs : notStar b = true) (hb : PE X b (tE F C X.K γ ib)) : PI X tg (.Call (.Name "range" p) [b] [] pos) (tI F C X.K γ (.rng (.cst (.int 0)) ib)) := by
  refine PI.weak (pi_range1 hg hm (pa_cons hb pa_nil (star_cons hs)) (star_cons hs)) fun σ H R ⟨G, env, ds, env', sr, ev, k⟩ => ?_
  obtain ⟨i, j, e1, h1, h2, bd, rfl⟩ := rng_cases ev
  simp only [evE] at h1
  cases h1
  refine ⟨G, env, _, env', sr, h2, fun G1 H1 x s1 st1 r1 => ⟨j, by rw [opd_int r1], by omega, by omega, k G1 H1 _ s1 st1 ?_⟩⟩
  have := ItR.rng (K := X.K) (G := G1) 0 (j - 0).toNat
  rw [Int.sub_zero] at this ⊢
  exact this
theorem i_rg2 {tg : Expr} (hg : Gl X "range") (hm : X.mg "range" = none) (hs : notStar a = true) (hs2 : notStar b = true) (ha : PE X a (tE F C X.K γ ia)) (hb : PE X b (tE F C X.K γ ib)) : PI X tg (.Call (.Name "range" p) [a, b] [] pos) (tI F C X.K γ (.rng ia ib)) := by
  refine PI.weak (pi_range2 hg hm (pa_cons ha (pa_cons hb pa_nil (star_cons hs2)) (star_cons hs)) (star_all (by simp [noStars, hs, hs2])) (star_cons hs2)) fun σ H R ⟨G, env, ds, env', sr, ev, k⟩ => ?_
  obtain ⟨i, j, e1, h1, h2, bd, rfl⟩ := rng_cases ev
  exact ⟨G, env, _, e1, sr, h1, fun G1 H1 x s1 st1 r1 => ⟨G1, e1, _, env', s1, h2, fun G2 H2 y s2 st2 r2 => ⟨i, j, by rw [opd_int r1, opd_int r2], by omega, k G2 H2 _ s2 (st1.trans st2) (.rng _ _)⟩⟩⟩
end
end Rf

set_option Elab.async false
set_option linter.all false
set_option maxRecDepth 100000
set_option maxHeartbeats 4000000
/-! Rf: targets. -/
namespace Rf
open PySem PySem.Spec PyProof.Rows L2

theorem Step.sub {O O1 O2 : Addr → Prop} {G H G1 H1 : Hp} (st : Step O G H O1 G1 H1) (h : ∀ a, O2 a → O1 a) : Step O G H O2 G1 H1 := ⟨st.g, st.h, st.n, st.f, fun a q => st.o a (h a q)⟩
theorem wipe_set (σ : L2.St) (i : Nat) (x : Option V) : ∀ {vs : List Nat}, i ∈ vs → wipe (σ.set i x) vs = wipe σ vs
  | v :: vs, h => by
    unfold wipe
    by_cases q : i = v
    · subst q
      by_cases z : i ∈ vs
      · rw [wipe_set σ i x z]
      · have key : ∀ {ws : List Nat}, i ∉ ws → wipe (σ.set i x) ws = (wipe σ ws).set i x := by
          intro ws
          induction ws with
          | nil => intro _; rfl
          | cons w ws ih =>
            intro h
            simp only [List.mem_cons, not_or] at h
            unfold wipe
            rw [ih h.2, List.set_comm _ _ h.1]
        rw [key z, List.set_set]
    · rcases List.mem_cons.mp h with h | h
      · exact absurd h q
      · rw [wipe_set σ i x h]
section
variable {K : PySem.W.Frag} {γ : Gam} {G H : Hp} {env : Ev} {σ : L2.St}
/-- a value is stored -/
theorem Sr.put (s : Sr K γ G H env σ) {i : Nat} {d : D} {v : V} (hi : i < env.length) (p : Pu K G d v) :
    Sr K γ G H (env.set i (.val d)) (σ.set i (some v)) ∧ Step (Ow env σ) G H (Ow (env.set i (.val d)) (σ.set i (some v))) G H := by
  have hs : i < σ.length := by rw [← s.len]; exact hi
  have back : ∀ {j a}, OwnAt (env.set i (.val d)) (σ.set i (some v)) j a → OwnAt env σ j a := fun {j a} ⟨⟨t, e, io⟩, h⟩ => by
    rcases get_set e with ⟨_, q⟩ | ⟨ne, q⟩
    · subst q; cases io
    · rw [List.getElem?_set_ne (Ne.symm ne)] at h
      exact ⟨⟨t, q, io⟩, h⟩
  refine ⟨⟨s.sub, by simpa using s.len, fun j sl e => ?_, fun j j' a h h' => s.inj j j' a (back h) (back h')⟩, ⟨Sub.refl G, fun _ _ e _ => e, fun _ _ e _ => e, fun _ e => e, fun a ⟨j, h⟩ => .inl ⟨j, back h⟩⟩⟩
  rcases get_set e with ⟨rfl, rfl⟩ | ⟨ne, q⟩
  · exact ⟨v, List.getElem?_set_self hs, p⟩
  · have w := s.slot j sl q
    rw [List.getElem?_set_ne (Ne.symm ne)]
    exact w
/-- a list of one's own is stored -/
theorem Sr.putOwn (s : Sr K γ G H env σ) {i : Nat} {xs : List D} {ys : List V} {l : Addr} (hi : i < env.length) (h1 : G l = none) (h2 : H l = some (.lst ys)) (h3 : PuA K G xs ys) (h4 : ¬ Ow env σ l) (h5 : γ.h0 l = none) :
    Sr K γ G H (env.set i (.own 0 xs)) (σ.set i (some (.ref l))) ∧ ∀ a, Ow (env.set i (.own 0 xs)) (σ.set i (some (.ref l))) a → Ow env σ a ∨ a = l := by
  have hs : i < σ.length := by rw [← s.len]; exact hi
  have back : ∀ {j a}, OwnAt (env.set i (.own 0 xs)) (σ.set i (some (.ref l))) j a → (j = i ∧ a = l) ∨ (j ≠ i ∧ OwnAt env σ j a) := fun {j a} ⟨⟨t, e, io⟩, h⟩ => by
    rcases get_set e with ⟨e1, q⟩ | ⟨ne, q⟩
    · rw [e1, List.getElem?_set_self hs] at h
      cases h
      exact .inl ⟨e1, rfl⟩
    · rw [List.getElem?_set_ne (Ne.symm ne)] at h
      exact .inr ⟨ne, ⟨t, q, io⟩, h⟩
  refine ⟨⟨s.sub, by simpa using s.len, fun j sl e => ?_, fun j j' a h h' => ?_⟩, fun a ⟨j, h⟩ => ?_⟩
  · rcases get_set e with ⟨rfl, rfl⟩ | ⟨ne, q⟩
    · exact ⟨l, ys, List.getElem?_set_self hs, h1, h2, h3, fun _ => h5, fun z => absurd rfl z⟩
    · have w := s.slot j sl q
      rw [List.getElem?_set_ne (Ne.symm ne)]
      exact w
  · rcases back h with ⟨e1, e2⟩ | ⟨n1, o1⟩
    · rcases back h' with ⟨e3, _⟩ | ⟨_, o2⟩
      · rw [e1, e3]
      · subst e2; exact absurd ⟨_, o2⟩ h4
    · rcases back h' with ⟨_, e4⟩ | ⟨_, o2⟩
      · subst e4; exact absurd ⟨_, o1⟩ h4
      · exact s.inj _ _ _ o1 o2
  · rcases back h with ⟨_, e⟩ | ⟨_, o⟩
    · exact .inr e
    · exact .inl ⟨j, o⟩
/-- a dict of one's own is stored -/
theorem Sr.putDic (s : Sr K γ G H env σ) {i : Nat} {xs : List (D × D)} {ys : List (Key × V)} {l : Addr} (hi : i < env.length) (h1 : G l = none) (h2 : H l = some (.dK ys)) (h3 : PuK K G xs ys) (h4 : ¬ Ow env σ l) (h5 : γ.h0 l = none) :
    Sr K γ G H (env.set i (.dic xs)) (σ.set i (some (.ref l))) ∧ ∀ a, Ow (env.set i (.dic xs)) (σ.set i (some (.ref l))) a → Ow env σ a ∨ a = l := by
  have hs : i < σ.length := by rw [← s.len]; exact hi
  have back : ∀ {j a}, OwnAt (env.set i (.dic xs)) (σ.set i (some (.ref l))) j a → (j = i ∧ a = l) ∨ (j ≠ i ∧ OwnAt env σ j a) := fun {j a} ⟨⟨t, e, io⟩, h⟩ => by
    rcases get_set e with ⟨e1, q⟩ | ⟨ne, q⟩
    · rw [e1, List.getElem?_set_self hs] at h
      cases h
      exact .inl ⟨e1, rfl⟩
    · rw [List.getElem?_set_ne (Ne.symm ne)] at h
      exact .inr ⟨ne, ⟨t, q, io⟩, h⟩
  refine ⟨⟨s.sub, by simpa using s.len, fun j sl e => ?_, fun j j' a h h' => ?_⟩, fun a ⟨j, h⟩ => ?_⟩
  · rcases get_set e with ⟨rfl, rfl⟩ | ⟨ne, q⟩
    · exact ⟨l, ys, List.getElem?_set_self hs, h1, h2, h3, h5⟩
    · have w := s.slot j sl q
      rw [List.getElem?_set_ne (Ne.symm ne)]
      exact w
  · rcases back h with ⟨e1, e2⟩ | ⟨n1, o1⟩
    · rcases back h' with ⟨e3, _⟩ | ⟨_, o2⟩
      · rw [e1, e3]
      · subst e2; exact absurd ⟨_, o2⟩ h4
    · rcases back h' with ⟨_, e4⟩ | ⟨_, o2⟩
      · subst e4; exact absurd ⟨_, o1⟩ h4
      · exact s.inj _ _ _ o1 o2
  · rcases back h with ⟨_, e⟩ | ⟨_, o⟩
    · exact .inr e
    · exact .inl ⟨j, o⟩
end
section
variable {X : Cx} {F : FT} {C : List D} {γ : Gam} {e o : Expr} {ie : IE} {es : List Expr} {it : IT} {its : ITs} {pos p : Pos}
def gT (F : FT) (C : List D) (K : PySem.W.Frag) (γ : Gam) (it : IT) : TG := fun v σ H Q => ∃ G env d env', Sr K γ G H env σ ∧ Pu K G d v ∧ asgT F C it d env = some env' ∧
  ∀ G' H' σ', Sr K γ G' H' env' σ' → Step (Ow env σ) G H (Ow env' σ') G' H' → (∀ vs, (∀ i ∈ tgS it, i ∈ vs) → wipe σ' vs = wipe σ vs) → Q σ' H'
def gTs (F : FT) (C : List D) (K : PySem.W.Frag) (γ : Gam) (its : ITs) : TGs := fun xs σ H Q => ∃ G env ds env', Sr K γ G H env σ ∧ PuA K G ds xs ∧ asgTs F C its ds env = some env' ∧
  ∀ G' H' σ', Sr K γ G' H' env' σ' → Step (Ow env σ) G H (Ow env' σ') G' H' → (∀ vs, (∀ i ∈ tgSs its, i ∈ vs) → wipe σ' vs = wipe σ vs) → Q σ' H'
theorem PG.weak {t t' : TG} (h : PG X e t) (w : ∀ v σ H Q, t' v σ H Q → t v σ H Q) : PG X e t' := ⟨fun pins s σ H v u Q I r q => h.run pins s σ H v u Q I r (w _ _ _ _ q)⟩
theorem PGs.weak {t t' : TGs} (h : PGs X es t) (w : ∀ v σ H Q, t' v σ H Q → t v σ H Q) : PGs X es t' := ⟨fun pins s σ H v u Q I r q => h.run pins s σ H v u Q I r (w _ _ _ _ q)⟩
theorem g_nm {i : Nat} {x : Str} (hN : X.N.Nodup) (hi : X.N[i]? = some x) (hx : Loc X.env.scope x) (hf : X.fn x = true ∨ X.env.scope.names.lookup x = some .local) : PG X (.Name x pos) (gT F C X.K γ (.nm i)) := by
  refine PG.weak (pg_name hN hi hx hf) fun v σ H Q ⟨G, env, d, env', sr, p, ev, k⟩ => ?_
  simp only [asgT, putv] at ev
  split at ev
  · rename_i hl
    cases ev
    obtain ⟨s1, st1⟩ := sr.put (blt_lt hl) p
    exact k G H _ s1 st1 fun vs h => wipe_set σ i _ (h i (by simp [tgS]))
  · cases ev
theorem gs_nil : PGs X [] (gTs F C X.K γ .nil) := PGs.weak pgs_nil fun xs σ H Q ⟨G, env, ds, env', sr, p, ev, k⟩ => by
  cases ds with
  | nil =>
    simp only [asgTs] at ev
    cases ev
    cases p
    exact ⟨rfl, k G H σ sr Step.refl fun _ _ => rfl⟩
  | cons d ds => simp only [asgTs] at ev; cases ev
theorem gs_cons (hs : notStar e = true) (h1 : PG X e (gT F C X.K γ it)) (h2 : PGs X es (gTs F C X.K γ its)) : PGs X (e :: es) (gTs F C X.K γ (.cons it its)) :=
  PGs.weak (pgs_cons h1 h2 (by rw [asg_cons hs]; rfl)) fun xs σ H Q ⟨G, env, ds, env', sr, p, ev, k⟩ => by
  cases ds with
  | nil => simp only [asgTs] at ev; cases ev
  | cons d ds =>
    simp only [asgTs] at ev
    split at ev
    · cases ev
    rename_i e1 hd
    cases p with
    | cons pd pr =>
      refine ⟨_, _, rfl, G, env, d, e1, sr, pd, hd, fun G1 H1 σ1 s1 st1 w1 => ?_⟩
      refine ⟨G1, e1, ds, env', s1, pr.mono st1.g, ev, fun G2 H2 σ2 s2 st2 w2 => k G2 H2 σ2 s2 (st1.trans st2) fun vs h => ?_⟩
      rw [w2 vs fun i hi => h i (by simp [tgSs, hi]), w1 vs fun i hi => h i (by simp [tgSs, hi])]
def ITs.len : ITs → Nat
  | .nil => 0
  | .cons _ r => r.len + 1
theorem asgTs_len : ∀ {its : ITs} {ds : List D} {env env' : Ev}, asgTs F C its ds env = some env' → ds.length = its.len
  | .nil, [], _, _, _ => rfl
  | .nil, _ :: _, _, _, h => by simp only [asgTs] at h; cases h
  | .cons _ _, [], _, _, h => by simp only [asgTs] at h; cases h
  | .cons t ts, d :: ds, _, _, h => by
    simp only [asgTs] at h
    split at h
    · cases h
    · simp [ITs.len, asgTs_len h]
theorem chkTs_len {pg : Pg} {c : SC} : ∀ {its : ITs} {es : List Expr}, chkTs pg c its es = true → its.len = es.length ∧ noStars es = true
  | .nil, [], _ => ⟨rfl, rfl⟩
  | .nil, _ :: _, h => by simp [chkTs] at h
  | .cons _ _, [], h => by simp [chkTs] at h
  | .cons t ts, e :: es, h => by
    simp only [chkTs] at h
    obtain ⟨h1, h2⟩ := ands h
    obtain ⟨h0, h1⟩ := ands h1
    obtain ⟨a, b⟩ := chkTs_len h2
    exact ⟨by simp [ITs.len, a], by simp [noStars, h0, b]⟩
theorem g_tp {kk : Nat} (hc : X.calm = true) (hl : its.len = es.length) (hs : noStars es = true) (h : PGs X es (gTs F C X.K γ its)) : PG X (.Tuple es kk pos) (gT F C X.K γ (.tp its)) := by
  refine PG.weak (pg_tup hc h (asg_len) (asg_nost hs)) fun v σ H Q ⟨G, env, d, env', sr, p, ev, k⟩ => ?_
  cases d <;> simp only [asgT] at ev <;> (try cases ev)
  rename_i ds
  cases p with
  | tup q pa => exact ⟨_, _, rfl, sqT_sub sr.sub q, by rw [← pa.length, asgTs_len ev, hl], G, env, ds, env', sr, pa, ev, fun G' H' σ' s st w => k G' H' σ' s st fun vs h => w vs (by simpa [tgS] using h)⟩
theorem g_sub {i : Nat} {x : Str} {ip : Pos} (hN : X.N[i]? = some x) (hv : Vis X.env.scope x) (hd : (x == ("__debug__" : Str)) = false) (hcd : (x == ("__classdict__" : Str)) = false) (hs : notSlice e = true) (he : PE X e (tE F C X.K γ ie)) :
    PG X (.Subscript (.Name x ip) e pos) (gT F C X.K γ (.sub i ie)) := by
  refine PG.weak (pg_sub (pe_var hN hv hd hcd) he set_list (asg_sub hs)) fun v σ H Q ⟨G, env, d, env', sr, p, ev, k⟩ => ?_
  simp only [asgT] at ev
  split at ev
  · rename_i t0 xs0 q0
    obtain ⟨l, _, hσ, _⟩ := sr.ow_at q0
    split at ev
    · rename_i kk e1 h1
      simp only [setAt] at ev
      split at ev
      · rename_i t xs j q
        split at ev
        · rename_i m hm
          cases ev
          refine ⟨.ref l, hσ, G, env, _, e1, sr, h1, fun G1 H1 y s1 st1 r1 => ?_⟩
          obtain ⟨l', ys, a1, a2, a3, a4, _⟩ := s1.ow_at q
          rw [hσ] at a1; cases a1
          have hj := opd_int r1
          subst hj
          obtain ⟨m1, m2⟩ := s1.mut q hσ (a4.set (p.mono st1.g) m)
          exact ⟨l, ys, j, m, rfl, rfl, a3, by rw [← a4.length]; exact hm, k _ _ σ m1 (st1.trans m2) fun _ _ => rfl⟩
        · cases ev
      · cases ev
    · cases ev
  · cases ev
end
end Rf

set_option Elab.async false
set_option linter.all false
set_option maxRecDepth 100000
set_option maxHeartbeats 4000000
/-! Rf: list comprehensions. -/
namespace Rf
open PySem PySem.Spec PyProof.Rows L2

theorem wipeE_get {env : Ev} : ∀ {is : List Nat} {j : Nat} {s : Sl}, (wipeE env is)[j]? = some s → (j ∈ is ∧ s = .emp) ∨ (j ∉ is ∧ env[j]? = some s)
  | [], _, _, h => .inr ⟨by simp, h⟩
  | i :: is, j, s, h => by
    unfold wipeE at h
    rcases get_set h with ⟨rfl, e⟩ | ⟨ne, h⟩
    · exact .inl ⟨by simp, e⟩
    · rcases wipeE_get h with ⟨a, b⟩ | ⟨a, b⟩
      · exact .inl ⟨List.mem_cons_of_mem _ a, b⟩
      · exact .inr ⟨by simp [a, ne], b⟩
theorem wipeE_len (env : Ev) : ∀ is : List Nat, (wipeE env is).length = env.length
  | [] => rfl
  | i :: is => by unfold wipeE; rw [List.length_set, wipeE_len env is]
theorem backE_get {e0 env : Ev} : ∀ {is : List Nat} {j : Nat} {s : Sl}, (backE e0 env is)[j]? = some s → (j ∈ is ∧ s = valOnly e0[j]?) ∨ (j ∉ is ∧ env[j]? = some s)
  | [], _, _, h => .inr ⟨by simp, h⟩
  | i :: is, j, s, h => by
    unfold backE at h
    rcases get_set h with ⟨rfl, e⟩ | ⟨ne, h⟩
    · exact .inl ⟨by simp, e⟩
    · rcases backE_get h with ⟨a, b⟩ | ⟨a, b⟩
      · exact .inl ⟨List.mem_cons_of_mem _ a, b⟩
      · exact .inr ⟨by simp [a, ne], b⟩
theorem backE_len (e0 env : Ev) : ∀ is : List Nat, (backE e0 env is).length = env.length
  | [] => rfl
  | i :: is => by unfold backE; rw [List.length_set, backE_len e0 env is]
theorem wipe_out {σ : L2.St} {j : Nat} : ∀ {is : List Nat}, j ∉ is → (wipe σ is)[j]? = σ[j]?
  | [], _ => rfl
  | i :: is, h => by
    simp only [List.mem_cons, not_or] at h
    unfold wipe
    rw [List.getElem?_set_ne (Ne.symm h.1), wipe_out h.2]
theorem wipe_id (σ : L2.St) (vs : List Nat) : wipe (wipe σ vs) vs = wipe σ vs := by
  apply List.ext_getElem?
  intro j
  by_cases h : j ∈ vs
  · have key : ∀ {τ : L2.St} {ws : List Nat}, j ∈ ws → (wipe τ ws)[j]? = if j < τ.length then some none else none := by
      intro τ ws
      induction ws with
      | nil => intro h; cases h
      | cons w ws ih =>
        intro h
        unfold wipe
        rw [List.getElem?_set]
        by_cases q : w = j
        · subst q; simp [wipe_length]
        · rw [if_neg q]
          rcases List.mem_cons.mp h with z | z
          · exact absurd z.symm q
          · exact ih z
    rw [key h, key h, wipe_length]
  · rw [wipe_out h]
section
variable {K : PySem.W.Frag} {γ : Gam} {G H G1 H1 : Hp} {env e1 : Ev} {σ : L2.St}
theorem ow_wipe {is : List Nat} {j : Nat} {a : Addr} (h : OwnAt (wipeE env is) (wipe σ is) j a) : OwnAt env σ j a ∧ j ∉ is := by
  obtain ⟨⟨t, e, io⟩, h⟩ := h
  rcases wipeE_get e with ⟨_, q⟩ | ⟨n, q⟩
  · subst q; cases io
  · rw [wipe_out n] at h
    exact ⟨⟨⟨t, q, io⟩, h⟩, n⟩
theorem Sr.wipe (s : Sr K γ G H env σ) (is : List Nat) : Sr K γ G H (wipeE env is) (wipe σ is) := by
  refine ⟨s.sub, by rw [wipeE_len, wipe_length]; exact s.len, fun j sl e => ?_, fun j j' a h h' => s.inj j j' a (ow_wipe h).1 (ow_wipe h').1⟩
  rcases wipeE_get e with ⟨_, q⟩ | ⟨n, q⟩
  · subst q; trivial
  · rw [wipe_out n]; exact s.slot j sl q
theorem Step.wipe {O : Addr → Prop} (st : Step O G H (Ow env σ) G1 H1) (is : List Nat) : Step O G H (Ow (wipeE env is) (L2.wipe σ is)) G1 H1 := st.sub fun a ⟨j, h⟩ => ⟨j, (ow_wipe h).1⟩
theorem ow_back {is : List Nat} {j : Nat} {a : Addr} (h : OwnAt (backE e1 env is) σ j a) : OwnAt env (L2.wipe σ is) j a := by
  obtain ⟨⟨t, e, io⟩, h⟩ := h
  rcases backE_get e with ⟨_, q⟩ | ⟨n, q⟩
  · unfold valOnly at q
    split at q <;> (subst q; cases io)
  · exact ⟨⟨t, q, io⟩, by rw [wipe_out n]; exact h⟩
theorem Sr.back {is : List Nat} (s1 : Sr K γ G1 H1 e1 σ) (s : Sr K γ G H env (L2.wipe σ is)) (sb : Sub G1 G) : Sr K γ G H (backE e1 env is) σ := by
  refine ⟨s.sub, by rw [backE_len, s.len, wipe_length], fun j sl e => ?_, fun j j' a h h' => s.inj j j' a (ow_back h) (ow_back h')⟩
  rcases backE_get e with ⟨_, q⟩ | ⟨n, q⟩
  · subst q
    unfold valOnly
    split
    · rename_i d hd
      obtain ⟨v, a, b⟩ := s1.slot j _ hd
      exact ⟨v, a, b.mono sb⟩
    · trivial
  · have w := s.slot j sl q
    rw [wipe_out n] at w
    exact w
/-- a list that no slot holds and nobody told is changed -/
theorem Sr.wr (s : Sr K γ G H env σ) {a : Addr} {o o' : HO} (hg : G a = none) (hn : ¬ Ow env σ a) (hf : ∀ ob u, o ≠ .frz ob u) (h : H a = some o) : Sr K γ G (upd H a o') env σ := by
  refine ⟨fun b u q => ?_, s.len, fun j sl e => ?_, s.inj⟩
  · rw [upd_ne (fun z => by subst z; rw [hg] at q; cases q)]; exact s.sub _ _ q
  · have w := s.slot j sl e
    cases sl with
    | emp => trivial
    | val d => exact w
    | own t xs =>
      obtain ⟨b, ys, e1, e2, e3, e4⟩ := w
      exact ⟨b, ys, e1, e2, by rw [upd_ne (fun z => hn (by subst z; exact ⟨j, ⟨_, e, rfl⟩, e1⟩))]; exact e3, e4⟩
    | dic xs =>
      obtain ⟨b, ys, e1, e2, e3, e4⟩ := w
      exact ⟨b, ys, e1, e2, by rw [upd_ne (fun z => hn (by subst z; exact ⟨j, ⟨_, e, rfl⟩, e1⟩))]; exact e3, e4⟩
    | scr t xs =>
      obtain ⟨b, ys, e1, e2, e3⟩ := w
      refine ⟨b, ys, e1, ?_, e3⟩
      rcases e2 with ⟨ob, e2⟩ | e2
      · exact .inl ⟨ob, by rw [upd_ne (fun z => by subst z; rw [h] at e2; cases e2; exact hf _ _ rfl)]; exact e2⟩
      · exact .inr e2
theorem Step.wr {O O1 : Addr → Prop} {Gs Hs : Hp} (st : Step O Gs Hs O1 G H) {a : Addr} {o : HO} (h : Hs a = none) : Step O Gs Hs O1 G (upd H a o) := by
  refine ⟨st.g, fun b u e n => ?_, st.n, fun b e => ?_, st.o⟩
  · rw [upd_ne (fun z => by subst z; rw [h] at e; cases e)]; exact st.h b u e n
  · by_cases q : b = a
    · subst q; rw [upd_same]; simp
    · rw [upd_ne q]; exact st.f b e
end

section
variable {X : Cx} {F : FT} {C : List D} {γ : Gam}
def tD (F : FT) (C : List D) (K : PySem.W.Frag) (γ : Gam) (io : IO) : TT := fun σ H Q => ∃ G env b env', Sr K γ G H env σ ∧ evD F C io env = some (b, env') ∧
  ∀ G' H', Sr K γ G' H' env' σ → Step (Ow env σ) G H (Ow env' σ) G' H' → Q b H'
theorem PTs.weak {ifs : List Expr} {t t' : TT} (h : PTs X ifs t) (w : ∀ σ H Q, t' σ H Q → t σ H Q) : PTs X ifs t' := ⟨fun pins s σ H Q I q => h.run pins s σ H Q I (w _ _ _ q)⟩
theorem d_non : PTs X [] (tD F C X.K γ .non) := PTs.weak pts_nil fun σ H Q ⟨G, env, b, env', sr, ev, k⟩ => by
  simp only [evD] at ev
  cases ev
  exact k G H sr Step.refl
theorem d_som {c : Expr} {ic : IE} (h : PT X c (tT F C X.K γ ic)) : PTs X [c] (tD F C X.K γ (.som ic)) := PTs.weak (pts_one h) fun σ H Q ⟨G, env, b, env', sr, ev, k⟩ => by
  simp only [evD] at ev
  split at ev
  · rename_i b' e1 h1
    cases ev
    exact ⟨G, env, _, _, sr, h1, k⟩
  · cases ev
theorem lc_red {elt : IE} {tg : IT} {it : II} {cd : IO} {own : List Nat} {σ : L2.St} {H0 : Hp} {Q : VK} (hs : ∀ i ∈ tgS tg, i ∈ own) (h : tE F C X.K γ (.lc elt tg it cd own) σ H0 Q) :
    tLc (tI F C X.K γ it) (gT F C X.K γ tg) (tD F C X.K γ cd) (tE F C X.K γ elt) own σ H0 Q := by
  obtain ⟨G0, env, o, env', sr, ev, k⟩ := h
  simp only [evE] at ev
  cases hI : evI F C it env with
  | none => rw [hI] at ev; cases ev
  | some p =>
  obtain ⟨ds, e1⟩ := p
  rw [hI] at ev
  simp only [lcV] at ev
  split at ev
  · cases ev
  rename_i tot e2 hL
  split at ev
  · rename_i hz
    have ho : o = .fr tot := by cases ev; rfl
    have he' : env' = backE e1 e2 own := by cases ev; rfl
    subst ho; subst he'
    have hz' := lenOk_le hz
    refine ⟨G0, env, ds, e1, sr, hI, fun G1 H1 J s1 st1 ir L hLn => ?_⟩
    have H0L : H0 L = none := st1.fb L hLn
    refine ⟨fun i m H => m = ds.length - i ∧ i ≤ ds.length ∧ ∃ Gc ec acc aD xs', Sr X.K γ Gc H ec (wipe σ own) ∧ Step (Ow env σ) G0 H0 (Ow ec (wipe σ own)) Gc H ∧ Sub G1 Gc ∧ Gc L = none ∧ H L = some (.lst acc) ∧ PuA X.K Gc aD acc ∧ ¬ Ow ec (wipe σ own) L ∧
      lcLoop (fun d e => asgT F C tg d e) (fun e => evD F C cd e) (fun e => frzE (evE F C elt e)) own (ds.drop i) ec = some (xs', e2) ∧ tot = aD ++ xs', ⟨ds.length, by simp, Nat.zero_le _, G1, wipeE e1 own, [], [], tot, ?_, ?_, Sub.refl _, none_of s1.sub hLn, upd_same, .nil, ?_, hL, rfl⟩, ?_⟩
    · exact (s1.wipe own).newH hLn
    · exact (st1.trans (Step.newH hLn)).wipe own
    · exact no_ow (s1.wipe own) hLn
    rintro i m H ⟨rfl, hi, Gc, ec, acc, aD, xs', sc, stc, sb, gL, hLc, pa, nL, hl, htot⟩
    by_cases hlt : i < ds.length
    · refine .inr ⟨ir.go i H (sb.trans sc.sub) hlt, fun H' => (ds.length - (i + 1)) = ds.length - (i + 1) ∧ i + 1 ≤ ds.length ∧ ∃ Gc ec acc aD xs', Sr X.K γ Gc H' ec (wipe σ own) ∧ Step (Ow env σ) G0 H0 (Ow ec (wipe σ own)) Gc H' ∧ Sub G1 Gc ∧ Gc L = none ∧ H' L = some (.lst acc) ∧ PuA X.K Gc aD acc ∧ ¬ Ow ec (wipe σ own) L ∧
        lcLoop (fun d e => asgT F C tg d e) (fun e => evD F C cd e) (fun e => frzE (evE F C elt e)) own (ds.drop (i + 1)) ec = some (xs', e2) ∧ tot = aD ++ xs', fun H' q => ⟨ds.length - (i + 1), by omega, q⟩, fun x H2 hy => ?_⟩
      obtain ⟨G2, ex2, px⟩ := ir.yld i H x H2 Gc sb sc.sub hy ds[i] (List.getElem?_eq_getElem hlt)
      have s2 := sc.ext ex2
      have st2 : Step (Ow ec (wipe σ own)) Gc H (Ow ec (wipe σ own)) G2 H2 := Step.ext ex2
      rw [List.drop_eq_getElem_cons hlt] at hl
      simp only [lcLoop] at hl
      split at hl
      · cases hl
      rename_i e3 h3
      refine ⟨G2, ec, ds[i], e3, s2, px, h3, fun G3 H3 σ3 s3 st3 w3 => ?_⟩
      have hw : wipe σ3 own = wipe σ own := by rw [w3 own hs, wipe_id]
      refine ⟨hw, ?_⟩
      split at hl
      · cases hl
      · rename_i e4 h4
        refine ⟨G3, e3, false, e4, s3, h4, fun G4 H4 s4 st4 => ?_⟩
        have stt := (st2.trans st3).trans st4
        have hn : H L ≠ none := by rw [hLc]; simp
        dsimp only
        rw [if_neg Bool.false_ne_true]
        refine ⟨rfl, hlt, G4, wipeE e4 own, acc, aD, xs', by rw [← hw]; exact s4.wipe own, by rw [← hw]; exact (stc.trans stt).wipe own, sb.trans stt.g, stt.n L hn gL nL, stt.h L _ hLc nL, pa.mono stt.g, ?_, hl, htot⟩
        rw [← hw]
        exact fun ⟨j, z⟩ => (stt.o L ⟨j, (ow_wipe z).1⟩).elim nL hn
      · rename_i e4 h4
        refine ⟨G3, e3, true, e4, s3, h4, fun G4 H4 s4 st4 => ?_⟩
        dsimp only
        rw [if_pos rfl]
        split at hl
        · cases hl
        rename_i y e5 h5
        split at hl
        · cases hl
        rename_i xs'' e6 h6
        cases hl
        -- the element
        cases hE : evE F C elt e4 with
        | none => rw [hE] at h5; cases h5
        | some q =>
        obtain ⟨oy, e5'⟩ := q
        rw [hE] at h5
        simp only [frzE] at h5
        split at h5
        · rename_i d5 hd5
          have ey : d5 = y := by cases h5; rfl
          have ee : e5' = e5 := by cases h5; rfl
          subst ey
          subst ee
          refine ⟨G4, e4, oy, _, s4, hE, fun G5 H5 yv s5 st5 r5 => ?_⟩
          obtain ⟨G6, s6, st6, _, py, _⟩ := frz_ok s5 st5 r5 hd5
          have stt := ((st2.trans st3).trans st4).trans st6
          have hn : H L ≠ none := by rw [hLc]; simp
          have gL6 := stt.n L hn gL nL
          have hL6 := stt.h L _ hLc nL
          have nL6 : ¬ Ow e5' σ3 L := fun z => (stt.o L z).elim nL hn
          refine ⟨acc, hL6, ?_, rfl, hlt, G6, wipeE e5' own, acc ++ [yv], aD ++ [d5], xs'', ?_, ?_, sb.trans stt.g, gL6, upd_same, (pa.mono stt.g).append (.cons py .nil), ?_, h6, by rw [htot, List.append_assoc]; rfl⟩
          · have := pa.length
            rw [htot, List.length_append, List.length_cons] at hz'
            omega
          · rw [← hw]; exact (s6.wr (o := .lst acc) gL6 nL6 (by intro _ _ z; cases z) hL6).wipe own
          · rw [← hw]; exact ((stc.trans stt).wr H0L).wipe own
          · rw [← hw]
            exact fun ⟨j, z⟩ => nL6 ⟨j, (ow_wipe z).1⟩
        · cases h5
    · have ei : i = ds.length := by omega
      subst ei
      rw [List.drop_length] at hl
      simp only [lcLoop] at hl
      cases hl
      rw [List.append_nil] at htot
      subst htot
      refine .inl ⟨ir.stop H (sb.trans sc.sub), k Gc H _ (s1.back sc sb) (stc.sub fun a ⟨j, z⟩ => ⟨j, ow_back z⟩) ⟨L, acc, rfl, gL, hLc, pa, fun ⟨j, z⟩ => nL ⟨j, ow_back z⟩, H0L⟩⟩
  · cases ev
end
end Rf

set_option Elab.async false
set_option linter.all false
set_option maxRecDepth 100000
set_option maxHeartbeats 4000000
/-! Rf: statements. -/
namespace Rf
open PySem PySem.Spec PyProof.Rows L2

def FlK (K : PySem.W.Frag) (γ : Gam) (G H : Hp) (env : Ev) (σ : L2.St) (D : Ends) : Fl → Prop
  | .nx e' => ∀ G' H' σ', Sr K γ G' H' e' σ' → Step (Ow env σ) G H (Ow e' σ') G' H' → D.nx σ' H'
  | .bk e' => ∀ G' H' σ', Sr K γ G' H' e' σ' → Step (Ow env σ) G H (Ow e' σ') G' H' → D.bk σ' H'
  | .ct e' => ∀ G' H' σ', Sr K γ G' H' e' σ' → Step (Ow env σ) G H (Ow e' σ') G' H' → D.ct σ' H'
  | .rt o e' => ∀ G' H' σ' x, Sr K γ G' H' e' σ' → Step (Ow env σ) G H (Ow e' σ') G' H' → OpdR K G' H' e' σ' H x o → D.rt x H'
def tS (F : FT) (C : List D) (K : PySem.W.Frag) (γ : Gam) (is : IS) : TS := fun D σ H => ∃ G env fl, (∀ a, H a = none → γ.h0 a = none) ∧ Sr K γ G H env σ ∧ evS F C is env = some fl ∧ FlK K γ G H env σ D fl
def tSs (F : FT) (C : List D) (K : PySem.W.Frag) (γ : Gam) (is : ISs) : TS := fun D σ H => ∃ G env fl, (∀ a, H a = none → γ.h0 a = none) ∧ Sr K γ G H env σ ∧ evSs F C is env = some fl ∧ FlK K γ G H env σ D fl
section
variable {K : PySem.W.Frag} {γ : Gam} {G H G1 H1 : Hp} {env env1 : Ev} {σ σ1 : L2.St} {D D' : Ends} {fl : Fl}
theorem OpdR.start' {K : PySem.W.Frag} {G H Hs Hs' : Hp} {env : Ev} {σ : L2.St} {x : V} {o : Opd} (r : OpdR K G H env σ Hs x o) (h : ∀ a, Hs a = none → Hs' a = none) : OpdR K G H env σ Hs' x o := r.start h
theorem FlK.later (k : FlK K γ G H env σ D fl) (st : Step (Ow env σ) G H (Ow env1 σ1) G1 H1) : FlK K γ G1 H1 env1 σ1 D fl := by
  cases fl with
  | nx e => exact fun G' H' σ' s st' => k G' H' σ' s (st.trans st')
  | bk e => exact fun G' H' σ' s st' => k G' H' σ' s (st.trans st')
  | ct e => exact fun G' H' σ' s st' => k G' H' σ' s (st.trans st')
  | rt o e => exact fun G' H' σ' x s st' r => k G' H' σ' x s (st.trans st') (r.start st.fb)
end
theorem PS.weak {X : Cx} {e : Stmt} {t t' : TS} (h : PS X e t) (w : ∀ D σ H, t' D σ H → t D σ H) : PS X e t' := ⟨fun pins s σ H D I q => h.run pins s σ H D I (w _ _ _ q)⟩
theorem PSs.weak {X : Cx} {e : List Stmt} {t t' : TS} (h : PSs X e t) (w : ∀ D σ H, t' D σ H → t D σ H) : PSs X e t' := ⟨fun pins s σ H D I q => h.run pins s σ H D I (w _ _ _ q)⟩

section
variable {X : Cx} {F : FT} {C : List D} {γ : Gam} {e tg iter : Expr} {ie ia ib ic : IE} {it : IT} {ii : II} {is : IS} {iss ia' ib' : ISs} {st : Stmt} {sts a b : List Stmt} {pos p : Pos}
theorem s_nil : PSs X [] (tSs F C X.K γ .nil) := PSs.weak pss_nil fun D σ H ⟨G, env, fl, h0, sr, ev, k⟩ => by
  simp only [evSs] at ev
  cases ev
  exact k G H σ sr Step.refl
theorem s_cons (h1 : PS X st (tS F C X.K γ is)) (h2 : PSs X sts (tSs F C X.K γ iss)) : PSs X (st :: sts) (tSs F C X.K γ (.cons is iss)) :=
  PSs.weak (pss_cons h1 h2) fun D σ H ⟨G, env, fl, h0, sr, ev, k⟩ => by
  simp only [evSs] at ev
  split at ev
  · rename_i e1 q
    exact ⟨G, env, .nx e1, h0, sr, q, fun G1 H1 σ1 s1 st1 => ⟨G1, e1, fl, fun a h => h0 a (st1.fb a h), s1, ev, k.later st1⟩⟩
  · rename_i q
    refine ⟨G, env, fl, h0, sr, ev, ?_⟩
    cases fl with
    | nx e1 => exact (q e1 ev).elim
    | bk e1 => exact k
    | ct e1 => exact k
    | rt o e1 => exact k
theorem s_pass : PS X (.Pass pos) (tS F C X.K γ .pass) := PS.weak ps_pass fun D σ H ⟨G, env, fl, h0, sr, ev, k⟩ => by
  simp only [evS] at ev
  cases ev
  exact k G H σ sr Step.refl
theorem s_doc {x j p'} : PS X (.Expr (.Constant (.str x) j p) p') (tS F C X.K γ .pass) := PS.weak ps_doc fun D σ H ⟨G, env, fl, h0, sr, ev, k⟩ => by
  simp only [evS] at ev
  cases ev
  exact k G H σ sr Step.refl
theorem s_brk : PS X (.Break pos) (tS F C X.K γ .brk) := PS.weak ps_break fun D σ H ⟨G, env, fl, h0, sr, ev, k⟩ => by
  simp only [evS] at ev
  cases ev
  exact k G H σ sr Step.refl
theorem s_cnt : PS X (.Continue pos) (tS F C X.K γ .cnt) := PS.weak ps_continue fun D σ H ⟨G, env, fl, h0, sr, ev, k⟩ => by
  simp only [evS] at ev
  cases ev
  exact k G H σ sr Step.refl
theorem s_nev : PS X st (tS F C X.K γ .nev) := PS.weak ps_never fun D σ H ⟨G, env, fl, h0, sr, ev, k⟩ => by
  simp only [evS] at ev
  cases ev
theorem s_ex (hs : swapsWith e none pos.line X.env = pure false) (he : PE X e (tE F C X.K γ ie)) : PS X (.Expr e pos) (tS F C X.K γ (.ex ie)) := PS.weak (ps_expr he hs) fun D σ H ⟨G, env, fl, h0, sr, ev, k⟩ => by
  simp only [evS] at ev
  split at ev
  · cases ev
  · rename_i o e1 h1
    cases ev
    exact ⟨G, env, o, e1, sr, h1, fun G1 H1 x s1 st1 r1 => k G1 H1 σ s1 st1⟩
theorem s_ret (he : PE X e (tE F C X.K γ ie)) : PS X (.Return (some e) pos) (tS F C X.K γ (.ret ie)) := PS.weak (ps_ret he) fun D σ H ⟨G, env, fl, h0, sr, ev, k⟩ => by
  simp only [evS] at ev
  split at ev
  · cases ev
  · rename_i o e1 h1
    cases ev
    exact ⟨G, env, o, e1, sr, h1, fun G1 H1 x s1 st1 r1 => k G1 H1 σ x s1 st1 r1⟩
theorem s_retN : PS X (.Return none pos) (tS F C X.K γ (.ret (.cst .none))) := PS.weak ps_retN fun D σ H ⟨G, env, fl, h0, sr, ev, k⟩ => by
  simp only [evS, evE] at ev
  cases ev
  exact k G H σ _ sr Step.refl .non
theorem s_if {c : Expr} (hc : PT X c (tT F C X.K γ ic)) (ha : PSs X a (tSs F C X.K γ ia')) (hb : PSs X b (tSs F C X.K γ ib')) : PS X (.If c a b pos) (tS F C X.K γ (.ite ic ia' ib')) :=
  PS.weak (ps_if hc ha hb) fun D σ H ⟨G, env, fl, h0, sr, ev, k⟩ => by
  simp only [evS] at ev
  split at ev
  · rename_i e1 h1
    refine ⟨G, env, true, e1, sr, h1, fun G1 H1 s1 st1 => ?_⟩
    show (if true = true then tSs F C X.K γ ia' D σ H1 else _)
    rw [if_pos rfl]
    exact ⟨G1, e1, fl, fun a h => h0 a (st1.fb a h), s1, ev, k.later st1⟩
  · rename_i e1 h1
    exact ⟨G, env, false, e1, sr, h1, fun G1 H1 s1 st1 => ⟨G1, e1, fl, fun a h => h0 a (st1.fb a h), s1, ev, k.later st1⟩⟩
  · cases ev
/-- a store, from the value's and the target's readings -/
theorem asg_red {σ : L2.St} {H : Hp} {D : Ends} (h : tS F C X.K γ (.asg it ie) D σ H) : tAsg (tE F C X.K γ ie) (gT F C X.K γ it) D σ H := by
  obtain ⟨G, env, fl, h0, sr, ev, k⟩ := h
  simp only [evS] at ev
  split at ev
  · cases ev
  rename_i o e1 h1
  split at ev
  · cases ev
  rename_i d hd
  obtain ⟨e2, h2, e⟩ := Option.map_eq_some_iff.mp ev
  cases e
  refine ⟨G, env, o, e1, sr, h1, fun G1 H1 x s1 st1 r1 => ?_⟩
  obtain ⟨G2, s2, st2, _, pd, _⟩ := frz_ok s1 st1 r1 hd
  exact ⟨G2, e1, d, e2, s2, pd, h2, fun G' H' σ' s st _ => k G' H' σ' s (st2.trans st)⟩
theorem s_asg (hs : swapsWithSole [tg] e pos.line X.env = pure false) (hw : swappedStores [tg] e X.env = pure none) (hst : notStar tg = true) (he : PE X e (tE F C X.K γ ie)) (hg : PG X tg (gT F C X.K γ it)) : PS X (.Assign [tg] e pos) (tS F C X.K γ (.asg it ie)) :=
  PS.weak (ps_asg he hg hs hw (by rw [asg_cons hst]; rfl)) fun D σ H h => asg_red h
/-- a name's store -/
theorem nm_red {i : Nat} {σ : L2.St} {H : Hp} {D : Ends} (h : tS F C X.K γ (.asg (.nm i) ie) D σ H) : tAsg (tE F C X.K γ ie) (gName i) D σ H := by
  obtain ⟨G, env, fl, h0, sr, ev, k⟩ := h
  simp only [evS] at ev
  split at ev
  · cases ev
  rename_i o e1 h1
  split at ev
  · cases ev
  rename_i d hd
  obtain ⟨e2, h2, e⟩ := Option.map_eq_some_iff.mp ev
  cases e
  refine ⟨G, env, o, e1, sr, h1, fun G1 H1 x s1 st1 r1 => ?_⟩
  obtain ⟨G2, s2, st2, _, pd, _⟩ := frz_ok s1 st1 r1 hd
  simp only [asgT, putv] at h2
  split at h2
  · rename_i hl
    cases h2
    obtain ⟨s3, st3⟩ := s2.put (blt_lt hl) pd
    exact k G2 H1 _ s3 (st2.trans st3)
  · cases h2
/-- a list of one's own -/
theorem own_red {i : Nat} {σ : L2.St} {H : Hp} {D : Ends} (h : tS F C X.K γ (.own i ie) D σ H) : tAsg (tE F C X.K γ ie) (gName i) D σ H := by
  obtain ⟨G, env, fl, h0, sr, ev, k⟩ := h
  simp only [evS] at ev
  split at ev
  · rename_i xs e1 h1
    obtain ⟨e2, h2, e⟩ := Option.map_eq_some_iff.mp ev
    cases e
    simp only [putv] at h2
    split at h2
    · rename_i hl
      cases h2
      refine ⟨G, env, _, e1, sr, h1, fun G1 H1 x s1 st1 r1 => ?_⟩
      obtain ⟨l, ys, rfl, q1, q2, q3, q4, q5⟩ := r1
      obtain ⟨s2, o2⟩ := s1.putOwn (blt_lt hl) q1 q2 q3 q4 (h0 l q5)
      refine k G1 H1 _ s2 ⟨st1.g, st1.h, st1.n, st1.f, fun a ha => ?_⟩
      rcases o2 a ha with z | z
      · exact st1.o a z
      · subst z; exact .inr q5
    · cases h2
  · rename_i xs e1 h1
    obtain ⟨e2, h2, e⟩ := Option.map_eq_some_iff.mp ev
    cases e
    simp only [putv] at h2
    split at h2
    · rename_i hl
      cases h2
      refine ⟨G, env, _, e1, sr, h1, fun G1 H1 x s1 st1 r1 => ?_⟩
      obtain ⟨l, ys, rfl, q1, q2, q3, q4, q5⟩ := r1
      obtain ⟨s2, o2⟩ := s1.putDic (blt_lt hl) q1 q2 q3 q4 (h0 l q5)
      refine k G1 H1 _ s2 ⟨st1.g, st1.h, st1.n, st1.f, fun a ha => ?_⟩
      rcases o2 a ha with z | z
      · exact st1.o a z
      · subst z; exact .inr q5
    · cases h2
  · cases ev

/-! ### loops -/
theorem s_for (hp : PassesOwn (model X.prog X.w) X.A X.env X.xe) (hc : X.calm = true) (hns : notSet iter = true) (hi : PI X tg iter (tI F C X.K γ ii)) (hg : PG X tg (gT F C X.K γ it)) (hb : PSs X b (tSs F C X.K γ iss)) :
    PS X (.For tg iter b [] pos) (tS F C X.K γ (.fo it ii iss)) :=
  PS.weak (ps_for hp hc hi hg hb (fold_no hns)) fun D σ H ⟨G, env, fl, h0, sr, ev, k⟩ => by
  simp only [evS] at ev
  split at ev
  · split at ev
    · cases ev
    rename_i ds e1 hI
    refine ⟨G, env, ds, e1, sr, hI, fun G1 H1 J s1 st1 ir => ?_⟩
    refine ⟨fun i m σc Hc => m = ds.length - i ∧ i ≤ ds.length ∧ ∃ Gc ec, Sr X.K γ Gc Hc ec σc ∧ Step (Ow env σ) G H (Ow ec σc) Gc Hc ∧ Sub G1 Gc ∧ foLoop (fun d e => asgT F C it d e) (fun e => evSs F C iss e) (ds.drop i) ec = some fl,
      ⟨ds.length, by simp, Nat.zero_le _, G1, e1, s1, st1, Sub.refl _, ev⟩, ?_⟩
    rintro i m σc Hc ⟨rfl, hi, Gc, ec, sc, stc, sb, hl⟩
    by_cases hlt : i < ds.length
    · refine .inr ⟨ir.go i Hc (sb.trans sc.sub) hlt, fun σ' H' => i + 1 ≤ ds.length ∧ ∃ Gc ec, Sr X.K γ Gc H' ec σ' ∧ Step (Ow env σ) G H (Ow ec σ') Gc H' ∧ Sub G1 Gc ∧ foLoop (fun d e => asgT F C it d e) (fun e => evSs F C iss e) (ds.drop (i + 1)) ec = some fl,
        fun σ' H' q => ⟨ds.length - (i + 1), by omega, rfl, q⟩, fun x H2 hy => ?_⟩
      obtain ⟨G2, ex2, px⟩ := ir.yld i Hc x H2 Gc sb sc.sub hy ds[i] (List.getElem?_eq_getElem hlt)
      have s2 := sc.ext ex2
      have st2 : Step (Ow ec σc) Gc Hc (Ow ec σc) G2 H2 := Step.ext ex2
      rw [List.drop_eq_getElem_cons hlt] at hl
      simp only [foLoop] at hl
      split at hl
      · cases hl
      rename_i e3 h3
      refine ⟨G2, ec, ds[i], e3, s2, px, h3, fun G3 H3 σ3 s3 st3 _ => ?_⟩
      have stt := (stc.trans st2).trans st3
      have hH : ∀ a, H3 a = none → γ.h0 a = none := fun a h => h0 a (stt.fb a h)
      split at hl
      · rename_i e4 h4
        exact ⟨G3, e3, .nx e4, hH, s3, h4, fun G4 H4 σ4 s4 st4 => ⟨hlt, G4, e4, s4, stt.trans st4, ((sb.trans st2.g).trans st3.g).trans st4.g, hl⟩⟩
      · rename_i e4 h4
        exact ⟨G3, e3, .ct e4, hH, s3, h4, fun G4 H4 σ4 s4 st4 => ⟨hlt, G4, e4, s4, stt.trans st4, ((sb.trans st2.g).trans st3.g).trans st4.g, hl⟩⟩
      · rename_i e4 h4
        cases hl
        exact ⟨G3, e3, .bk e4, hH, s3, h4, fun G4 H4 σ4 s4 st4 => k G4 H4 σ4 s4 (stt.trans st4)⟩
      · rename_i o e4 h4
        cases hl
        exact ⟨G3, e3, .rt o e4, hH, s3, h4, fun G4 H4 σ4 x4 s4 st4 r4 => k G4 H4 σ4 x4 s4 (stt.trans st4) (r4.start stt.fb)⟩
      · cases hl
    · have ei : i = ds.length := by omega
      subst ei
      rw [List.drop_length] at hl
      simp only [foLoop] at hl
      cases hl
      exact .inl ⟨ir.stop Hc (sb.trans sc.sub), k Gc Hc σc sc stc⟩
  · cases ev
theorem wh_test {env : Ev} {c : IE} {b : Bool} {e1 : Ev} (h : (match evE F C c env with
      | some (.pu (.bool k), e1) => some (k, e1)
      | _ => none) = some (b, e1)) : evE F C c env = some (.pu (.bool b), e1) := by
  split at h
  · rename_i k e q
    cases h
    exact q
  · cases h
theorem s_wh {c : Expr} (hp : PassesOwn (model X.prog X.w) X.A X.env X.xe) (hc : PT X c (tT F C X.K γ ic)) (hb : PSs X b (tSs F C X.K γ iss)) : PS X (.While c b [] pos) (tS F C X.K γ (.wh ic iss)) :=
  PS.weak (ps_while hp hc hb) fun D σ H ⟨G, env, fl, h0, sr, ev, k⟩ => by
  simp only [evS] at ev
  generalize (1000000 : Nat) = fuel at ev
  refine ⟨fun m σc Hc => ∃ Gc ec, Sr X.K γ Gc Hc ec σc ∧ Step (Ow env σ) G H (Ow ec σc) Gc Hc ∧ whLoop (fun e => match evE F C ic e with
      | some (.pu (.bool k), e1) => some (k, e1)
      | _ => none) (fun e => evSs F C iss e) m ec = some fl, ⟨fuel, G, env, sr, Step.refl, ev⟩, ?_⟩
  rintro m σc Hc ⟨Gc, ec, sc, stc, hl⟩
  cases m with
  | zero => simp only [whLoop] at hl; cases hl
  | succ m =>
    unfold whLoop at hl
    split at hl
    · cases hl
    · rename_i e1 h1
      cases hl
      exact ⟨Gc, ec, false, e1, sc, wh_test h1, fun G1 H1 s1 st1 => k G1 H1 σc s1 (stc.trans st1)⟩
    · rename_i e1 h1
      refine ⟨Gc, ec, true, e1, sc, wh_test h1, fun G1 H1 s1 st1 => ?_⟩
      dsimp only
      rw [if_pos rfl]
      have stt := stc.trans st1
      have hH : ∀ a, H1 a = none → γ.h0 a = none := fun a h => h0 a (stt.fb a h)
      refine ⟨fun σ' H' => ∃ Gc ec, Sr X.K γ Gc H' ec σ' ∧ Step (Ow env σ) G H (Ow ec σ') Gc H' ∧ whLoop (fun e => match evE F C ic e with
        | some (.pu (.bool k), e1) => some (k, e1)
        | _ => none) (fun e => evSs F C iss e) m ec = some fl, fun σ' H' q => ⟨m, Nat.lt_succ_self m, q⟩, ?_⟩
      split at hl
      · rename_i e4 h4
        exact ⟨G1, e1, .nx e4, hH, s1, h4, fun G4 H4 σ4 s4 st4 => ⟨G4, e4, s4, stt.trans st4, hl⟩⟩
      · rename_i e4 h4
        exact ⟨G1, e1, .ct e4, hH, s1, h4, fun G4 H4 σ4 s4 st4 => ⟨G4, e4, s4, stt.trans st4, hl⟩⟩
      · rename_i e4 h4
        cases hl
        exact ⟨G1, e1, .bk e4, hH, s1, h4, fun G4 H4 σ4 s4 st4 => k G4 H4 σ4 s4 (stt.trans st4)⟩
      · rename_i o e4 h4
        cases hl
        exact ⟨G1, e1, .rt o e4, hH, s1, h4, fun G4 H4 σ4 x4 s4 st4 r4 => k G4 H4 σ4 x4 s4 (stt.trans st4) (r4.start stt.fb)⟩
      · cases hl
end
end Rf

set_option Elab.async false
set_option linter.all false
set_option maxRecDepth 100000
set_option maxHeartbeats 4000000
/-! Rf: several names stored at once. -/
namespace Rf
open PySem PySem.Spec PyProof.Rows L2

def isNew : Opd → Bool
  | .fr _ => true
  | .fd _ => true
  | _ => false
def frAt (o : Opd) (x : V) (c : Addr) : Prop := isNew o = true ∧ x = .ref c
section
variable {K : PySem.W.Frag} {γ : Gam} {G H G0 H0 : Hp} {env env0 env' : Ev} {σ σ0 : L2.St} {o o' : Opd} {x y : V}
theorem slot_ok {u : Bool} {sl : Sl} {i : Nat} (s : Sr K γ G H env σ) (st : Step (Ow env0 σ0) G0 H0 (Ow env σ) G H) (r : OpdR K G H env σ H0 x o) (e : slotOf u o = some sl) (p : putv env i sl = some env') (h0 : ∀ a, H0 a = none → γ.h0 a = none) :
    ∃ G', Sr K γ G' H env' (σ.set i (some x)) ∧ Step (Ow env0 σ0) G0 H0 (Ow env' (σ.set i (some x))) G' H ∧ Sub G G' ∧ (∀ c, G c = none → ¬ frAt o x c → G' c = none) ∧ ∀ c, ¬ Ow env σ c → ¬ frAt o x c → ¬ Ow env' (σ.set i (some x)) c := by
  simp only [putv] at p
  split at p
  · rename_i hl
    cases p
    have hl' := blt_lt hl
    cases o with
    | bo i => cases e
    | fo xs => cases e
    | pu d =>
      cases u with
      | true => cases e
      | false =>
        simp only [slotOf] at e
        cases e
        obtain ⟨s1, st1⟩ := s.put hl' r
        refine ⟨G, s1, st.trans st1, Sub.refl G, fun c h _ => h, fun c h _ z => ?_⟩
        obtain ⟨j, ⟨⟨t, q, io⟩, w⟩⟩ := z
        rcases get_set q with ⟨_, q⟩ | ⟨ne, q⟩
        · subst q; cases io
        · rw [List.getElem?_set_ne (Ne.symm ne)] at w
          exact h ⟨j, ⟨t, q, io⟩, w⟩
    | fr xs =>
      cases u with
      | true =>
        simp only [slotOf] at e
        cases e
        obtain ⟨l, ys, rfl, q1, q2, q3, q4, q5⟩ := r
        obtain ⟨s2, o2⟩ := s.putOwn hl' q1 q2 q3 q4 (h0 l q5)
        refine ⟨G, s2, ⟨st.g, st.h, st.n, st.f, fun a ha => ?_⟩, Sub.refl G, fun c h _ => h, fun c h n z => ?_⟩
        · rcases o2 a ha with z | z
          · exact st.o a z
          · subst z; exact .inr q5
        · rcases o2 c z with w | w
          · exact h w
          · subst w; exact n ⟨rfl, rfl⟩
      | false =>
        simp only [slotOf] at e
        cases e
        obtain ⟨G1, s1, st1, sb, pd, ot⟩ := frz_ok (d := .list xs) s st r rfl
        obtain ⟨s2, st2⟩ := s1.put hl' pd
        refine ⟨G1, s2, st1.trans st2, sb, fun c h n => ?_, fun c h n z => ?_⟩
        · obtain ⟨l, ys, rfl, q1, q2, q3, q4, q5⟩ := r
          cases hc : H c with
          | none => exact none_of s1.sub hc
          | some ob =>
            rcases ot c (by rw [hc]; simp) with w | w
            · rw [w]; exact h
            · exact absurd ⟨rfl, w⟩ n
        · obtain ⟨j, ⟨⟨t, q, io⟩, w⟩⟩ := z
          rcases get_set q with ⟨_, q⟩ | ⟨ne, q⟩
          · subst q; cases io
          · rw [List.getElem?_set_ne (Ne.symm ne)] at w
            exact h ⟨j, ⟨t, q, io⟩, w⟩
    | fd xs =>
      cases u with
      | true =>
        simp only [slotOf] at e
        cases e
        obtain ⟨l, ys, rfl, q1, q2, q3, q4, q5⟩ := r
        obtain ⟨s2, o2⟩ := s.putDic hl' q1 q2 q3 q4 (h0 l q5)
        refine ⟨G, s2, ⟨st.g, st.h, st.n, st.f, fun a ha => ?_⟩, Sub.refl G, fun c h _ => h, fun c h n z => ?_⟩
        · rcases o2 a ha with z | z
          · exact st.o a z
          · subst z; exact .inr q5
        · rcases o2 c z with w | w
          · exact h w
          · subst w; exact n ⟨rfl, rfl⟩
      | false =>
        simp only [slotOf] at e
        cases e
        obtain ⟨G1, s1, st1, sb, pd, ot⟩ := frz_ok (d := .dict xs) s st r rfl
        obtain ⟨s2, st2⟩ := s1.put hl' pd
        refine ⟨G1, s2, st1.trans st2, sb, fun c h n => ?_, fun c h n z => ?_⟩
        · obtain ⟨l, ys, rfl, q1, q2, q3, q4, q5⟩ := r
          cases hc : H c with
          | none => exact none_of s1.sub hc
          | some ob =>
            rcases ot c (by rw [hc]; simp) with w | w
            · rw [w]; exact h
            · exact absurd ⟨rfl, w⟩ n
        · obtain ⟨j, ⟨⟨t, q, io⟩, w⟩⟩ := z
          rcases get_set q with ⟨_, q⟩ | ⟨ne, q⟩
          · subst q; cases io
          · rw [List.getElem?_set_ne (Ne.symm ne)] at w
            exact h ⟨j, ⟨t, q, io⟩, w⟩
  · cases p
/-- another operand, behind such a store -/
theorem OpdR.kept {G' : Hp} {σ' : L2.St} {Hs : Hp} {u : Bool} {sl : Sl} (r : OpdR K G H env σ Hs y o') (e : slotOf u o' = some sl) (sb : Sub G G') (h1 : ∀ c, G c = none → ¬ frAt o x c → G' c = none) (h2 : ∀ c, ¬ Ow env σ c → ¬ frAt o x c → ¬ Ow env' σ' c) (ap : ∀ c, frAt o' y c → ¬ frAt o x c) :
    OpdR K G' H env' σ' Hs y o' := by
  cases o' with
  | bo i => cases e
  | fo xs => cases e
  | pu d => exact Pu.mono sb r
  | fr xs =>
    obtain ⟨l, ys, rfl, q1, q2, q3, q4, q5⟩ := r
    have n := ap l ⟨rfl, rfl⟩
    exact ⟨l, ys, rfl, h1 l q1 n, q2, q3.mono sb, h2 l q4 n, q5⟩
  | fd xs =>
    obtain ⟨l, ys, rfl, q1, q2, q3, q4, q5⟩ := r
    have n := ap l ⟨rfl, rfl⟩
    exact ⟨l, ys, rfl, h1 l q1 n, q2, q3.mono sb, h2 l q4 n, q5⟩
theorem apart {G1 H1 G2 H2 : Hp} {e1 e2 : Ev} (r1 : OpdR K G1 H1 e1 σ H0 x o) (r2 : OpdR K G2 H2 e2 σ H1 y o') : ∀ c, frAt o' y c → ¬ frAt o x c := fun c ⟨e, q⟩ ⟨e', q'⟩ => by
  subst q; subst q'
  have z1 : ∃ ob, H1 c = some ob := by
    cases o with
    | fr xs => obtain ⟨l, ys, w1, _, w2, _⟩ := r1; cases w1; exact ⟨_, w2⟩
    | fd xs => obtain ⟨l, ys, w1, _, w2, _⟩ := r1; cases w1; exact ⟨_, w2⟩
    | pu d => cases e'
    | bo i => cases e'
    | fo xs => cases e'
  have z2 : H1 c = none := by
    cases o' with
    | fr xs => obtain ⟨l, ys, w1, _, _, _, _, w2⟩ := r2; cases w1; exact w2
    | fd xs => obtain ⟨l, ys, w1, _, _, _, _, w2⟩ := r2; cases w1; exact w2
    | pu d => cases e
    | bo i => cases e
    | fo xs => cases e
  obtain ⟨ob, z1⟩ := z1
  rw [z1] at z2; cases z2
end

section
variable {X : Cx} {F : FT} {C : List D} {γ : Gam} {a b c : Expr} {ia ib ic : IE} {pos : Pos} {i j l : Nat} {u v w : Bool}
/-- the stores of two values, whichever way they go -/
theorem par2_run {σ : L2.St} {H : Hp} {D : Ends} (h : tS F C X.K γ (.par2 i j u v ia ib) D σ H) {P : List V → Hp → Prop} (hP : ∀ H1 x y, D.nx ((σ.set i (some x)).set j (some y)) H1 → (∀ p o, H1 p = none → D.nx ((σ.set i (some x)).set j (some y)) (upd H1 p o)) → P [x, y] H1) : tCons (tE F C X.K γ ia) (tCons (tE F C X.K γ ib) tNil) σ H P := by
  obtain ⟨G, env, fl, h0, sr, ev, k⟩ := h
  simp only [evS] at ev
  split at ev
  · cases ev
  rename_i ox e1 h1
  split at ev
  · cases ev
  rename_i sx hx
  split at ev
  · cases ev
  rename_i oy e2 h2
  split at ev
  · cases ev
  rename_i sy hy
  split at ev
  · cases ev
  rename_i e3 p1
  obtain ⟨e4, p2, e⟩ := Option.map_eq_some_iff.mp ev
  cases e
  refine ⟨G, env, ox, e1, sr, h1, fun G1 H1 x s1 st1 r1 => ⟨G1, e1, oy, e2, s1, h2, fun G2 H2 y s2 st2 r2 => ?_⟩⟩
  have stt := st1.trans st2
  obtain ⟨G3, s3, st3, sb3, g3, o3⟩ := slot_ok s2 stt (r1.later st2) hx p1 h0
  have r3 := OpdR.kept (env' := e3) (σ' := σ.set i (some x)) (r2.start st1.fb) hy sb3 g3 o3 (apart r1 r2)
  obtain ⟨G4, s4, st4, _⟩ := slot_ok s3 st3 r3 hy p2 h0
  exact hP H2 x y (k G4 H2 _ s4 st4) fun p o hp => k G4 _ _ (s4.newH hp) (st4.trans (Step.newH hp))
theorem par3_run {σ : L2.St} {H : Hp} {D : Ends} (h : tS F C X.K γ (.par3 i j l u v w ia ib ic) D σ H) {P : List V → Hp → Prop} (hP : ∀ H1 x y z, D.nx (((σ.set i (some x)).set j (some y)).set l (some z)) H1 → (∀ p o, H1 p = none → D.nx (((σ.set i (some x)).set j (some y)).set l (some z)) (upd H1 p o)) → P [x, y, z] H1) : tCons (tE F C X.K γ ia) (tCons (tE F C X.K γ ib) (tCons (tE F C X.K γ ic) tNil)) σ H P := by
  obtain ⟨G, env, fl, h0, sr, ev, k⟩ := h
  simp only [evS] at ev
  split at ev
  · cases ev
  rename_i ox e1 h1
  split at ev
  · cases ev
  rename_i sx hx
  split at ev
  · cases ev
  rename_i oy e2 h2
  split at ev
  · cases ev
  rename_i sy hy
  split at ev
  · cases ev
  rename_i oz e3 h3
  split at ev
  · cases ev
  rename_i sz hz
  split at ev
  · cases ev
  rename_i e4 p1
  split at ev
  · cases ev
  rename_i e5 p2
  obtain ⟨e6, p3, e⟩ := Option.map_eq_some_iff.mp ev
  cases e
  refine ⟨G, env, ox, e1, sr, h1, fun G1 H1 x s1 st1 r1 => ⟨G1, e1, oy, e2, s1, h2, fun G2 H2 y s2 st2 r2 => ⟨G2, e2, oz, e3, s2, h3, fun G3 H3 z s3 st3 r3 => ?_⟩⟩⟩
  have stt := (st1.trans st2).trans st3
  obtain ⟨G4, s4, st4, sb4, g4, o4⟩ := slot_ok s3 stt ((r1.later st2).later st3) hx p1 h0
  have r3' := OpdR.kept (env' := e4) (σ' := σ.set i (some x)) (r3.start (st1.trans st2).fb) hz sb4 g4 o4 (apart (r1.later st2) r3)
  have r2' := OpdR.kept (env' := e4) (σ' := σ.set i (some x)) ((r2.later st3).start st1.fb) hy sb4 g4 o4 (apart r1 (r2.later st3))
  obtain ⟨G5, s5, st5, sb5, g5, o5⟩ := slot_ok s4 st4 r2' hy p2 h0
  have r3'' := OpdR.kept (env' := e5) (σ' := (σ.set i (some x)).set j (some y)) r3' hz sb5 g5 o5 (apart r2 r3)
  obtain ⟨G6, s6, st6, _⟩ := slot_ok s5 st5 r3'' hz p3 h0
  exact hP H3 x y z (k G6 H3 _ s6 st6) fun p o hp => k G6 _ _ (s6.newH hp) (st6.trans (Step.newH hp))

/-! ### which way the stores go -/
def isLoc (sc : Scope) (x : Str) : Bool := match sc.names.lookup x with
  | some .local => true
  | _ => false
theorem isLoc_of {sc : Scope} {x : Str} (h : isLoc sc x = true) : sc.names.lookup x = some .local := by
  unfold isLoc at h
  split at h
  · assumption
  · cases h
theorem isLoc_eq {env : Env} {x : Str} : (env.kindOf x == some .local) = isLoc env.scope x := by
  unfold isLoc Env.kindOf
  cases env.scope.names.lookup x with
  | none => rfl
  | some k => cases k <;> rfl
def isFun (sc : Scope) : Bool := match sc.kind with
  | .function => true
  | _ => false
theorem isFun_of {sc : Scope} (h : isFun sc = true) : sc.kind = .function := by
  unfold isFun at h
  split at h
  · assumption
  · cases h
theorem blk_fun {env : Env} (h : env.scope.kind = .function) : env.blockKind = .function := by unfold Env.blockKind; rw [h]; rfl
/-- some true: swapped; some false: through the tuple -/
def sw2 (sc : Scope) (x y : Str) (px py : Pos) (a b : Expr) : Option Bool :=
  if isLoc sc x && isLoc sc y && (py.line == px.line) && !(x == y) then
    if foldedForSure 8 a && foldedForSure 8 b then some false else if constantsAlone 8 a && constantsAlone 8 b then none else some true
  else some false
def sw3 (sc : Scope) (x y z : Str) (px py pz : Pos) (a b c : Expr) : Option Bool :=
  if isLoc sc x && isLoc sc y && isLoc sc z && (py.line == px.line) && (pz.line == px.line) then
    if !(x == y) && !(x == z) && !(y == z) then
      if foldedForSure 8 a && foldedForSure 8 b && foldedForSure 8 c then some false else if constantsAlone 8 a && constantsAlone 8 b && constantsAlone 8 c then none else some true
    else none
  else some false
theorem star_not : ∀ e : Expr, (match e with | .Starred .. => true | _ => false) = !notStar e := by intro e; cases e <;> rfl
theorem ite_neg' {α : Type} {c : Prop} [Decidable c] {a b r : α} (h : ¬ c) (e : b = r) : (if c then a else b) = r := by rw [if_neg h]; exact e
theorem sw2_ok {env : Env} {x y : Str} {px py pt pt2 : Pos} {kt k2 : Nat} {a b : Expr} {r : Bool} (hk : env.scope.kind = .function) (ha : notStar a = true) (hb : notStar b = true) (h : sw2 env.scope x y px py a b = some r) :
    swappedStores [.Tuple [.Name x px, .Name y py] kt pt] (.Tuple [a, b] k2 pt2) env = pure (if r = true then some [x, y] else none) := by
  unfold swappedStores
  dsimp only [List.any_cons, List.any_nil, List.length_cons, List.length_nil, List.head?_cons, Option.map_some, Option.getD_some, List.filterMap_cons, List.filterMap_nil, List.all_cons, List.all_nil, Expr.pos]
  refine ite_neg' ?_ (ite_neg' (fun z => ?_) ?_)
  · rw [blk_fun hk]; decide
  · rcases (Bool.or_eq_true _ _).mp z with z | z
    · have z' := (star_not a).symm.trans z; rw [ha] at z'; cases z'
    · rcases (Bool.or_eq_true _ _).mp z with z | z
      · have z' := (star_not b).symm.trans z; rw [hb] at z'; cases z'
      · cases z
  · simp only [isLoc_eq, beq_self_eq_true, Bool.and_true] at h ⊢
    unfold sw2 at h
    generalize isLoc env.scope x = lx at h ⊢
    generalize isLoc env.scope y = ly at h ⊢
    generalize (py.line == px.line) = lp at h ⊢
    generalize foldedForSure 8 a = fa at h ⊢
    generalize foldedForSure 8 b = fb at h ⊢
    generalize constantsAlone 8 a = ca at h ⊢
    generalize constantsAlone 8 b = cb at h ⊢
    have ed : ([x, y].eraseDups.length != 2) = (x == y) := by
      by_cases q : x = y
      · subst q; simp [List.eraseDups_cons]
      · simp [List.eraseDups_cons, Ne.symm q, q]
    cases lx <;> cases ly <;> cases lp <;> simp at h ⊢
    all_goals (try (subst h; rfl))
    by_cases q : x = y
    · rw [if_pos q] at h
      have e2 : ¬ [x, y].eraseDups.length = 2 := by
        rw [q]; simp [List.eraseDups_cons]
      rw [if_neg e2]
      cases h; rfl
    · rw [if_neg q] at h
      have e2 : [x, y].eraseDups.length = 2 := by simp [List.eraseDups_cons, Ne.symm q]
      rw [if_pos e2]
      split at h
      · rename_i z
        rw [if_pos z]
        cases h; rfl
      · rename_i z
        rw [if_neg z]
        split at h
        · cases h
        · rename_i z'
          rw [if_neg z']
          cases h; rfl
theorem sw3_ok {env : Env} {x y w : Str} {px py pw pt pt2 : Pos} {kt k2 : Nat} {a b c : Expr} {r : Bool} (hk : env.scope.kind = .function) (ha : notStar a = true) (hb : notStar b = true) (hc : notStar c = true) (h : sw3 env.scope x y w px py pw a b c = some r) :
    swappedStores [.Tuple [.Name x px, .Name y py, .Name w pw] kt pt] (.Tuple [a, b, c] k2 pt2) env = pure (if r = true then some [x, y, w] else none) := by
  unfold swappedStores
  dsimp only [List.any_cons, List.any_nil, List.length_cons, List.length_nil, List.head?_cons, Option.map_some, Option.getD_some, List.filterMap_cons, List.filterMap_nil, List.all_cons, List.all_nil, Expr.pos]
  refine ite_neg' ?_ (ite_neg' (fun z => ?_) ?_)
  · rw [blk_fun hk]; decide
  · rcases (Bool.or_eq_true _ _).mp z with z | z
    · have z' := (star_not a).symm.trans z; rw [ha] at z'; cases z'
    · rcases (Bool.or_eq_true _ _).mp z with z | z
      · have z' := (star_not b).symm.trans z; rw [hb] at z'; cases z'
      · rcases (Bool.or_eq_true _ _).mp z with z | z
        · have z' := (star_not c).symm.trans z; rw [hc] at z'; cases z'
        · cases z
  · simp only [isLoc_eq, beq_self_eq_true, Bool.and_true] at h ⊢
    unfold sw3 at h
    generalize isLoc env.scope x = lx at h ⊢
    generalize isLoc env.scope y = ly at h ⊢
    generalize isLoc env.scope w = lw at h ⊢
    generalize (py.line == px.line) = lp at h ⊢
    generalize (pw.line == px.line) = lq at h ⊢
    generalize foldedForSure 8 a = fa at h ⊢
    generalize foldedForSure 8 b = fb at h ⊢
    generalize foldedForSure 8 c = fc at h ⊢
    generalize constantsAlone 8 a = ca at h ⊢
    generalize constantsAlone 8 b = cb at h ⊢
    generalize constantsAlone 8 c = cc at h ⊢
    cases lx <;> cases ly <;> cases lw <;> cases lp <;> cases lq <;> simp at h ⊢
    all_goals (try (subst h; rfl))
    obtain ⟨⟨⟨q1, q2⟩, q3⟩, h⟩ := h
    have e2 : [x, y, w].eraseDups.length = 3 := by simp [List.eraseDups_cons, Ne.symm q1, Ne.symm q2, Ne.symm q3]
    rw [if_pos e2]
    simp only [and_assoc] at h ⊢
    split at h
    · rename_i z
      rw [if_pos z]
      cases h; rfl
    · rename_i z
      rw [if_neg z]
      split at h
      · cases h
      · rename_i z'
        rw [if_neg z']
        cases h; rfl

/-! ### the rules -/
variable {x y z : Str} {px py pz pt pt2 : Pos} {kt k2 : Nat}
theorem s_par2 (hk : X.env.scope.kind = .function) (hc : X.calm = true) (hN : X.N.Nodup) (hi : X.N[i]? = some x) (hj : X.N[j]? = some y) (hij : i ≠ j) (hx : Loc X.env.scope x) (hy : Loc X.env.scope y)
    (fx : X.fn x = true ∨ X.env.scope.names.lookup x = some .local) (fy : X.fn y = true ∨ X.env.scope.names.lookup y = some .local) (sa : notStar a = true) (sb : notStar b = true) (ha : PE X a (tE F C X.K γ ia)) (hb : PE X b (tE F C X.K γ ib))
    {r : Bool} (h : sw2 X.env.scope x y px py a b = some r) (hl : r = true → X.env.scope.names.lookup x = some .local ∧ X.env.scope.names.lookup y = some .local) :
    PS X (.Assign [.Tuple [.Name x px, .Name y py] kt pt] (.Tuple [a, b] k2 pt2) pos) (tS F C X.K γ (.par2 i j u v ia ib)) := by
  have hw := sw2_ok (kt := kt) (k2 := k2) (pt := pt) (pt2 := pt2) hk sa sb h
  have pa := pa_cons ha (pa_cons hb pa_nil (star_cons sb)) (star_cons sa)
  cases r with
  | true =>
    rw [if_pos rfl] at hw
    obtain ⟨l1, l2⟩ := hl rfl
    exact PS.weak (ps_par hc hN hi hj hij l1 l2 pa hw) fun D σ H q => par2_run q fun H1 v w h1 _ => ⟨v, w, rfl, h1⟩
  | false =>
    rw [if_neg Bool.false_ne_true] at hw
    refine PS.weak (ps_asg (pe_tup pa) (pg_tup hc (pgs_cons (pg_name hN hi hx fx) (pgs_cons (pg_name hN hj hy fy) pgs_nil rfl) rfl)) rfl hw rfl) fun D σ H q => ?_
    show tCons (tE F C X.K γ ia) (tCons (tE F C X.K γ ib) tNil) σ H (fun xs H1 => xs.length ≤ sizeLine ∧ ∀ p, H1 p = none → gTup X.K 2 (gCons (gName i) (gCons (gName j) gNil)) (.ref p) σ (upd H1 p (.tup xs)) D.nx)
    refine par2_run q fun H1 v w _ h2 => ⟨by show 2 ≤ sizeLine; decide, fun p hp => ⟨p, [v, w], rfl, SqT.of upd_same, rfl, v, [w], rfl, w, [], rfl, rfl, h2 p _ hp⟩⟩
theorem s_par3 {l : Nat} (hk : X.env.scope.kind = .function) (hc : X.calm = true) (hN : X.N.Nodup) (hi : X.N[i]? = some x) (hj : X.N[j]? = some y) (hlz : X.N[l]? = some z) (hij : i ≠ j) (hil : i ≠ l) (hjl : j ≠ l) (hx : Loc X.env.scope x) (hy : Loc X.env.scope y) (hz : Loc X.env.scope z)
    (fx : X.fn x = true ∨ X.env.scope.names.lookup x = some .local) (fy : X.fn y = true ∨ X.env.scope.names.lookup y = some .local) (fz : X.fn z = true ∨ X.env.scope.names.lookup z = some .local) (sa : notStar a = true) (sb : notStar b = true) (sc : notStar c = true)
    (ha : PE X a (tE F C X.K γ ia)) (hb : PE X b (tE F C X.K γ ib)) (hcc : PE X c (tE F C X.K γ ic))
    {r : Bool} (h : sw3 X.env.scope x y z px py pz a b c = some r) (hl : r = true → X.env.scope.names.lookup x = some .local ∧ X.env.scope.names.lookup y = some .local ∧ X.env.scope.names.lookup z = some .local) :
    PS X (.Assign [.Tuple [.Name x px, .Name y py, .Name z pz] kt pt] (.Tuple [a, b, c] k2 pt2) pos) (tS F C X.K γ (.par3 i j l u v w ia ib ic)) := by
  have hw := sw3_ok (kt := kt) (k2 := k2) (pt := pt) (pt2 := pt2) hk sa sb sc h
  have pa := pa_cons ha (pa_cons hb (pa_cons hcc pa_nil (star_cons sc)) (star_cons sb)) (star_cons sa)
  cases r with
  | true =>
    rw [if_pos rfl] at hw
    obtain ⟨l1, l2, l3⟩ := hl rfl
    exact PS.weak (ps_par3 hc hN hi hj hlz hij hil hjl l1 l2 l3 pa hw) fun D σ H q => par3_run q fun H1 v w z h1 _ => ⟨v, w, z, rfl, h1⟩
  | false =>
    rw [if_neg Bool.false_ne_true] at hw
    refine PS.weak (ps_asg (pe_tup pa) (pg_tup hc (pgs_cons (pg_name hN hi hx fx) (pgs_cons (pg_name hN hj hy fy) (pgs_cons (pg_name hN hlz hz fz) pgs_nil rfl) rfl) rfl)) rfl hw rfl) fun D σ H q => ?_
    show tCons (tE F C X.K γ ia) (tCons (tE F C X.K γ ib) (tCons (tE F C X.K γ ic) tNil)) σ H (fun xs H1 => xs.length ≤ sizeLine ∧ ∀ p, H1 p = none → gTup X.K 3 (gCons (gName i) (gCons (gName j) (gCons (gName l) gNil))) (.ref p) σ (upd H1 p (.tup xs)) D.nx)
    refine par3_run q fun H1 v w z _ h2 => ⟨by show 3 ≤ sizeLine; decide, fun p hp => ⟨p, [v, w, z], rfl, SqT.of upd_same, rfl, v, [w, z], rfl, w, [z], rfl, z, [], rfl, rfl, h2 p _ hp⟩⟩
end
end Rf

set_option Elab.async false
set_option linter.all false
set_option maxRecDepth 100000
set_option maxHeartbeats 4000000
/-! Rf: dicts with keys ints and texts. -/
namespace Rf
open PySem PySem.Spec PyProof.Rows L2

section
variable {K : PySem.W.Frag} {γ : Gam} {G H : Hp} {env : Ev} {σ : L2.St}
theorem keyD_kV {p : D} {k : Key} {x : V} (r : Pu K G p x) (e : keyD p = some k) : x = kV k := by
  cases r <;> simp only [keyD] at e <;> cases e <;> rfl
theorem isKey_ok {p : D} (h : isKey p = true) : ∃ k, keyD p = some k := Option.isSome_iff_exists.mp h
theorem keq_dec {p q : D} {k j : Key} (e1 : keyD p = some k) (e2 : keyD q = some j) : keq p q = decide (k = j) := by
  cases p <;> simp only [keyD] at e1 <;> cases e1 <;> cases q <;> simp only [keyD] at e2 <;> cases e2 <;> simp [keq]
theorem kget_ok {p : D} {k : Key} (e : keyD p = some k) : ∀ {kvs : List (D × D)} {qs : List (Key × V)}, PuK K G kvs qs → (kget kvs p = none ∧ valV qs k = none) ∨ ∃ d v, kget kvs p = some d ∧ valV qs k = some v ∧ Pu K G d v
  | _, _, .nil => .inl ⟨rfl, rfl⟩
  | _, _, .cons (p := p1) (k := k1) e1 a b => by
    have ih := kget_ok e b
    have q := keq_dec e1 e
    by_cases h : k1 = k
    · refine .inr ⟨_, _, ?_, valV_pos h, a⟩
      simp only [kget, q, decide_eq_true h, if_pos]
    · rw [valV_neg h]
      simp only [kget, q, decide_eq_false h]
      exact ih
theorem khas_ok {p : D} {k : Key} (e : keyD p = some k) {kvs : List (D × D)} {qs : List (Key × V)} (r : PuK K G kvs qs) : khas kvs p = (valV qs k).isSome := by
  unfold khas
  rcases kget_ok e r with ⟨h1, h2⟩ | ⟨d, v, h1, h2, _⟩ <;> rw [h1, h2] <;> rfl
theorem kmap_ok {p d : D} {k : Key} {v : V} (e : keyD p = some k) (pv : Pu K G d v) : ∀ {kvs : List (D × D)} {qs : List (Key × V)}, PuK K G kvs qs → PuK K G (kmap p d kvs) (qs.map fun kv => if kv.1 = k then (kv.1, v) else kv)
  | _, _, .nil => .nil
  | _, _, .cons (p := p1) (k := k1) e1 a b => by
    have ih := kmap_ok e pv b
    have q := keq_dec e1 e
    simp only [kmap, q, List.map_cons]
    by_cases h : k1 = k
    · rw [if_pos (decide_eq_true h), if_pos h]
      exact .cons e1 pv ih
    · rw [if_neg (by simpa using h), if_neg h]
      exact .cons e1 a ih
theorem PuK.append {ds es : List (D × D)} {vs ws : List (Key × V)} (h : PuK K G ds vs) (g : PuK K G es ws) : PuK K G (ds ++ es) (vs ++ ws) := by
  induction ds generalizing vs with
  | nil => cases h; exact g
  | cons p ds ih => cases h with | cons e a b => exact .cons e a (ih b)
theorem kput_ok {p d : D} {k : Key} {v : V} (e : keyD p = some k) (pv : Pu K G d v) {kvs : List (D × D)} {qs : List (Key × V)} (r : PuK K G kvs qs) : PuK K G (kput kvs p d) (putK qs k v) := by
  unfold kput putK
  rw [khas_ok e r, valV_any]
  split
  · exact kmap_ok e pv r
  · exact r.append (.cons e pv .nil)
theorem kmrg_ok : ∀ {more : List (D × D)} {ms : List (Key × V)} {kvs : List (D × D)} {qs : List (Key × V)}, PuK K G more ms → PuK K G kvs qs → PuK K G (kmrg kvs more) (mergeK qs ms)
  | _, _, _, _, .nil, r => r
  | _, _, _, _, .cons e a b, r => by
    have h := kmrg_ok b (kput_ok e a r)
    exact h
theorem prs_ok : ∀ {xs : List D} {ys : List V} {kvs : List (D × D)}, PuA K G xs ys → prsOf xs = some kvs → ∃ (ps : List Addr) (qs : List (Key × V)), ys = ps.map V.ref ∧ PuK K G kvs qs ∧ Paired (fun p kv => SqT K G p [kV kv.1, kv.2]) ps qs
  | [], _, _, .nil, h => by simp [prsOf] at h; subst h; exact ⟨[], [], rfl, .nil, .nil⟩
  | d :: xs, _, kvs, .cons (v := v) a b, h => by
    cases d <;> try (simp [prsOf] at h; done)
    rename_i ds
    rcases ds with _ | ⟨p, _ | ⟨q, _ | ⟨_, _⟩⟩⟩ <;> try (simp [prsOf] at h; done)
    simp only [prsOf] at h
    split at h
    · rename_i hk
      cases hr : prsOf xs with
      | none => rw [hr] at h; cases h
      | some r =>
        rw [hr] at h
        have h' := Option.some.inj h
        subst h'
        obtain ⟨ps, qs, e, pk, pr⟩ := prs_ok b hr
        obtain ⟨k, ek⟩ := isKey_ok hk
        cases a with
        | tup sq pa =>
          rename_i ad ws
          cases pa with
          | cons pp pr' =>
            cases pr' with
            | cons pq pn =>
              cases pn
              have e1 := keyD_kV pp ek
              subst e1
              refine ⟨ad :: ps, (k, _) :: qs, by rw [e]; rfl, .cons ek pq pk, .cons sq pr⟩
    · cases h
theorem paired_sub {H : Hp} (s : Sub G H) : ∀ {ps : List Addr} {qs : List (Key × V)}, Paired (fun p kv => SqT K G p [kV kv.1, kv.2]) ps qs → Paired (fun p kv => SqT K H p [kV kv.1, kv.2]) ps qs
  | _, _, .nil => .nil
  | _, _, .cons a b => .cons (sqT_sub s a) (paired_sub s b)
/-- the dict that slot i holds is changed -/
theorem Sr.mutD (s : Sr K γ G H env σ) {i : Nat} {kvs kvs' : List (D × D)} {a : Addr} {qs' : List (Key × V)} (e : env[i]? = some (.dic kvs)) (ha : σ[i]? = some (some (.ref a))) (p : PuK K G kvs' qs') :
    Sr K γ G (upd H a (.dK qs')) (env.set i (.dic kvs')) σ ∧ Step (Ow env σ) G H (Ow (env.set i (.dic kvs')) σ) G (upd H a (.dK qs')) := by
  obtain ⟨a', qs, h1, h2, h3, h4, h5⟩ := s.slot i _ e
  rw [ha] at h1; cases h1
  have own : OwnAt env σ i a := ⟨⟨_, e, rfl⟩, ha⟩
  have back : ∀ {j b}, OwnAt (env.set i (.dic kvs')) σ j b → OwnAt env σ j b := fun {j b} h => by
    obtain ⟨⟨u, q, io⟩, h1⟩ := h
    rcases get_set q with ⟨rfl, _⟩ | ⟨_, q⟩
    · exact ⟨⟨_, e, rfl⟩, h1⟩
    · exact ⟨⟨u, q, io⟩, h1⟩
  refine ⟨⟨fun b u q => ?_, by simpa using s.len, fun j sl q => ?_, fun j j' b q q' => s.inj j j' b (back q) (back q')⟩, ⟨Sub.refl G, fun b u q no => ?_, fun _ _ q _ => q, fun b q => ?_, fun b ⟨j, hj⟩ => .inl ⟨j, back hj⟩⟩⟩
  · rw [upd_ne (fun z => by subst z; rw [h2] at q; cases q)]; exact s.sub _ _ q
  · rcases get_set q with ⟨rfl, rfl⟩ | ⟨ne, q⟩
    · exact ⟨a, qs', ha, h2, upd_same, p, h5⟩
    · have r := s.slot j sl q
      cases sl with
      | emp => trivial
      | val d => exact r
      | own u zs =>
        obtain ⟨m, ws, e1, e2, e3, e4⟩ := r
        refine ⟨m, ws, e1, e2, ?_, e4⟩
        rw [upd_ne]
        · exact e3
        · rintro rfl
          exact ne (s.inj j i m ⟨⟨_, q, rfl⟩, e1⟩ own)
      | dic zs =>
        obtain ⟨m, ws, e1, e2, e3, e4⟩ := r
        refine ⟨m, ws, e1, e2, ?_, e4⟩
        rw [upd_ne]
        · exact e3
        · rintro rfl
          exact ne (s.inj j i m ⟨⟨_, q, rfl⟩, e1⟩ own)
      | scr u zs =>
        obtain ⟨m, ws, e1, e2, e3⟩ := r
        refine ⟨m, ws, e1, ?_, e3⟩
        rcases e2 with ⟨o, e2⟩ | e2
        · exact .inl ⟨o, by rw [upd_ne (fun z => by subst z; rw [h3] at e2; cases e2)]; exact e2⟩
        · exact .inr e2
  · rw [upd_ne (fun z => no (by subst z; exact ⟨i, own⟩))]; exact q
  · by_cases z : b = a
    · subst z; rw [upd_same]; simp
    · rw [upd_ne z]; exact q
end

section
variable {X : Cx} {F : FT} {C : List D} {γ : Gam} {a b c e f : Expr} {ia ib ic ie : IE} {es : List Expr} {ies : IEs} {pos p ap pos' : Pos}
theorem e_dnw : PE X (.Dict [] [] pos) (tE F C X.K γ .dnw) := PE.weak pe_dnewK fun σ H Q ⟨G, env, o, env', sr, ev, k⟩ => by
  simp only [evE] at ev
  cases ev
  exact fun q hq => RQ.fd (k.fin sr Step.refl) sr.sub .nil hq
theorem e_dix (hu : X.A.units + 65 < cLine) (hs : notSlice b = true) (ha : PE X a (tE F C X.K γ ia)) (hb : PE X b (tE F C X.K γ ib)) : PE X (.Subscript a b pos) (tE F C X.K γ (.dix ia ib)) := by
  refine PE.weak (pe_dget (by omega) ha hb (fun o i => plainIx hs o i)) fun σ H Q ⟨G, env, o, env', sr, ev, k⟩ => ?_
  simp only [evE] at ev
  split at ev
  · cases ev
  rename_i x e1 h1
  split at ev
  · rename_i p e2 h2
    split at ev
    · rename_i kvs h3
      split at ev
      · rename_i hk
        obtain ⟨d, hd, e⟩ := Option.map_eq_some_iff.mp ev
        cases e
        obtain ⟨kk, ek⟩ := isKey_ok hk
        refine ⟨G, env, x, e1, sr, h1, fun G1 H1 v s1 st1 r1 => ⟨G1, e1, _, _, s1, h2, fun G2 H2 u s2 st2 r2 => ?_⟩⟩
        obtain ⟨l, qs, rfl, hA, pk⟩ := (rds_ok s2 (r1.later st2) h3).dict s2.sub rfl
        have r2' : Pu X.K G2 p u := r2
        have eu := keyD_kV r2' ek
        subst eu
        rcases kget_ok ek pk with ⟨z, _⟩ | ⟨d', w, q1, q2, q3⟩
        · rw [z] at hd; cases hd
        · rw [hd] at q1; cases q1
          exact ⟨l, w, rfl, by rw [← q2]; exact DGet.k hA, k.pu s2 (st1.trans st2) q3⟩
      · cases ev
    · cases ev
  · cases ev
theorem din_red {n : Bool} {σ : L2.St} {H : Hp} {Q : VK} (h : tE F C X.K γ (.din n ia ib) σ H Q) : (n = false → tDIn (tE F C X.K γ ia) (tE F C X.K γ ib) σ H Q) ∧ (n = true → tDNotIn (tE F C X.K γ ia) (tE F C X.K γ ib) σ H Q) := by
  obtain ⟨G, env, o, env', sr, ev, k⟩ := h
  simp only [evE] at ev
  split at ev
  · rename_i p e1 h1
    split at ev
    · cases ev
    rename_i y e2 h2
    split at ev
    · rename_i kvs h3
      split at ev
      · rename_i hk
        cases ev
        obtain ⟨kk, ek⟩ := isKey_ok hk
        have go : ∀ {G1 H1 : Hp} {u : V}, Sr X.K γ G1 H1 e1 σ → Step (Ow env σ) G H (Ow e1 σ) G1 H1 → OpdR X.K G1 H1 e1 σ H u (.pu p) → ∀ {G2 H2 : Hp} {x : V}, Sr X.K γ G2 H2 env' σ → Step (Ow e1 σ) G1 H1 (Ow env' σ) G2 H2 → OpdR X.K G2 H2 env' σ H1 x y → ∃ l qs, x = .ref l ∧ H2 l = some (.dK qs) ∧ u = kV kk ∧ khas kvs p = (valV qs kk).isSome ∧ (∀ bb, bb = (khas kvs p != n) → Q (.bl bb) H2) := fun {G1 H1 u} s1 st1 r1 {G2 H2 x} s2 st2 r2 => by
          obtain ⟨l, qs, rfl, hA, pk⟩ := (rds_ok s2 r2 h3).dict s2.sub rfl
          have r1' : Pu X.K G1 p u := r1
          refine ⟨l, qs, rfl, hA, keyD_kV r1' ek, khas_ok ek pk, fun bb hb => ?_⟩
          subst hb
          exact k.pu s2 (st1.trans st2) (.bl _)
        refine ⟨fun hn => ?_, fun hn => ?_⟩ <;> subst hn
        · refine ⟨G, env, _, e1, sr, h1, fun G1 H1 v s1 st1 r1 => ⟨G1, e1, y, _, s1, h2, fun G2 H2 u s2 st2 r2 => ?_⟩⟩
          obtain ⟨l, qs, rfl, hA, eu, hh, fin⟩ := go s1 st1 r1 s2 st2 r2
          subst eu
          exact ⟨l, _, rfl, DGet.k hA, fin _ (by rw [hh]; simp)⟩
        · refine ⟨G, env, _, e1, sr, h1, fun G1 H1 v s1 st1 r1 => ⟨G1, e1, y, _, s1, h2, fun G2 H2 u s2 st2 r2 => ?_⟩⟩
          obtain ⟨l, qs, rfl, hA, eu, hh, fin⟩ := go s1 st1 r1 s2 st2 r2
          subst eu
          exact ⟨l, _, rfl, DGet.k hA, fin _ (by rw [hh]; simp)⟩
      · cases ev
    · cases ev
  · cases ev
theorem e_din {n : Bool} {op : CmpOp} (hu : X.A.units + 65 < cLine) (ho : (match n, op with | false, .In => true | true, .NotIn => true | _, _ => false) = true) (hs : notSet b = true) (ha : PE X a (tE F C X.K γ ia)) (hb : PE X b (tE F C X.K γ ib)) : PE X (.Compare a [op] [b] pos) (tE F C X.K γ (.din n ia ib)) := by
  cases n <;> cases op <;> first | (cases ho; done) | skip
  · exact PE.weak (pe_cmp (pc_din (by omega) ha hb) (mark_no hs)) fun _ _ _ h => (din_red h).1 rfl
  · exact PE.weak (pe_cmp (pc_dnotin (by omega) ha hb) (mark_no hs)) fun _ _ _ h => (din_red h).2 rfl
theorem t_din {n : Bool} {op : CmpOp} (hu : X.A.units + 65 < cLine) (ho : (match n, op with | false, .In => true | true, .NotIn => true | _, _ => false) = true) (hs : notSet b = true) (ha : PE X a (tE F C X.K γ ia)) (hb : PE X b (tE F C X.K γ ib)) : PT X (.Compare a [op] [b] pos) (tT F C X.K γ (.din n ia ib)) := by
  cases n <;> cases op <;> first | (cases ho; done) | skip
  · exact PT.weak (pt_cmp (pc_din (by omega) ha hb) (mark_no hs)) fun _ _ _ h => (din_red (tT_tE h)).1 rfl
  · exact PT.weak (pt_cmp (pc_dnotin (by omega) ha hb) (mark_no hs)) fun _ _ _ h => (din_red (tT_tE h)).2 rfl
theorem base_of (h : plainBase a = true) {m : Str} : attributeBase a m X.env (eval a X.env) = eval a X.env := by
  unfold plainBase at h
  split at h
  · rfl
  · rename_i fn _ _ _ _
    cases fn <;> rfl
  · cases h
theorem m2_of (h : plainBase a = true) (hl : (ap.endLine == pos.line) = true) (hb : notStar b = true) (hc : notStar c = true) {m : Str} : M2 X a m ap b c pos := by
  have st : noStars [b, c] = true := by simp [noStars, hb, hc]
  refine ⟨base_of h, ?_, hl, ?_⟩
  · rw [plain_all st]; rfl
  · rw [star_all st]; rfl
theorem e_dgt {n : Str} (hu : X.A.units + 65 < cLine) (hn : n = ("get" : Str)) (hp : plainBase a = true) (hl : (ap.endLine == pos.line) = true) (h1 : notStar b = true) (h2 : notStar c = true) (ha : PE X a (tE F C X.K γ ia)) (hb : PE X b (tE F C X.K γ ib)) (hc : PE X c (tE F C X.K γ ic)) :
    PE X (.Call (.Attribute a n ap) [b, c] [] pos) (tE F C X.K γ (.dgt ia ib ic)) := by
  subst hn
  refine PE.weak (pe_dget2 (by omega) ha hb hc (m2_of hp hl h1 h2)) fun σ H Q ⟨G, env, o, env', sr, ev, k⟩ => ?_
  simp only [evE] at ev
  split at ev
  · rename_i kvs e1 q1
    split at ev
    · rename_i p e2 q2
      split at ev
      · rename_i q e3 q3
        split at ev
        · rename_i hk
          cases ev
          obtain ⟨kk, ek⟩ := isKey_ok hk
          refine ⟨G, env, _, e1, sr, q1, fun G1 H1 v s1 st1 r1 => ?_⟩
          have r1' : Pu X.K G1 (.dict kvs) v := r1
          cases r1' with
          | dic hG pk =>
            rename_i l qs
            refine ⟨l, rfl, .inl ⟨qs, .inl (s1.sub _ _ hG)⟩, G1, e1, _, e2, s1, q2, fun G2 H2 u s2 st2 r2 => ⟨G2, e2, _, _, s2, q3, fun G3 H3 w s3 st3 r3 => ?_⟩⟩
            have r2' : Pu X.K G2 p u := r2
            have r3' : Pu X.K G3 q w := r3
            have eu := keyD_kV r2' ek
            subst eu
            have g13 := st2.g.trans st3.g
            refine ⟨valV qs kk, DGet.k (s3.sub _ _ (g13 _ _ hG)), ?_⟩
            rcases kget_ok ek pk with ⟨z1, z2⟩ | ⟨d', y, z1, z2, z3⟩
            · rw [z1] at k
              rw [z2]
              exact k.pu s3 (st1.trans (st2.trans st3)) r3'
            · rw [z1] at k
              rw [z2]
              exact k.pu s3 (st1.trans (st2.trans st3)) (z3.mono g13)
        · cases ev
      · cases ev
    · cases ev
  · cases ev
theorem frz_off {K : PySem.W.Frag} {γ : Gam} {G H G' H' : Hp} {env : Ev} {σ : L2.St} {x : V} {o : Opd} {O : Addr → Prop} (s : Sr K γ G H env σ) (st : Step O G' H' (Ow env σ) G H) (r : OpdR K G H env σ H' x o) {d : D} (e : frzd o = some d) {q : Addr} (hq : H' q ≠ none) (hg : G q = none) :
    ∃ G1, Sr K γ G1 H env σ ∧ Step O G' H' (Ow env σ) G1 H ∧ Sub G G1 ∧ Pu K G1 d x ∧ G1 q = none := by
  cases o with
  | pu d' =>
    have e' : d' = d := by simpa [frzd] using e
    subst e'
    exact ⟨G, s, st, Sub.refl G, r, hg⟩
  | fr xs =>
    have e' : PyData.list xs = d := by simpa [frzd] using e
    subst e'
    obtain ⟨a, ys, rfl, h1, h2, h3, h4, h5⟩ := r
    exact ⟨upd G a (.lst ys), s.tell h2 h1 h4, st.tell (.inl h5) h1, sub_tell h1, .lst upd_same (h3.mono (sub_tell h1)), by rw [upd_ne (fun z => hq (by rw [z]; exact h5))]; exact hg⟩
  | fd xs =>
    have e' : PyData.dict xs = d := by simpa [frzd] using e
    subst e'
    obtain ⟨a, ys, rfl, h1, h2, h3, h4, h5⟩ := r
    exact ⟨upd G a (.dK ys), s.tell h2 h1 h4, st.tell (.inl h5) h1, sub_tell h1, .dic upd_same (h3.mono (sub_tell h1)), by rw [upd_ne (fun z => hq (by rw [z]; exact h5))]; exact hg⟩
  | bo i => simp [frzd] at e
  | fo xs => simp [frzd] at e
theorem e_ds1 (ha : PE X a (tE F C X.K γ ia)) (hb : PE X b (tE F C X.K γ ib)) : PE X (.Dict [some a] [b] pos) (tE F C X.K γ (.ds1 ia ib)) := by
  refine PE.weak (pe_disp (pps_cons ha hb pps_nil) rfl rfl (by simp) (by simp)) fun σ H Q ⟨G, env, o, env', sr, ev, k⟩ => ?_
  simp only [evE] at ev
  split at ev
  · rename_i p e1 h1
    split at ev
    · cases ev
    rename_i o2 e2 h2
    split at ev
    · cases ev
    rename_i d hd
    split at ev
    · rename_i hk
      cases ev
      obtain ⟨kk, ek⟩ := isKey_ok hk
      refine fun q hq => ⟨G, env, _, e1, sr.newH hq, h1, fun G1 H1 v s1 st1 r1 => ⟨G1, e1, _, _, s1, h2, fun G2 H2 u s2 st2 r2 => ?_⟩⟩
      have r1' : Pu X.K G1 p v := r1
      have ev := keyD_kV r1' ek
      subst ev
      have nq : ¬ Ow env σ q := no_ow sr hq
      have nq1 : ¬ Ow e1 σ q := fun z => (st1.o q z).elim nq (by rw [upd_same]; simp)
      have hG : G q = none := none_of sr.sub hq
      have a1 : H1 q = some (.dK []) := st1.h q _ upd_same nq
      have a2 : H2 q = some (.dK []) := st2.h q _ a1 nq1
      have b1 : G1 q = none := st1.n q (by rw [upd_same]; simp) hG nq
      have b2 : G2 q = none := st2.n q (by rw [a1]; simp) b1 nq1
      have nq2 : ¬ Ow env' σ q := fun z => (st2.o q z).elim nq1 (by rw [a1]; simp)
      obtain ⟨G3, s3, st3, sb, pd, b3⟩ := frz_off s2 st2 r2 hd (q := q) (by rw [a1]; simp) b2
      refine ⟨a2, [(kk, u)], rfl, by simp, ?_⟩
      refine k G3 _ _ (s3.wr b3 nq2 (by intro ob w z; cases z) a2) (((Step.newH hq).trans (st1.trans st3)).wr hq) ?_
      exact ⟨q, [(kk, u)], rfl, b3, upd_same, .cons ek pd .nil, nq2, hq⟩
    · cases ev
  · cases ev
/-- d[k] = v -/
theorem s_dpt {i : Nat} {x : Str} {q : Pos} (hu : X.A.units + 65 < cLine) (hN : X.N[i]? = some x) (hv : Vis X.env.scope x) (hd : (x == ("__debug__" : Str)) = false) (hcd : (x == ("__classdict__" : Str)) = false)
    (hk : PE X b (tE F C X.K γ ib)) (he : PE X e (tE F C X.K γ ie)) (hs : swapsWith e (some (.Subscript (.Name x q) b pos')) pos.line X.env = pure false) : PS X (.Assign [.Subscript (.Name x q) b pos'] e pos) (tS F C X.K γ (.dpt i ib ie)) := by
  refine PS.weak (ps_dput (by omega) (pe_var hN hv hd hcd) hk he hs) fun D σ H ⟨G, env, fl, h0, sr, ev, k⟩ => ?_
  simp only [evS] at ev
  split at ev
  · cases ev
  rename_i o e1 h1
  split at ev
  · cases ev
  rename_i d hd'
  split at ev
  · rename_i kvs0 h30
    split at ev
    · rename_i p e2 h2
      split at ev
      · rename_i kvs h3
        split at ev
        · rename_i hz
          cases ev
          obtain ⟨hkk, hl⟩ := ands hz
          obtain ⟨kk, ek⟩ := isKey_ok hkk
          refine ⟨G, env, o, e1, sr, h1, fun G1 H1 v s1 st1 r1 => ?_⟩
          obtain ⟨G1', s1', st1', sb, pd, _⟩ := frz_ok s1 st1 r1 hd'
          obtain ⟨l, _, hσ, _⟩ := s1'.dc_at h30
          refine ⟨_, hσ, G1', e1, _, e2, s1', h2, fun G2 H2 u s2 st2 r2 => ?_⟩
          obtain ⟨l', qs, a1, a2, a3, a4, _⟩ := s2.dc_at h3
          rw [hσ] at a1; cases a1
          have r2' : Pu X.K G2 p u := r2
          have eu := keyD_kV r2' ek
          subst eu
          obtain ⟨m1, m2⟩ := s2.mutD h3 hσ (kput_ok ek (pd.mono st2.g) a4)
          exact ⟨l, _, rfl, DPut.k a3 (by rw [← a4.length, sizeLine_eq]; exact blt_lt hl), k _ _ σ m1 ((st1'.trans st2).trans m2)⟩
        · cases ev
      · cases ev
    · cases ev
  · cases ev
end
end Rf

set_option Elab.async false
set_option linter.all false
set_option maxRecDepth 100000
set_option maxHeartbeats 4000000
/-! Rf: len(set(xs)), xs a list of ints. -/
namespace Rf
open PySem PySem.Spec PyProof.Rows L2

theorem dedup_fold : ∀ (ns acc : List Int), dedup acc ns = ns.foldl step_dedup acc
  | [], _ => rfl
  | n :: ns, acc => by
    rw [List.foldl_cons, ← dedup_fold ns]
    rfl
theorem map_getD (ns : List Int) : (List.range ns.length).map (fun i => ns.getD i 0) = ns := by
  apply List.ext_getElem
  · simp
  · intro i h1 h2
    simp [h2]
theorem firstMet_dedup (ns : List Int) : firstMet (fun i => ns.getD i 0) ns.length = dedup [] ns := by
  unfold firstMet
  rw [map_getD, dedup_fold]
theorem dedup_len : ∀ (ns acc : List Int), (dedup acc ns).length ≤ acc.length + ns.length
  | [], acc => by simp [dedup]
  | n :: ns, acc => by
    simp only [dedup]
    have h := dedup_len ns (if acc.any (· == n) then acc else acc ++ [n])
    split at h
    · rename_i q; rw [if_pos q]; simp at h ⊢; omega
    · rename_i q; rw [if_neg q]; simp at h ⊢; omega
section
variable {X : Cx} {F : FT} {C : List D} {γ : Gam} {a : Expr} {ia : IE} {p p2 q pos : Pos}
def tLenD (K : PySem.W.Frag) (ta : TE) : TE := fun σ H Q => ta σ H fun x H1 => ∃ (l : Addr) (ns : List Int), x = .ref l ∧ SqL K H1 l (ns.map V.int) ∧ ns.length ≤ 4000 ∧ Q (.int ((dedup [] ns).length : Nat)) H1
theorem pe_lenD {ta : TE} (hg : Gl X "len") (hm : X.mg "len" = none) (hg2 : Gl X "set") (hm2 : X.mg "set" = none) (ha : PE X a ta) (hc : X.calm = true)
    (na : starEach [a] X.env = (false, eval a X.env) :: starEach [] X.env) : PE X (.Call (.Name "len" p) [.Call (.Name "set" p2) [a] [] q] [] pos) (tLenD X.K ta) := by
  refine ⟨fun pins s σ H Q I h => ?_⟩
  refine Call_ (ld_blt I hg hm boot_len ?_)
  refine PyProof.Rows.callWith_builtin1 (PyProof.Rows.args_cons ?_ rfl) rfl rfl
  refine Call_ (ld_blt I hg2 hm2 boot_set ?_)
  refine PyProof.Rows.callWith_type1 (PyProof.Rows.args_cons (thn (ha.run pins s σ H _ I h) fun v s1 ⟨x, H1, I1, r1, q1⟩ => PyProof.Rows.args_nil ?_) na) na rfl
  obtain ⟨l, ns, rfl, hq, hl, q1⟩ := q1
  cases r1
  obtain ⟨its, r, pl, hz⟩ := I1.list hq
  have hlen : its.toArray.size = ns.length := by rw [List.size_toArray, ← r.length, List.length_map]
  refine call_set_list (I1.ok.hd hc) pl.isList (by simpa using RZ.intsAre_vals r) (by rw [hlen]; unfold scanBound; omega) fun h' tk hS hk => ?_
  refine PyProof.Rows.args_nil ?_
  rw [hlen, firstMet_dedup] at hS
  obtain ⟨o, es, ep, t, ho, hex, hd, _, _, _, hf, hn⟩ := hS
  have I2 : Inv X pins σ H1 { s1 with heap := h', toks := tk } := I1.kept fun b o e => hk b o (Heap.lt_size e) e
  have hle := dedup_len ns []
  exact call_len_set ho hex hd hf (by rw [hn]; simp at hle; omega) ⟨.int (dedup [] ns).length, H1, I2.tok _, ⟨_, by rw [hn]⟩, q1⟩
theorem e_lset (hc : X.calm = true) (hg : Gl X "len") (hm : X.mg "len" = none) (hg2 : Gl X "set") (hm2 : X.mg "set" = none) (hs : notStar a = true) (ha : PE X a (tE F C X.K γ ia)) :
    PE X (.Call (.Name "len" p) [.Call (.Name "set" p2) [a] [] q] [] pos) (tE F C X.K γ (.lset ia)) := by
  refine PE.weak (pe_lenD hg hm hg2 hm2 ha hc (star_cons hs)) fun σ H Q ⟨G, env, o, env', sr, ev, k⟩ => ?_
  simp only [evE] at ev
  split at ev
  · cases ev
  rename_i x e1 h1
  split at ev
  · rename_i xs h2
    split at ev
    · rename_i ns h3
      split at ev
      · rename_i hz
        cases ev
        refine ⟨G, env, x, _, sr, h1, fun G1 H1 v s1 st1 r1 => ?_⟩
        obtain ⟨l, ys, rfl, hl, pl⟩ := (rds_ok s1 r1 h2).list s1.sub rfl
        have e := ints_ok pl h3
        subst e
        exact ⟨l, ns, rfl, hl, Nat.le_of_ble_eq_true hz, k.pu s1 st1 (.int _)⟩
      · cases ev
    · cases ev
  · cases ev
end
end Rf

set_option Elab.async false
set_option linter.all false
set_option maxRecDepth 100000
set_option maxHeartbeats 40000000
/-! Rf: what the checker lets through means what it says: expressions. -/
namespace Rf
open PySem PySem.Spec PyProof.Rows L2

def isBo : Expr → Bool
  | .BoolOp .. => true
  | _ => false
def isLc : Expr → Bool
  | .ListComp .. => true
  | _ => false
structure Snd (X : Cx) (F : FT) (C : List D) (γ : Gam) (e : Expr) (ie : IE) : Prop where
  pe : PE X e (tE F C X.K γ ie)
  pt : PT X e (tT F C X.K γ ie)
  pw : isBo e = true → PW X e (tT F C X.K γ ie)
  set : isLc e = true → ∀ {i : Nat} {y : Str} {py spos : Pos}, X.N[i]? = some y → X.env.scope.names.lookup y = some .local → swapsWith e (some (.Name y py)) spos.line X.env = pure true → PS X (.Assign [.Name y py] e spos) (tAsg (tE F C X.K γ ie) (gName i))
theorem Snd.plain {X : Cx} {F : FT} {C : List D} {γ : Gam} {e : Expr} {ie : IE} (pe : PE X e (tE F C X.K γ ie)) (he : ∀ whole, isTrue e X.env whole = (do let v ← whole; standAt e.pos; holding [v] (truthy v))) (nb : isBo e = false) (nl : isLc e = false) : Snd X F C γ e ie :=
  ⟨pe, pt_plain pe he, fun h => by (rw [nb] at h; cases h), fun h => by rw [nl] at h; cases h⟩
theorem XOk.blk {pg : Pg} {k : Nat} {c : SC} {X : Cx} (h : XOk pg k c X) (scope : Scope) (s : Shared) (H : Hp) (Ca : Addr) (cl : List (Str × Addr)) (fp : List Addr) : XOk pg k (blkSC c scope) (X.blk s H scope (compEnvC scope cl Ca X.env) fp) :=
  ⟨h.N, h.nd, by show relS scope X.env.scope = _; rw [h.sc]; rfl, rfl, h.calm, h.room, h.gds, h.pg⟩
theorem own_ix (c : SC) (own : List Nat) : (ownN c own).map (·.2) = own := by
  unfold ownN
  rw [List.map_map]
  show own.map (fun i => i) = own
  simp
theorem gcd_mg {pg : Pg} {k : Nat} {c : SC} {X : Cx} (h : XOk pg k c X) {b : Blt} {x : Str} (e : (match b with | .gcd2 => pg.gcd | _ => pg.bn.contains x) = true) : if b = .gcd2 then X.mg "gcd" = some (.builtin "math.gcd") else X.mg x = none := by
  by_cases q : b = .gcd2
  · subst q
    rw [if_pos rfl]
    exact h.pg.gcd e
  · rw [if_neg q]
    refine h.pg.bn x ?_
    cases b <;> first | exact absurd rfl q | simpa using e
theorem rg_of {X : Cx} {F : FT} {C : List D} {γ : Gam} {a b : Expr} : True := trivial

theorem XOk.T {pg : Pg} {k : Nat} {c : SC} {X : Cx} (h : XOk pg k c X) {f : Nat} {x : Str} (e : fnB pg c f x = true) : ∃ ps fn a fd, Gl X x ∧ (x == ("__debug__" : Str)) = false ∧ pg.fns[f]? = some (x, ps, fn) ∧ X.mg x = some (.ref a) ∧ PySem.W.keepIn X.K (.ref a) = true ∧ fn.np = ps.length ∧ BindG pg.kws X.K f fd ps ∧ FnG X.prog X.w X.K X.mg X.base k a fd ps (spF X.K (pg.F k) f ps.length) := by
  unfold fnB at e
  obtain ⟨e1, e2⟩ := ands e
  obtain ⟨g1, g2, _⟩ := h.gl e1
  split at e2
  · rename_i y ps fn q
    have hx : x = y := of_decide_eq_true e2
    subst hx
    obtain ⟨a, fd, h1, h2, h3, h4, h5⟩ := h.pg.fns f x ps fn q
    exact ⟨ps, fn, a, fd, g1, g2, q, h1, h2, h3, h4, h5⟩
  · cases e2
theorem stars_of {pg : Pg} {c : SC} : ∀ {ies : IEs} {es : List Expr}, chkEs pg c ies es = true → noStars es = true ∧ (es = [] → ies = .nil)
  | .nil, [], _ => ⟨rfl, fun _ => rfl⟩
  | .nil, _ :: _, h => by simp [chkEs] at h
  | .cons _ _, [], h => by simp [chkEs] at h
  | .cons ie r, e :: es, h => by
    simp only [chkEs] at h
    obtain ⟨h1, h2⟩ := ands h
    obtain ⟨h0, h1⟩ := ands h1
    exact ⟨by simp [noStars, h0, (stars_of h2).1], fun z => nomatch z⟩
variable {pg : Pg} {k : Nat} {γ : Gam}
mutual
theorem sndE : ∀ (ie : IE) {c : SC} {X : Cx} {e : Expr}, XOk pg k c X → chkE pg c ie e = true → Snd X (pg.F k) pg.C γ e ie
  | .var i, c, X, e, hX, h => by
    simp only [chkE] at h
    split at h
    · obtain ⟨h1, h2, h3, h4⟩ := slotB_of h
      rw [← hX.N] at h1; rw [← hX.sc] at h2
      exact Snd.plain (e_var h1 h2 h3 h4) (fun _ => rfl) rfl rfl
    · cases h
  | .frz i, c, X, e, hX, h => by
    simp only [chkE] at h
    split at h
    · obtain ⟨h1, h2, h3, h4⟩ := slotB_of h
      rw [← hX.N] at h1; rw [← hX.sc] at h2
      exact Snd.plain (e_frz h1 h2 h3 h4) (fun _ => rfl) rfl rfl
    · cases h
  | .cst d, c, X, e, hX, h => by
    simp only [chkE] at h
    split at h
    · exact Snd.plain (e_cst h) (fun _ => rfl) rfl rfl
    · cases h
  | .glo n, c, X, e, hX, h => by
    simp only [chkE] at h
    split at h
    · obtain ⟨h1, h2⟩ := ands h
      obtain ⟨g1, g2, _⟩ := hX.gl h1
      split at h2
      · rename_i y d q
        have hx := of_decide_eq_true h2
        subst hx
        obtain ⟨v, u, m1, m2, m3⟩ := hX.pg.gl n _ _ q
        have hC : pg.C[n]? = some d := by
          show (pg.gl.map (·.2))[n]? = some d
          rw [List.getElem?_map, q]; rfl
        exact Snd.plain (e_glo hC g1 m1 m2 m3 g2) (fun _ => rfl) rfl rfl
      · cases h2
    · cases h
  | .bin o a b, c, X, e, hX, h => by
    simp only [chkE] at h
    split at h
    · obtain ⟨h12, h3⟩ := ands h
      obtain ⟨h1, h2⟩ := ands h12
      exact Snd.plain (e_bin h1 (sndE a hX h2).pe (sndE b hX h3).pe) (fun _ => rfl) rfl rfl
    · cases h
  | .neg a, c, X, e, hX, h => by
    simp only [chkE] at h
    split at h
    · exact Snd.plain (e_neg (sndE a hX h).pe) (fun _ => rfl) rfl rfl
    · cases h
  | .cmp o a b, c, X, e, hX, h => by
    simp only [chkE] at h
    split at h
    · obtain ⟨h12, h4⟩ := ands h
      obtain ⟨h12, h3⟩ := ands h12
      obtain ⟨h1, h2⟩ := ands h12
      exact ⟨e_cmp hX.u65 h1 h2 (sndE a hX h3).pe (sndE b hX h4).pe, t_cmp hX.u65 h1 h2 (sndE a hX h3).pe (sndE b hX h4).pe, fun z => (nomatch z), fun z => (nomatch z)⟩
    · cases h
  | .chn o o' a b d, c, X, e, hX, h => by
    simp only [chkE] at h
    split at h
    · obtain ⟨h, h6⟩ := ands h
      obtain ⟨h, h5⟩ := ands h
      obtain ⟨h, h4⟩ := ands h
      obtain ⟨h, h3⟩ := ands h
      obtain ⟨h1, h2⟩ := ands h
      exact ⟨e_chn hX.u65 h1 h2 h3 (sndE a hX h4).pe (sndE b hX h5).pe (sndE d hX h6).pe, t_chn hX.u65 h1 h2 h3 (sndE a hX h4).pe (sndE b hX h5).pe (sndE d hX h6).pe, fun z => (nomatch z), fun z => (nomatch z)⟩
    · cases h
  | .and2 a b, c, X, e, hX, h => by
    simp only [chkE] at h
    split at h
    · rename_i x y r p
      obtain ⟨h1, h2⟩ := ands h
      have sa := sndE a hX h1
      cases r with
      | nil =>
        have sb := sndE b hX h2
        have pw : PW X (.BoolOp .And [x, y] p) (tT (pg.F k) pg.C X.K γ (.and2 a b)) := PW.weak (pw_and sa.pt (pw_and1 sb.pt)) fun _ _ _ q => and_redT q
        exact ⟨PE.weak (pe_and sa.pe (pe_one sb.pe)) fun _ _ _ q => and_redV q, pw.pt, fun _ => pw, fun z => (nomatch z)⟩
      | cons z r =>
        have sb := sndE b hX h2
        have pw : PW X (.BoolOp .And (x :: y :: z :: r) p) (tT (pg.F k) pg.C X.K γ (.and2 a b)) := PW.weak (pw_and sa.pt (sb.pw rfl)) fun _ _ _ q => and_redT q
        exact ⟨PE.weak (pe_and sa.pe sb.pe) fun _ _ _ q => and_redV q, pw.pt, fun _ => pw, fun z => (nomatch z)⟩
    · cases h
  | .or2 a b, c, X, e, hX, h => by
    simp only [chkE] at h
    split at h
    · rename_i x y r p
      obtain ⟨h1, h2⟩ := ands h
      have sa := sndE a hX h1
      cases r with
      | nil =>
        have sb := sndE b hX h2
        have pw : PW X (.BoolOp .Or [x, y] p) (tT (pg.F k) pg.C X.K γ (.or2 a b)) := PW.weak (pw_or sa.pt (pw_or1 sb.pt)) fun _ _ _ q => or_redT q
        exact ⟨PE.weak (pe_or sa.pe (pe_one sb.pe)) fun _ _ _ q => or_redV q, pw.pt, fun _ => pw, fun z => (nomatch z)⟩
      | cons z r =>
        have sb := sndE b hX h2
        have pw : PW X (.BoolOp .Or (x :: y :: z :: r) p) (tT (pg.F k) pg.C X.K γ (.or2 a b)) := PW.weak (pw_or sa.pt (sb.pw rfl)) fun _ _ _ q => or_redT q
        exact ⟨PE.weak (pe_or sa.pe sb.pe) fun _ _ _ q => or_redV q, pw.pt, fun _ => pw, fun z => (nomatch z)⟩
    · cases h
  | .nt a, c, X, e, hX, h => by
    simp only [chkE] at h
    split at h
    · exact ⟨e_not (sndE a hX h).pe, t_not (sndE a hX h).pt, fun z => (nomatch z), fun z => (nomatch z)⟩
    · cases h
  | .ite q a b, c, X, e, hX, h => by
    simp only [chkE] at h
    split at h
    · obtain ⟨h12, h3⟩ := ands h
      obtain ⟨h1, h2⟩ := ands h12
      exact ⟨e_ite (sndE q hX h1).pt (sndE a hX h2).pe (sndE b hX h3).pe, t_ite (sndE q hX h1).pt (sndE a hX h2).pt (sndE b hX h3).pt, fun z => (nomatch z), fun z => (nomatch z)⟩
    · cases h
  | .tup es, c, X, e, hX, h => by
    simp only [chkE] at h
    split at h
    · exact Snd.plain (e_tup (sndP es hX h)) (fun _ => rfl) rfl rfl
    · cases h
  | .lst es, c, X, e, hX, h => by
    simp only [chkE] at h
    split at h
    · exact Snd.plain (e_lst (sndP es hX h)) (fun _ => rfl) rfl rfl
    · cases h
  | .idx a i, c, X, e, hX, h => by
    simp only [chkE] at h
    split at h
    · obtain ⟨h12, h3⟩ := ands h
      obtain ⟨h1, h2⟩ := ands h12
      exact Snd.plain (e_idx h1 (sndE a hX h2).pe (sndE i hX h3).pe) (fun _ => rfl) rfl rfl
    · cases h
  | .slc a lo hi, c, X, e, hX, h => by
    simp only [chkE] at h
    split at h
    · obtain ⟨h12, h3⟩ := ands h
      obtain ⟨h1, h2⟩ := ands h12
      exact Snd.plain (e_slc (sndE a hX h1).pe (sndO lo hX h2) (sndO hi hX h3)) (fun _ => rfl) rfl rfl
    · cases h
  | .rev a, c, X, e, hX, h => by
    simp only [chkE] at h
    split at h
    · exact Snd.plain (e_rev (sndE a hX h).pe) (fun _ => rfl) rfl rfl
    · cases h
  | .call f es, c, X, e, hX, h => by
    simp only [chkE] at h
    split at h
    · obtain ⟨h1, h2⟩ := ands h
      obtain ⟨ps, fn, a, fd, t1, t2, t3, t4, t5, t6, t7, t8⟩ := hX.T h1
      obtain ⟨s1, s2⟩ := stars_of h2
      exact Snd.plain (e_call t8 (callN_len t3 t6) hX.room hX.gds t1 t4 t5 t7.pos t2 s1 s2 (sndA es hX h2)) (fun _ => rfl) rfl rfl
    · cases h
  | .callk f p es, c, X, e, hX, h => by
    simp only [chkE] at h
    split at h
    · obtain ⟨h12, h3⟩ := ands h
      obtain ⟨h1, h2⟩ := ands h12
      obtain ⟨ps, fn, a, fd, t1, t2, t3, t4, t5, t6, t7, t8⟩ := hX.T h1
      split at h2
      · rename_i ks hks
        unfold kwB at h2
        exact Snd.plain (e_callk t8 (callN_len t3 t6) hX.room hX.gds t1 t4 t5 (t7.kw ks p (by simpa using h2)) t2 hks (chkKs_len h3) (sndK es hX h3)) (fun _ => rfl) rfl rfl
      · cases h2
    · cases h
  | .blt b es, c, X, e, hX, h => by
    simp only [chkE] at h
    split at h
    · obtain ⟨h, h4⟩ := ands h
      obtain ⟨h, h3⟩ := ands h
      obtain ⟨h1, h2⟩ := ands h
      obtain ⟨g1, g2, g3⟩ := hX.gl h1
      exact Snd.plain (e_blt hX.calm hX.gds hX.u67 (of_decide_eq_true h3) g1 g2 g3 (gcd_mg hX h2) (stars_of h4).1 (sndA es hX h4)) (fun _ => rfl) rfl rfl
    · cases h
  | .isi a ts, c, X, e, hX, h => by
    simp only [chkE] at h
    split at h
    · rename_i x p y t q
      obtain ⟨h, h5⟩ := ands h
      obtain ⟨h, h4⟩ := ands h
      obtain ⟨h, h3⟩ := ands h
      obtain ⟨h1, h2⟩ := ands h
      obtain ⟨g1, g2, g3, g4⟩ := hX.blt h1
      have hx := of_decide_eq_true h2
      subst hx
      have sa := sndE a hX h4
      split at h5
      · rename_i tn tp
        cases ts with
        | nil => simp only [tysB] at h5; cases h5
        | cons t0 ts =>
          simp only [tysB] at h5
          cases ts with
          | cons t1 ts => simp only [tysB, Bool.and_false] at h5; cases h5
          | nil =>
            obtain ⟨h5a, h7⟩ := ands h5
            obtain ⟨h5b, h6'⟩ := ands h5a
            obtain ⟨b1, b2, b3, b4⟩ := hX.blt h5b
            have hv := boot_ty t0
            rw [← of_decide_eq_true h6'] at hv
            exact Snd.plain (e_isi1 (ts := []) g1 g2 h3 sa.pe (pe_bltn (v := .ty (tyN t0)) b1 b2 hv rfl b4 b3)) (fun _ => rfl) rfl rfl
      · rename_i us kk pp
        obtain ⟨h5, h6⟩ := ands h5
        obtain ⟨r1, r2⟩ := tys_pa hX h6
        exact Snd.plain (e_isiT g1 g2 h3 sa.pe r1 (Nat.le_of_ble_eq_true h5)) (fun _ => rfl) rfl rfl
      · cases h5
    · cases h
  | .lrg lo hi, c, X, e, hX, h => by
    simp only [chkE] at h
    split at h
    · rename_i x p y q xs r s
      obtain ⟨h, h5⟩ := ands h
      obtain ⟨h, h4⟩ := ands h
      obtain ⟨h, h3⟩ := ands h
      obtain ⟨h1, h2⟩ := ands h
      obtain ⟨g1, g2, g3, g4⟩ := hX.blt h1
      obtain ⟨g5, g6, _, _⟩ := hX.blt h3
      have hx := of_decide_eq_true h2
      have hy := of_decide_eq_true h4
      subst hx; subst hy
      split at h5
      · rename_i hh
        obtain ⟨h5, h7⟩ := ands h5
        obtain ⟨h5, h6⟩ := ands h5
        split at h5
        · exact Snd.plain (e_lrg hX.calm g1 g2 rfl (rg_1 g5 g6 h6 (sndE hi hX h7).pe)) (fun _ => rfl) rfl rfl
        · cases h5
      · rename_i l hh
        obtain ⟨h5, h8⟩ := ands h5
        obtain ⟨h5, h7⟩ := ands h5
        obtain ⟨h5, h6⟩ := ands h5
        exact Snd.plain (e_lrg hX.calm g1 g2 rfl (rg_2 g5 g6 h5 h6 (sndE lo hX h7).pe (sndE hi hX h8).pe)) (fun _ => rfl) rfl rfl
      · cases h5
    · cases h
  | .trg lo hi, c, X, e, hX, h => by
    simp only [chkE] at h
    split at h
    · rename_i x p y q xs r s
      obtain ⟨h, h5⟩ := ands h
      obtain ⟨h, h4⟩ := ands h
      obtain ⟨h, h3⟩ := ands h
      obtain ⟨h1, h2⟩ := ands h
      obtain ⟨g1, g2, g3, g4⟩ := hX.blt h1
      obtain ⟨g5, g6, _, _⟩ := hX.blt h3
      have hx := of_decide_eq_true h2
      have hy := of_decide_eq_true h4
      subst hx; subst hy
      split at h5
      · rename_i hh
        obtain ⟨h5, h7⟩ := ands h5
        obtain ⟨h5, h6⟩ := ands h5
        split at h5
        · exact Snd.plain (e_trg hX.calm g1 g2 rfl (rg_1 g5 g6 h6 (sndE hi hX h7).pe)) (fun _ => rfl) rfl rfl
        · cases h5
      · rename_i l hh
        obtain ⟨h5, h8⟩ := ands h5
        obtain ⟨h5, h7⟩ := ands h5
        obtain ⟨h5, h6⟩ := ands h5
        exact Snd.plain (e_trg hX.calm g1 g2 rfl (rg_2 g5 g6 h5 h6 (sndE lo hX h7).pe (sndE hi hX h8).pe)) (fun _ => rfl) rfl rfl
      · cases h5
    · cases h
  | .lc elt tg it cd own, c, X, e, hX, h => by
    unfold chkE at h
    split at h
    · rename_i x t i fs scope pp
      obtain ⟨h, h7⟩ := ands h
      obtain ⟨h, h6⟩ := ands h
      obtain ⟨h, h5⟩ := ands h
      obtain ⟨h, h4⟩ := ands h
      obtain ⟨h, h3⟩ := ands h
      obtain ⟨h, h2⟩ := ands h
      obtain ⟨h0, h1⟩ := ands h
      have ok : BlkOk X.N X.env.scope scope (ownN c own) := by rw [hX.N, hX.sc]; exact blkOk_by h0
      have hown : ∀ j ∈ tgS tg, j ∈ own := fun j hj => by
        have := List.all_eq_true.mp h4 j hj
        simpa using this
      have pi := sndI it hX h1
      have hg : ∀ (s : Shared) (H : Hp) (Ca : Addr) (cl : List (Str × Addr)) (fp : List Addr), PG (X.blk s H scope (compEnvC scope cl Ca X.env) fp) t (gT (pg.F k) pg.C X.K γ tg) := fun s H Ca cl fp => sndT tg (hX.blk scope s H Ca cl fp) h5
      have he : ∀ (s : Shared) (H : Hp) (Ca : Addr) (cl : List (Str × Addr)) (fp : List Addr), PE (X.blk s H scope (compEnvC scope cl Ca X.env) fp) x (tE (pg.F k) pg.C X.K γ elt) := fun s H Ca cl fp => (sndE elt (hX.blk scope s H Ca cl fp) h7).pe
      have ht : ∀ (s : Shared) (H : Hp) (Ca : Addr) (cl : List (Str × Addr)) (fp : List Addr), PTs (X.blk s H scope (compEnvC scope cl Ca X.env) fp) fs (tD (pg.F k) pg.C X.K γ cd) := fun s H Ca cl fp => sndD cd (hX.blk scope s H Ca cl fp) h6
      have red : ∀ {σ : L2.St} {H : Hp} {Q : VK}, tE (pg.F k) pg.C X.K γ (.lc elt tg it cd own) σ H Q → tLc (tI (pg.F k) pg.C X.K γ it) (gT (pg.F k) pg.C X.K γ tg) (tD (pg.F k) pg.C X.K γ cd) (tE (pg.F k) pg.C X.K γ elt) ((ownN c own).map (·.2)) σ H Q := fun {σ H Q} q => by
        rw [own_ix]; exact lc_red hown q
      have pe : PE X (.ListComp x [⟨t, i, fs, 0⟩] scope pp) (tE (pg.F k) pg.C X.K γ (.lc elt tg it cd own)) := PE.weak (pe_lc hX.calm hX.nd pi ok hg ht he (fold_no h2)) fun _ _ _ q => red q
      exact ⟨pe, pt_plain pe fun _ => rfl, fun z => (nomatch z), fun _ j y py spos a1 a2 a3 => PS.weak (ps_setLc hX.calm hX.nd a1 a2 a3 pi ok hg ht he (fold_no h2)) fun D σ H q => red q⟩
    · cases h
  | .mth m i es, c, X, e, hX, h => by
    simp only [chkE] at h
    split at h
    · obtain ⟨h, h5⟩ := ands h
      obtain ⟨h, h4⟩ := ands h
      obtain ⟨h, h3⟩ := ands h
      obtain ⟨h1, h2⟩ := ands h
      obtain ⟨q1, q2, q3, q4⟩ := slotB_of h1
      rw [← hX.N] at q1; rw [← hX.sc] at q2
      obtain ⟨s1, s2⟩ := stars_of h5
      exact Snd.plain (e_mth q1 q2 q3 q4 (of_decide_eq_true h2) h3 s1 (blt_lt h4) s2 (sndA es hX h5)) (fun _ => rfl) rfl rfl
    · cases h
  | .rpr es, c, X, e, hX, h => by
    simp only [chkE] at h
    split at h
    · obtain ⟨h12, h3⟩ := ands h
      obtain ⟨h1, h2⟩ := ands h12
      obtain ⟨g1, g2, g3, g4⟩ := hX.blt h1
      have hx := of_decide_eq_true h2
      subst hx
      exact Snd.plain (e_rpr hX.gds hX.u65 g1 g2 (sndA es hX h3)) (fun _ => rfl) rfl rfl
    · cases h
  | .giv a, c, X, e, hX, h => by
    simp only [chkE] at h
    have sa := sndE a hX h
    have red : ∀ {σ : L2.St} {H : Hp} {Q : VK}, tE (pg.F k) pg.C X.K γ (.giv a) σ H Q → tE (pg.F k) pg.C X.K γ a σ H Q := fun {σ H Q} ⟨G, env, o, env', sr, ev, q⟩ => by
      simp only [evE] at ev
      split at ev
      · rename_i xs e1 h1
        cases ev
        exact ⟨G, env, _, _, sr, h1, fun G' H' x s st r => q G' H' x s st r⟩
      · cases ev
    have no : ∀ {σ : L2.St} {H : Hp} {Q : Bool → Hp → Prop}, tT (pg.F k) pg.C X.K γ (.giv a) σ H Q → False := fun {σ H Q} ⟨G, env, o, env', sr, ev, q⟩ => by
      simp only [evE] at ev
      split at ev
      · cases ev
      · cases ev
    exact ⟨PE.weak sa.pe fun _ _ _ q => red q, ⟨fun _ _ _ _ _ _ q => (no q).elim⟩, fun _ => ⟨fun _ _ _ _ _ _ _ q => (no q).elim⟩, fun hl i y py spos a1 a2 a3 => PS.weak (sa.set hl a1 a2 a3) fun D σ H q => red q⟩
  | .dnw, c, X, e, hX, h => by
    simp only [chkE] at h
    split at h
    · exact Snd.plain e_dnw (fun _ => rfl) rfl rfl
    · cases h
  | .ds1 a b, c, X, e, hX, h => by
    simp only [chkE] at h
    split at h
    · obtain ⟨h1, h2⟩ := ands h
      exact Snd.plain (e_ds1 (sndE a hX h1).pe (sndE b hX h2).pe) (fun _ => rfl) rfl rfl
    · cases h
  | .dof a, c, X, e, hX, h => by
    simp only [chkE] at h
    cases h
  | .dix a b, c, X, e, hX, h => by
    simp only [chkE] at h
    split at h
    · obtain ⟨h12, h3⟩ := ands h
      obtain ⟨h1, h2⟩ := ands h12
      exact Snd.plain (e_dix hX.u65 h1 (sndE a hX h2).pe (sndE b hX h3).pe) (fun _ => rfl) rfl rfl
    · cases h
  | .din n a b, c, X, e, hX, h => by
    simp only [chkE] at h
    split at h
    · obtain ⟨h, h4⟩ := ands h
      obtain ⟨h, h3⟩ := ands h
      obtain ⟨h1, h2⟩ := ands h
      exact ⟨e_din hX.u65 h1 h2 (sndE a hX h3).pe (sndE b hX h4).pe, t_din hX.u65 h1 h2 (sndE a hX h3).pe (sndE b hX h4).pe, fun z => (nomatch z), fun z => (nomatch z)⟩
    · cases h
  | .dgt a b d, c, X, e, hX, h => by
    simp only [chkE] at h
    split at h
    · obtain ⟨h, h8⟩ := ands h
      obtain ⟨h, h7⟩ := ands h
      obtain ⟨h, h6⟩ := ands h
      obtain ⟨h, h5⟩ := ands h
      obtain ⟨h, h4⟩ := ands h
      obtain ⟨h, h3⟩ := ands h
      obtain ⟨h1, h2⟩ := ands h
      exact Snd.plain (e_dgt hX.u65 (of_decide_eq_true h2) h1 h3 h4 h5 (sndE a hX h6).pe (sndE b hX h7).pe (sndE d hX h8).pe) (fun _ => rfl) rfl rfl
    · cases h
  | .lset a, c, X, e, hX, h => by
    simp only [chkE] at h
    split at h
    · obtain ⟨h, h6⟩ := ands h
      obtain ⟨h, h5⟩ := ands h
      obtain ⟨h, h4⟩ := ands h
      obtain ⟨h, h3⟩ := ands h
      obtain ⟨h1, h2⟩ := ands h
      obtain ⟨g1, g2, _, _⟩ := hX.blt h1
      obtain ⟨g5, g6, _, _⟩ := hX.blt h3
      have hx := of_decide_eq_true h2
      have hy := of_decide_eq_true h4
      subst hx; subst hy
      exact Snd.plain (e_lset hX.calm g1 g2 g5 g6 h5 (sndE a hX h6).pe) (fun _ => rfl) rfl rfl
    · cases h
  | .sset a, c, X, e, hX, h => by
    simp only [chkE] at h
    cases h
theorem sndA : ∀ (ies : IEs) {c : SC} {X : Cx} {es : List Expr}, XOk pg k c X → chkEs pg c ies es = true → PA X es (tA (pg.F k) pg.C X.K γ ies)
  | .nil, c, X, es, hX, h => by
    simp only [chkEs] at h
    split at h
    · exact a_nil
    · cases h
  | .cons ie r, c, X, es, hX, h => by
    simp only [chkEs] at h
    split at h
    · obtain ⟨h12, h3⟩ := ands h
      obtain ⟨h1, h2⟩ := ands h12
      exact a_cons h1 (sndE ie hX h2).pe (sndA r hX h3)
    · cases h
theorem sndP : ∀ (ies : IEs) {c : SC} {X : Cx} {es : List Expr}, XOk pg k c X → chkEs pg c ies es = true → PA X es (tP (pg.F k) pg.C X.K γ ies)
  | .nil, c, X, es, hX, h => by
    simp only [chkEs] at h
    split at h
    · exact p_nil
    · cases h
  | .cons ie r, c, X, es, hX, h => by
    simp only [chkEs] at h
    split at h
    · obtain ⟨h12, h3⟩ := ands h
      obtain ⟨h1, h2⟩ := ands h12
      exact p_cons h1 (sndE ie hX h2).pe (sndP r hX h3)
    · cases h
theorem sndK : ∀ (ies : IEs) {c : SC} {X : Cx} {kws : List Keyword}, XOk pg k c X → chkKs pg c ies kws = true → PK X kws (tA (pg.F k) pg.C X.K γ ies)
  | .nil, c, X, es, hX, h => by
    simp only [chkKs] at h
    split at h
    · exact k_nil
    · cases h
  | .cons ie r, c, X, es, hX, h => by
    simp only [chkKs] at h
    split at h
    · obtain ⟨h1, h2⟩ := ands h
      exact k_cons (sndE ie hX h1).pe (sndK r hX h2)
    · cases h
theorem sndO : ∀ (io : IO) {c : SC} {X : Cx} {e : Option Expr}, XOk pg k c X → chkO pg c io e = true → PO X e (tO (pg.F k) pg.C X.K γ io)
  | .non, c, X, e, hX, h => by
    simp only [chkO] at h
    split at h
    · exact o_non
    · cases h
  | .som a, c, X, e, hX, h => by
    simp only [chkO] at h
    split at h
    · exact o_som (sndE a hX h).pe
    · cases h
theorem sndD : ∀ (io : IO) {c : SC} {X : Cx} {fs : List Expr}, XOk pg k c X → (match fs, io with
        | [], .non => true
        | [f], .som d => chkE pg c d f
        | _, _ => false) = true → PTs X fs (tD (pg.F k) pg.C X.K γ io)
  | .non, c, X, fs, hX, h => by
    split at h
    · exact d_non
    · rename_i q; cases q
    · cases h
  | .som a, c, X, fs, hX, h => by
    split at h
    · rename_i q; cases q
    · rename_i f d q
      cases q
      exact d_som (sndE a hX h).pt
    · cases h
theorem sndI : ∀ (ii : II) {c : SC} {X : Cx} {t e : Expr}, XOk pg k c X → chkI pg c ii t e = true → PI X t e (tI (pg.F k) pg.C X.K γ ii)
  | .it a, c, X, t, e, hX, h => by
    simp only [chkI] at h
    exact i_it (sndE a hX h).pe
  | .rng lo hi, c, X, t, e, hX, h => by
    simp only [chkI] at h
    split at h
    · obtain ⟨h, h5⟩ := ands h
      obtain ⟨h3, h4⟩ := ands h
      obtain ⟨g5, g6, _, _⟩ := hX.blt h3
      have hy := of_decide_eq_true h4
      subst hy
      split at h5
      · rename_i hh
        obtain ⟨h5, h7⟩ := ands h5
        obtain ⟨h5, h6⟩ := ands h5
        split at h5
        · exact i_rg1 g5 g6 h6 (sndE hi hX h7).pe
        · cases h5
      · rename_i l hh
        obtain ⟨h5, h8⟩ := ands h5
        obtain ⟨h5, h7⟩ := ands h5
        obtain ⟨h5, h6⟩ := ands h5
        exact i_rg2 g5 g6 h5 h6 (sndE lo hX h7).pe (sndE hi hX h8).pe
      · cases h5
    · cases h
  | .enu a, c, X, t, e, hX, h => by
    simp only [chkI] at h
    split at h
    · obtain ⟨h, h4⟩ := ands h
      obtain ⟨h, h3⟩ := ands h
      obtain ⟨h1, h2⟩ := ands h
      obtain ⟨g1, g2, _, _⟩ := hX.blt h1
      have hy := of_decide_eq_true h2
      subst hy
      exact i_enu g1 g2 h3 (sndE a hX h4).pe
    · cases h
  | .zip a b, c, X, t, e, hX, h => by
    simp only [chkI] at h
    split at h
    · obtain ⟨h, h6⟩ := ands h
      obtain ⟨h, h5⟩ := ands h
      obtain ⟨h, h4⟩ := ands h
      obtain ⟨h, h3⟩ := ands h
      obtain ⟨h1, h2⟩ := ands h
      obtain ⟨g1, g2, _, _⟩ := hX.blt h1
      have hy := of_decide_eq_true h2
      subst hy
      exact i_zip g1 g2 h3 h4 (sndE a hX h5).pe (sndE b hX h6).pe
    · cases h
  | .dks a, c, X, t, e, hX, h => by
    simp only [chkI] at h
    cases h
theorem sndT : ∀ (it : IT) {c : SC} {X : Cx} {e : Expr}, XOk pg k c X → chkT pg c it e = true → PG X e (gT (pg.F k) pg.C X.K γ it)
  | .nm i, c, X, e, hX, h => by
    simp only [chkT] at h
    split at h
    · obtain ⟨h1, h2, h3⟩ := storeB_of h
      rw [← hX.N] at h1; rw [← hX.sc] at h2 h3; rw [← hX.fn] at h3
      exact g_nm hX.nd h1 h2 h3
    · cases h
  | .tp ts, c, X, e, hX, h => by
    simp only [chkT] at h
    split at h
    · obtain ⟨a, b⟩ := chkTs_len h
      exact g_tp hX.calm a b (sndTs ts hX h)
    · cases h
  | .sub i a, c, X, e, hX, h => by
    simp only [chkT] at h
    split at h
    · obtain ⟨h12, h3⟩ := ands h
      obtain ⟨h1, h2⟩ := ands h12
      obtain ⟨q1, q2, q3, q4⟩ := slotB_of h1
      rw [← hX.N] at q1; rw [← hX.sc] at q2
      exact g_sub q1 q2 q3 q4 h2 (sndE a hX h3).pe
    · cases h
theorem sndTs : ∀ (its : ITs) {c : SC} {X : Cx} {es : List Expr}, XOk pg k c X → chkTs pg c its es = true → PGs X es (gTs (pg.F k) pg.C X.K γ its)
  | .nil, c, X, es, hX, h => by
    simp only [chkTs] at h
    split at h
    · exact gs_nil
    · cases h
  | .cons t r, c, X, es, hX, h => by
    simp only [chkTs] at h
    split at h
    · obtain ⟨h12, h3⟩ := ands h
      obtain ⟨h1, h2⟩ := ands h12
      exact gs_cons h1 (sndT t hX h2) (sndTs r hX h3)
    · cases h
end
end Rf

set_option Elab.async false
set_option linter.all false
set_option maxRecDepth 100000
set_option maxHeartbeats 4000000
/-! Rf: the checker of statements, and what it lets through. -/
namespace Rf
open PySem PySem.Spec PyProof.Rows L2

def noSD : Expr → Bool
  | .SetComp .. => false
  | .DictComp .. => false
  | _ => true
def noComp : Expr → Bool
  | .SetComp .. => false
  | .DictComp .. => false
  | .ListComp .. => false
  | _ => true
def isTupE : Expr → Bool
  | .Tuple .. => true
  | _ => false
def asgOk : Expr → Expr → Bool
  | .Name .., v => noSD v
  | .Subscript .., _ => true
  | .Tuple .., v => !isTupE v
  | _, _ => false
mutual
def chkS (pg : Pg) : SC → IS → Stmt → Bool
  | c, .asg t e, s => match s with
    | .Assign [tg] v _ => asgOk tg v && chkT pg c t tg && chkE pg c e v
    | _ => false
  | c, .own i e, s => match s with
    | .Assign [.Name x _] v _ => storeB c i x && noSD v && chkE pg c e v
    | _ => false
  | c, .par2 i j u v a b, s => match s with
    | .Assign [.Tuple [.Name x px, .Name y py] _ _] (.Tuple [ea, eb] _ _) _ => storeB c i x && storeB c j y && !(Nat.beq i j) && notStar ea && notStar eb && isFun c.sc && (match sw2 c.sc x y px py ea eb with
        | some true => isLoc c.sc x && isLoc c.sc y
        | some false => true
        | none => false) && chkE pg c a ea && chkE pg c b eb
    | _ => false
  | c, .par3 i j l u v w a b d, s => match s with
    | .Assign [.Tuple [.Name x px, .Name y py, .Name z pz] _ _] (.Tuple [ea, eb, ec] _ _) _ => storeB c i x && storeB c j y && storeB c l z && !(Nat.beq i j) && !(Nat.beq i l) && !(Nat.beq j l) && notStar ea && notStar eb && notStar ec && isFun c.sc && (match sw3 c.sc x y z px py pz ea eb ec with
        | some true => isLoc c.sc x && isLoc c.sc y && isLoc c.sc z
        | some false => true
        | none => false) && chkE pg c a ea && chkE pg c b eb && chkE pg c d ec
    | _ => false
  | c, .ex e, s => match s with
    | .Expr v _ => noComp v && chkE pg c e v
    | _ => false
  | c, .ret e, s => match s with
    | .Return (some v) _ => chkE pg c e v
    | .Return none _ => (match e with | .cst .none => true | _ => false)
    | _ => false
  | c, .ite q a b, s => match s with
    | .If x y z _ => chkE pg c q x && chkSs pg c a y && chkSs pg c b z
    | _ => false
  | c, .fo t it b, s => match s with
    | .For tg iter body [] _ => notSet iter && chkT pg c t tg && chkI pg c it tg iter && chkSs pg c b body
    | _ => false
  | c, .wh q b, s => match s with
    | .While x body [] _ => chkE pg c q x && chkSs pg c b body
    | _ => false
  | _, .pass, s => match s with
    | .Pass _ => true
    | .Expr (.Constant (.str _) _ _) _ => true
    | _ => false
  | _, .brk, s => match s with
    | .Break _ => true
    | _ => false
  | _, .cnt, s => match s with
    | .Continue _ => true
    | _ => false
  | _, .nev, _ => true
  | c, .dpt i k e, s => match s with
    | .Assign [.Subscript (.Name x _) y _] v _ => slotB c i x && noComp v && chkE pg c k y && chkE pg c e v
    | _ => false
def chkSs (pg : Pg) : SC → ISs → List Stmt → Bool
  | _, .nil, ss => match ss with
    | [] => true
    | _ => false
  | c, .cons s r, ss => match ss with
    | st :: rest => chkS pg c s st && chkSs pg c r rest
    | _ => false
end

theorem sw_no {e : Expr} {t : Option Expr} {l : Nat} {env : Env} (h : noComp e = true) : swapsWith e t l env = pure false := by
  cases e <;> first | rfl | cases h
theorem sw_tup {e : Expr} {es : List Expr} {kk : Nat} {p : Pos} {l : Nat} {env : Env} : swapsWithSole [.Tuple es kk p] e l env = pure false := by
  cases e <;> rfl
theorem sw_sub {e a b : Expr} {p : Pos} {l : Nat} {env : Env} : swapsWithSole [.Subscript a b p] e l env = pure false := by
  cases e <;> rfl
theorem ss_tup {e : Expr} {es : List Expr} {kk : Nat} {p : Pos} {env : Env} (h : isTupE e = false) : swappedStores [.Tuple es kk p] e env = pure none := by
  cases e <;> first | rfl | cases h
theorem ss_sub {e a b : Expr} {p : Pos} {env : Env} : swappedStores [.Subscript a b p] e env = pure none := by
  cases e <;> rfl
section
variable {pg : Pg} {k : Nat} {γ : Gam} {c : SC} {X : Cx} {e : Expr} {ie : IE}
/-- a name's store, on whichever line -/
theorem nm_set (hX : XOk pg k c X) {i : Nat} {y : Str} {py pos : Pos} (h : storeB c i y = true) (hn : noSD e = true) (s : Snd X (pg.F k) pg.C γ e ie) : PS X (.Assign [.Name y py] e pos) (tAsg (tE (pg.F k) pg.C X.K γ ie) (gName i)) := by
  obtain ⟨h1, h2, h3⟩ := storeB_of h
  rw [← hX.N] at h1; rw [← hX.sc] at h2 h3; rw [← hX.fn] at h3
  cases hc : noComp e with
  | true => exact ps_set hX.nd h1 h2 s.pe (sw_no hc) h3
  | false =>
    cases e <;> first | (cases hn; done) | (cases hc; done) | skip
    rename_i elt gs scope p
    have key : ∀ b : Bool, swapsWith (.ListComp elt gs scope p) (some (.Name y py)) pos.line X.env = pure b → (b = true → X.env.scope.names.lookup y = some .local) → PS X (.Assign [.Name y py] (.ListComp elt gs scope p) pos) (tAsg (tE (pg.F k) pg.C X.K γ ie) (gName i)) := fun b hb hl => by
      cases b with
      | true => exact s.set rfl h1 (hl rfl) hb
      | false => exact ps_set hX.nd h1 h2 s.pe hb h3
    refine key (X.env.blockKind == .function && X.env.kindOf y == some .local && py.line == p.line && !(scope.names.any fun (n, k) => n == y && (k == .local || k == .cell))) rfl fun z => ?_
    obtain ⟨z, _⟩ := ands z
    obtain ⟨z, _⟩ := ands z
    obtain ⟨_, z⟩ := ands z
    rw [isLoc_eq] at z
    exact isLoc_of z
end
variable {pg : Pg} {k : Nat} {γ : Gam}
theorem nbeq {i j : Nat} (h : (!(Nat.beq i j)) = true) : i ≠ j := fun z => by
  subst z
  have : Nat.beq i i = true := Nat.beq_refl i
  rw [this] at h; cases h
mutual
theorem sndS : ∀ (is : IS) {c : SC} {X : Cx} {s : Stmt}, XOk pg k c X → PassesOwn (model X.prog X.w) X.A X.env X.xe → chkS pg c is s = true → PS X s (tS (pg.F k) pg.C X.K γ is)
  | .asg t e, c, X, s, hX, hp, h => by
    simp only [chkS] at h
    split at h
    · rename_i tg v pos
      obtain ⟨h12, h3⟩ := ands h
      obtain ⟨h1, h2⟩ := ands h12
      have se := sndE (γ := γ) e hX h3
      cases tg with
      | Name x py =>
        cases t with
        | nm i =>
          simp only [chkT] at h2
          exact PS.weak (nm_set hX h2 h1 se) fun D σ H q => nm_red q
        | tp ts => simp only [chkT] at h2; cases h2
        | sub i a => simp only [chkT] at h2; cases h2
      | Subscript o ix sp => exact s_asg sw_sub ss_sub rfl se.pe (sndT t hX h2)
      | Tuple es kk tp => exact s_asg sw_tup (ss_tup (by simpa [asgOk] using h1)) rfl se.pe (sndT t hX h2)
      | _ => simp only [asgOk] at h1; cases h1
    · cases h
  | .own i e, c, X, s, hX, hp, h => by
    simp only [chkS] at h
    split at h
    · obtain ⟨h12, h3⟩ := ands h
      obtain ⟨h1, h2⟩ := ands h12
      exact PS.weak (nm_set hX h1 h2 (sndE (γ := γ) e hX h3)) fun D σ H q => own_red q
    · cases h
  | .par2 i j u v a b, c, X, s, hX, hp, h => by
    simp only [chkS] at h
    split at h
    · obtain ⟨h, h9⟩ := ands h
      obtain ⟨h, h8⟩ := ands h
      obtain ⟨h, h7⟩ := ands h
      obtain ⟨h, h6⟩ := ands h
      obtain ⟨h, h5⟩ := ands h
      obtain ⟨h, h4⟩ := ands h
      obtain ⟨h, h3⟩ := ands h
      obtain ⟨h1, h2⟩ := ands h
      obtain ⟨a1, a2, a3⟩ := storeB_of h1
      obtain ⟨b1, b2, b3⟩ := storeB_of h2
      rw [← hX.N] at a1 b1; rw [← hX.sc] at a2 a3 b2 b3 h6 h7; rw [← hX.fn] at a3 b3
      split at h7
      · rename_i q
        obtain ⟨l1, l2⟩ := ands h7
        exact s_par2 (isFun_of h6) hX.calm hX.nd a1 b1 (nbeq h3) a2 b2 a3 b3 h4 h5 (sndE a hX h8).pe (sndE b hX h9).pe q fun _ => ⟨isLoc_of l1, isLoc_of l2⟩
      · rename_i q
        exact s_par2 (isFun_of h6) hX.calm hX.nd a1 b1 (nbeq h3) a2 b2 a3 b3 h4 h5 (sndE a hX h8).pe (sndE b hX h9).pe q fun z => (nomatch z)
      · cases h7
    · cases h
  | .par3 i j l u v w a b d, c, X, s, hX, hp, h => by
    simp only [chkS] at h
    split at h
    · obtain ⟨h, h14⟩ := ands h
      obtain ⟨h, h13⟩ := ands h
      obtain ⟨h, h12⟩ := ands h
      obtain ⟨h, h11⟩ := ands h
      obtain ⟨h, h10⟩ := ands h
      obtain ⟨h, h9⟩ := ands h
      obtain ⟨h, h8⟩ := ands h
      obtain ⟨h, h7⟩ := ands h
      obtain ⟨h, h6⟩ := ands h
      obtain ⟨h, h5⟩ := ands h
      obtain ⟨h, h4⟩ := ands h
      obtain ⟨h, h3⟩ := ands h
      obtain ⟨h1, h2⟩ := ands h
      obtain ⟨a1, a2, a3⟩ := storeB_of h1
      obtain ⟨b1, b2, b3⟩ := storeB_of h2
      obtain ⟨c1, c2, c3⟩ := storeB_of h3
      rw [← hX.N] at a1 b1 c1; rw [← hX.sc] at a2 a3 b2 b3 c2 c3 h10 h11; rw [← hX.fn] at a3 b3 c3
      split at h11
      · rename_i q
        obtain ⟨l12, l3⟩ := ands h11
        obtain ⟨l1, l2⟩ := ands l12
        exact s_par3 (isFun_of h10) hX.calm hX.nd a1 b1 c1 (nbeq h4) (nbeq h5) (nbeq h6) a2 b2 c2 a3 b3 c3 h7 h8 h9 (sndE a hX h12).pe (sndE b hX h13).pe (sndE d hX h14).pe q fun _ => ⟨isLoc_of l1, isLoc_of l2, isLoc_of l3⟩
      · rename_i q
        exact s_par3 (isFun_of h10) hX.calm hX.nd a1 b1 c1 (nbeq h4) (nbeq h5) (nbeq h6) a2 b2 c2 a3 b3 c3 h7 h8 h9 (sndE a hX h12).pe (sndE b hX h13).pe (sndE d hX h14).pe q fun z => (nomatch z)
      · cases h11
    · cases h
  | .ex e, c, X, s, hX, hp, h => by
    simp only [chkS] at h
    split at h
    · obtain ⟨h1, h2⟩ := ands h
      exact s_ex (sw_no h1) (sndE e hX h2).pe
    · cases h
  | .ret e, c, X, s, hX, hp, h => by
    simp only [chkS] at h
    split at h
    · exact s_ret (sndE e hX h).pe
    · split at h
      · exact s_retN
      · cases h
    · cases h
  | .ite q a b, c, X, s, hX, hp, h => by
    simp only [chkS] at h
    split at h
    · obtain ⟨h12, h3⟩ := ands h
      obtain ⟨h1, h2⟩ := ands h12
      exact s_if (sndE q hX h1).pt (sndSs a hX hp h2) (sndSs b hX hp h3)
    · cases h
  | .fo t it b, c, X, s, hX, hp, h => by
    simp only [chkS] at h
    split at h
    · obtain ⟨h, h4⟩ := ands h
      obtain ⟨h, h3⟩ := ands h
      obtain ⟨h1, h2⟩ := ands h
      exact s_for hp hX.calm h1 (sndI it hX h3) (sndT t hX h2) (sndSs b hX hp h4)
    · cases h
  | .wh q b, c, X, s, hX, hp, h => by
    simp only [chkS] at h
    split at h
    · obtain ⟨h1, h2⟩ := ands h
      exact s_wh hp (sndE q hX h1).pt (sndSs b hX hp h2)
    · cases h
  | .pass, c, X, s, hX, hp, h => by
    simp only [chkS] at h
    split at h
    · exact s_pass
    · exact s_doc
    · cases h
  | .brk, c, X, s, hX, hp, h => by
    simp only [chkS] at h
    split at h
    · exact s_brk
    · cases h
  | .cnt, c, X, s, hX, hp, h => by
    simp only [chkS] at h
    split at h
    · exact s_cnt
    · cases h
  | .nev, c, X, s, hX, hp, h => s_nev
  | .dpt i q e, c, X, s, hX, hp, h => by
    simp only [chkS] at h
    split at h
    · obtain ⟨h, h4⟩ := ands h
      obtain ⟨h, h3⟩ := ands h
      obtain ⟨h1, h2⟩ := ands h
      obtain ⟨q1, q2, q3, q4⟩ := slotB_of h1
      rw [← hX.N] at q1; rw [← hX.sc] at q2
      exact s_dpt hX.u65 q1 q2 q3 q4 (sndE q hX h3).pe (sndE e hX h4).pe (sw_no h2)
    · cases h
theorem sndSs : ∀ (iss : ISs) {c : SC} {X : Cx} {ss : List Stmt}, XOk pg k c X → PassesOwn (model X.prog X.w) X.A X.env X.xe → chkSs pg c iss ss = true → PSs X ss (tSs (pg.F k) pg.C X.K γ iss)
  | .nil, c, X, ss, hX, hp, h => by
    simp only [chkSs] at h
    split at h
    · exact s_nil
    · cases h
  | .cons s r, c, X, ss, hX, hp, h => by
    simp only [chkSs] at h
    split at h
    · obtain ⟨h1, h2⟩ := ands h
      exact s_cons (sndS s hX hp h1) (sndSs r hX hp h2)
    · cases h
end
end Rf

set_option Elab.async false
set_option linter.all false
set_option maxRecDepth 100000
set_option maxHeartbeats 4000000
/-! Rf: a def keeps its promise. -/
namespace Rf
open PySem PySem.Spec PyProof.Rows L2

section
variable {K : PySem.W.Frag} {γ : Gam} {G H G' H' : Hp} {env : Ev} {σ : L2.St}
theorem ArsR.get {i : Nat} {a : Ar} : ∀ {as : List Ar} {vs : List V} {i : Nat}, ArsR K G H as vs → as[i]? = some a → ∃ v, vs[i]? = some v ∧ ArR K G H a v
  | _, _, _, .nil, h => by simp at h
  | _, _, 0, .cons r _, h => by simp at h; subst h; exact ⟨_, rfl, r⟩
  | _, _, i + 1, .cons _ rr, h => by
    obtain ⟨v, h1, h2⟩ := ArsR.get (i := i) rr (by simpa using h)
    exact ⟨v, by simpa using h1, h2⟩
theorem io_mem {a : Addr} {xs : List D} : ∀ {as : List Ar} {vs : List V} {i : Nat}, as[i]? = some (.io xs) → vs[i]? = some (.ref a) → a ∈ ioAd as vs
  | [], _, _, h, _ => by simp at h
  | _ :: _, [], _, _, h => by simp at h
  | b :: as, v :: vs, 0, h1, h2 => by
    simp at h1 h2
    subst h1; subst h2
    exact List.mem_cons_self
  | b :: as, v :: vs, i + 1, h1, h2 => by
    have := io_mem (as := as) (vs := vs) (i := i) (by simpa using h1) (by simpa using h2)
    cases b with
    | io ys => cases v <;> first | exact List.mem_cons_of_mem _ this | exact this
    | pu d => cases v <;> exact this
    | sc ys => cases v <;> exact this
theorem io_inj {a : Addr} {xs ys : List D} : ∀ {as : List Ar} {vs : List V} {i j : Nat}, (ioAd as vs).Nodup → as[i]? = some (.io xs) → vs[i]? = some (.ref a) → as[j]? = some (.io ys) → vs[j]? = some (.ref a) → i = j
  | [], _, _, _, _, h, _, _, _ => by simp at h
  | _ :: _, [], _, _, _, _, h, _, _ => by simp at h
  | b :: as, v :: vs, 0, 0, _, _, _, _, _ => rfl
  | b :: as, v :: vs, 0, j + 1, nd, h1, h2, h3, h4 => by
    simp at h1 h2
    subst h1; subst h2
    have := io_mem (as := as) (vs := vs) (i := j) (by simpa using h3) (by simpa using h4)
    exact absurd this (List.nodup_cons.mp nd).1
  | b :: as, v :: vs, i + 1, 0, nd, h1, h2, h3, h4 => by
    simp at h3 h4
    subst h3; subst h4
    have := io_mem (as := as) (vs := vs) (i := i) (by simpa using h1) (by simpa using h2)
    exact absurd this (List.nodup_cons.mp nd).1
  | b :: as, v :: vs, i + 1, j + 1, nd, h1, h2, h3, h4 => by
    have nd' : (ioAd as vs).Nodup := by
      cases b with
      | io ys => cases v <;> first | exact (List.nodup_cons.mp nd).2 | exact nd
      | pu d => cases v <;> exact nd
      | sc ys => cases v <;> exact nd
    exact congrArg Nat.succ (io_inj nd' (by simpa using h1) (by simpa using h2) (by simpa using h3) (by simpa using h4))
theorem slOf_get : ∀ {as : List Ar} {t i : Nat} {s : Sl}, (slOf t as)[i]? = some s → ∃ a, as[i]? = some a ∧ s = (match a with | .pu d => .val d | .io xs => .own (t + i + 1) xs | .sc xs => .scr (t + i + 1) xs)
  | [], _, _, _, h => by simp [slOf] at h
  | a :: as, t, 0, s, h => by
    cases a <;> simp [slOf] at h <;> exact ⟨_, rfl, h.symm⟩
  | a :: as, t, i + 1, s, h => by
    have h' : (slOf (t + 1) as)[i]? = some s := by cases a <;> simpa [slOf] using h
    obtain ⟨b, h1, h2⟩ := slOf_get h'
    refine ⟨b, by simpa using h1, ?_⟩
    rw [h2]
    have e : t + 1 + i + 1 = t + (i + 1) + 1 := by omega
    cases b <;> simp only [e]
theorem slOf_len : ∀ (as : List Ar) (t : Nat), (slOf t as).length = as.length
  | [], _ => rfl
  | a :: as, t => by cases a <;> simp [slOf, slOf_len as (t + 1)]
/-- where the lists handed in stand -/
def tauOf (vs : List V) (t : Nat) : Addr := match vs[t - 1]? with
  | some (.ref a) => a
  | _ => 0
theorem entry_ok {as : List Ar} {vs : List V} {n : Nat} {N : List Str} (sub : Sub G H) (ar : ArsR K G H as vs) (nd : (ioAd as vs).Nodup) (hN : N.length = n) (hv : vs.length ≤ n) :
    Sr K ⟨tauOf vs, H⟩ G H (slOf 0 as ++ List.replicate (n - vs.length) .emp) (start N vs) ∧ ∀ a, Ow (slOf 0 as ++ List.replicate (n - vs.length) .emp) (start N vs) a → a ∈ ioAd as vs := by
  have la := ar.length
  have at1 : ∀ {i : Nat} {s : Sl}, (slOf 0 as ++ List.replicate (n - vs.length) Sl.emp)[i]? = some s → s = .emp ∨ ∃ a v, as[i]? = some a ∧ vs[i]? = some v ∧ ArR K G H a v ∧ (start N vs)[i]? = some (some v) ∧ s = (match a with | .pu d => .val d | .io xs => .own (i + 1) xs | .sc xs => .scr (i + 1) xs) := fun {i s} h => by
    by_cases hi : i < (slOf 0 as).length
    · rw [List.getElem?_append_left hi] at h
      obtain ⟨a, h1, h2⟩ := slOf_get h
      obtain ⟨v, h3, h4⟩ := ar.get (i := 0) h1
      refine .inr ⟨a, v, h1, h3, h4, ?_, by rw [h2]; cases a <;> simp⟩
      unfold L2.start
      rw [List.getElem?_append_left (by rw [List.length_map, ← la, ← slOf_len as 0]; exact hi), List.getElem?_map, h3]
      rfl
    · rw [List.getElem?_append_right (by omega), List.getElem?_replicate] at h
      split at h
      · cases h; exact .inl rfl
      · cases h
  have own1 : ∀ {i : Nat} {a : Addr}, OwnAt (slOf 0 as ++ List.replicate (n - vs.length) Sl.emp) (start N vs) i a → ∃ xs, as[i]? = some (.io xs) ∧ vs[i]? = some (.ref a) := fun {i a} ⟨⟨t, h, io⟩, h'⟩ => by
    rcases at1 h with z | ⟨b, v, h1, h2, h3, h4, h5⟩
    · subst z; cases io
    · rw [h4] at h'
      cases h'
      cases b <;> simp only at h5 <;> subst h5 <;> first | (cases io; done) | exact ⟨_, h1, h2⟩
  refine ⟨⟨sub, ?_, fun i s h => ?_, fun i j a h h' => ?_⟩, fun a ⟨i, h⟩ => ?_⟩
  · unfold L2.start
    rw [List.length_append, List.length_append, slOf_len, List.length_replicate, List.length_map, List.length_replicate, la, hN]
  · rcases at1 h with z | ⟨b, v, h1, h2, h3, h4, h5⟩
    · subst z; trivial
    · subst h5
      cases b with
      | pu d => exact ⟨v, h4, h3⟩
      | io xs =>
        obtain ⟨a, ys, rfl, q1, q2, q3⟩ := h3
        refine ⟨a, ys, h4, q1, q2, q3, fun z => (nomatch z), fun _ => ?_⟩
        show a = tauOf vs (i + 1)
        unfold tauOf
        rw [Nat.add_sub_cancel, h2]
      | sc xs =>
        obtain ⟨a, ys, rfl, q1, q2⟩ := h3
        exact ⟨a, ys, h4, q1, q2⟩
  · obtain ⟨xs, q1, q2⟩ := own1 h
    obtain ⟨ys, q3, q4⟩ := own1 h'
    exact io_inj nd q1 q2 q3 q4
  · obtain ⟨xs, q1, q2⟩ := own1 h
    exact io_mem q1 q2
theorem outs_ok {e : Ev} {σ' : L2.St} {G0 H0 : Hp} (s : Sr K γ G' H' e σ') : ∀ {as : List Ar} {vs : List V} {t : Nat} {outs : List (List D)}, ArsR K G0 H0 as vs → (∀ (j : Nat) (a : Addr), vs[j]? = some (.ref a) → γ.τ (t + j + 1) = a) → outsOf e t as = some outs → OutsR K G' H' (ioAd as vs) outs
  | _, _, _, _, .nil, _, h => by simp only [outsOf] at h; cases h; exact .nil
  | _, _, t, outs, .cons (a := b) (x := v) (as := as) (xs := vs) r rr, hτ, h => by
    have hτ' : ∀ (j : Nat) (a : Addr), vs[j]? = some (.ref a) → γ.τ (t + 1 + j + 1) = a := fun j a q => by
      have := hτ (j + 1) a (by simpa using q)
      have e1 : t + (j + 1) + 1 = t + 1 + j + 1 := by omega
      rw [e1] at this
      exact this
    cases b with
    | pu d =>
      simp only [outsOf] at h
      have := outs_ok s rr hτ' h
      cases v <;> exact this
    | sc xs =>
      simp only [outsOf] at h
      have := outs_ok s rr hτ' h
      cases v <;> exact this
    | io xs =>
      simp only [outsOf] at h
      split at h
      · rename_i u ys xss h1 h2
        split at h
        · rename_i hu
          cases h
          obtain ⟨a, zs, rfl, _⟩ := r
          obtain ⟨a', ws, q1, q2, q3, q4, q5, q6⟩ := s.slot t _ h1
          have e1 : a' = γ.τ u := q6 (by omega)
          have e2 := hτ 0 a rfl
          have e3 : a' = a := by rw [e1, hu, ← e2]
          subst e3
          exact .cons q2 q3 q4 (outs_ok s rr hτ' h2)
        · cases h
      · cases h
theorem rv_ok {e : Ev} {σ' : L2.St} {x : V} {o : Opd} {rv : Rv} (s : Sr K γ G' H' e σ') (r : OpdR K G' H' e σ' H x o) (h : rvOf e o = some rv) (h0 : γ.h0 = H) : RvR K G' H' H x rv := by
  cases o with
  | pu d => simp only [rvOf] at h; cases h; exact r
  | fr xs =>
    simp only [rvOf] at h; cases h
    obtain ⟨a, ys, q1, q2, q3, q4, _, q5⟩ := r
    exact ⟨a, ys, q1, q2, q3, q4, q5⟩
  | fo xs => simp only [rvOf] at h; cases h
  | fd xs => simp only [rvOf] at h; cases h
  | bo i =>
    have r' : σ'[i]? = some (some x) := r
    simp only [rvOf] at h
    split at h
    · rename_i xs q
      cases h
      obtain ⟨a, ys, w1, w2, w3, w4, w5, _⟩ := s.slot i _ q
      rw [r'] at w1; cases w1
      exact ⟨a, ys, rfl, w2, w3, w4, by rw [← h0]; exact w5 rfl⟩
    · cases h
end

theorem guards_deeper {A : Around} {env : Env} : (A.deeper env).guards = A.guards := by
  first | rfl | simp [Around.deeper]
theorem fnG_of {pg : Pg} {P : Program} {w : World} {K : PySem.W.Frag} {mg : Str → Option Value} {base : Heap} {k fi : Nat} {f : Addr} {name qual : Str} {params : Arguments} {body : List Stmt} {scope : Scope} {dV kV doc pm cdv ct oc : Value} {an od : Option Addr}
    {osl : Array (Option Value)} {N ps : List Str} {fn : Fn} (lk : K.lookup f = some ⟨oc, od, .func (PySem.W.fnOf name qual params body scope dV kV doc pm an cdv ct), osl⟩) (hcd : PySem.W.codeIn K cdv qual = true) (S : FnScope N ps scope)
    (hfn : pg.T[fi]? = some fn) (hnp : fn.np = ps.length) (hns : fn.ns = N.length) (hchk : chkSs pg ⟨N, scope, fun _ => true⟩ fn.body body = true) (hpg : PgOk pg k P w K mg base) :
    FnG P w K mg base (k + 1) f (PySem.W.fnOf name qual params body scope dV kV doc pm an cdv ct) ps (spF K (pg.F (k + 1)) fi ps.length) := by
  refine ⟨fun vs H Q E ⟨_, _, _, _, _, _, _, _, hl, _⟩ => hl, fun A outer s H args us vs Q E hr hgd e0 hb r hsp => ?_⟩
  obtain ⟨G, as, rv, outs, sub, ar, nd, hF, hl, cont⟩ := hsp
  have KX : K.In s.heap := e0.mod.kin.keeps fun b o e => (e0.bs b o e).1
  have lim : s.heap.NoLimit := e0.mod.nolimit.keeps fun b o e => (e0.bs b o e).1
  have hkind : ∀ y ∈ ps.zip us, scope.names.lookup y.1 = some .local ∨ (scope.names.lookup y.1 = some .cell ∧ ((cellsFrom (s.heap.objs.size + 1) scope.names []).lookup y.1).isSome = true) := fun ⟨n, v⟩ hy => by
    rcases S.par n (List.of_mem_zip hy).1 with q | q
    · exact .inl q
    · exact .inr ⟨q, PySem.W.cellsFrom_some _ _ _ (.inl q)⟩
  refine codeAny_call_function hr.depth (KX _ _ lk) rfl S.co S.gen rfl (PySem.W.codeRec_of KX hcd) (hb _ _ _ _ ?_)
  refine wpAny_newFunctionEnv_cells S.kind hkind fun env he s1 x => ?_
  subst he
  refine ⟨lim.keeps x.toInCall.keep, codeAny_func ?_⟩
  have I : Inv (cxOf (fun _ _ _ _ _ _ => False) P w K mg base N qual scope f cdv A outer s H (fun _ _ _ => False)) [] (start N vs) H s1 := inv_start S hr.hd e0 hl r x
  -- the run
  have hF' : callN pg.C pg.T (k + 1) fi as = some (rv, outs) := hF
  simp only [callN, hfn] at hF'
  simp only [runF] at hF'
  have hpl : ps.length ≤ N.length := by have := congrArg List.length S.pre; rw [List.length_take] at this; omega
  split at hF'
  · rename_i hnl
    split at hF'
    · rename_i fl hev
      have hX : XOk pg k ⟨N, scope, fun _ => true⟩ (cxOf (fun _ _ _ _ _ _ => False) P w K mg base N qual scope f cdv A outer s H (fun _ _ _ => False)) :=
        ⟨rfl, S.nd, rfl, rfl, rfl, hr.deeper _, by show (A.deeper _).guards = _; rw [guards_deeper]; exact hgd, hpg⟩
      have hp : PassesOwn (model P w) (A.deeper (envOfC qual scope s.heap.objs.size f cdv)) (envOfC qual scope s.heap.objs.size f cdv) (cxOf (fun _ _ _ _ _ _ => False) P w K mg base N qual scope f cdv A outer s H (fun _ _ _ => False)).xe := PassesOwn.leaving
      have ss := sndSs (γ := ⟨tauOf vs, H⟩) fn.body hX hp hchk
      obtain ⟨sr, own⟩ := entry_ok (N := N) sub ar nd rfl (by rw [hl]; exact hpl)
      have ens : fn.ns - fn.np = N.length - vs.length := by rw [hns, hnp, hl]
      rw [ens] at hev
      have hτ : ∀ (j : Nat) (a : Addr), vs[j]? = some (.ref a) → tauOf vs (0 + j + 1) = a := fun j a q => by
        unfold tauOf
        rw [Nat.zero_add, Nat.add_sub_cancel, q]
      have cq : ∀ {G' H' : Hp} {e' : Ev} {σ' : L2.St} {x : V} {os : List (List D)} {rv' : Rv}, Sr K ⟨tauOf vs, H⟩ G' H' e' σ' → Step (Ow (slOf 0 as ++ List.replicate (N.length - vs.length) Sl.emp) (start N vs)) G H (Ow e' σ') G' H' → outsOf e' 0 as = some os → RvR K G' H' H x rv' → CallQ K G H (ioAd as vs) os rv' G' H' x := fun {G' H' e' σ' x os rv'} s' st' ho hr' =>
        ⟨s'.sub, st'.g, fun a ob h n => st'.h a ob h fun z => n (own a z), fun a h1 h2 n => st'.n a h1 h2 fun z => n (own a z), st'.f, outs_ok s' ar hτ ho, hr'⟩
      have hq : tSs (pg.F k) pg.C K ⟨tauOf vs, H⟩ fn.body { nx := fun _ H' => Q .non H', rt := Q } (start N vs) H := by
        refine ⟨G, _, fl, fun _ h => h, sr, hev, ?_⟩
        cases fl with
        | nx e' =>
          simp only [finF] at hF'
          split at hF'
          · rename_i os ho
            cases hF'
            exact fun G' H' σ' s' st' => cont G' H' _ (cq s' st' ho .non)
          · cases hF'
        | rt o e' =>
          simp only [finF] at hF'
          split at hF'
          · rename_i rv' os hr' ho
            cases hF'
            exact fun G' H' σ' x s' st' ro => cont G' H' x (cq s' st' ho (rv_ok s' ro hr' rfl))
          · cases hF'
        | bk e' => simp only [finF] at hF'; cases hF'
        | ct e' => simp only [finF] at hF'; cases hF'
      refine wpAny_mono (ss.run [] s1 (start N vs) H _ I hq) (fun fl' s' hs => ?_) fun e s' hs => hs
      have fin : ∀ {σ' : L2.St} {H' : Hp} {v : V} {u : Value}, Inv (cxOf (fun _ _ _ _ _ _ => False) P w K mg base N qual scope f cdv A outer s H (fun _ _ _ => False)) [] σ' H' s' → RelV v u → Q v H' → CE outer P w H s Q u s' :=
        fun {σ' H' v u} J rv q => ⟨v, H', J.os, J.bare, J.base, J.hok, rv, q⟩
      cases fl' with
      | ret u =>
        obtain ⟨v, σ', H', J, rv, q⟩ := hs
        exact fin J rv q
      | next =>
        obtain ⟨σ', H', J, q⟩ := hs
        exact fin (v := V.non) (u := Value.none) J rfl q
      | brk =>
        obtain ⟨_, _, _, q⟩ := hs
        exact False.elim q
      | cont =>
        obtain ⟨_, _, _, q⟩ := hs
        exact False.elim q
    · cases hF'
  · cases hF'
end Rf

set_option Elab.async false
set_option linter.all false
set_option maxRecDepth 100000
set_option maxHeartbeats 4000000
/-! Rf: a whole program's defs keep their promises; the law's end. -/
namespace Rf
open PySem PySem.Spec PyProof.Rows L2

/-! ### binding -/
theorem look_none {n : Str} : ∀ {ps : List Str} {us : List Value}, n ∉ ps → (ps.zip us).lookup n = none
  | [], _, _ => rfl
  | _ :: _, [], _ => rfl
  | p :: ps, u :: us, h => by
    simp only [List.mem_cons, not_or] at h
    rw [List.zip_cons_cons, List.lookup_cons, beq_false_of_ne h.1]
    exact look_none h.2
theorem look_some {n : Str} : ∀ {ps : List Str} {us : List Value}, us.length = ps.length → n ∈ ps → ((ps.zip us).lookup n).isNone = false
  | [], _, _, h => by cases h
  | _ :: _, [], h, _ => by simp at h
  | p :: ps, u :: us, h, hm => by
    rw [List.zip_cons_cons, List.lookup_cons]
    by_cases q : n = p
    · subst q; simp
    · rw [beq_false_of_ne q]
      exact look_some (by simpa using h) ((List.mem_cons.mp hm).elim (fun z => absurd z q) id)
theorem fm_congr {α β : Type} {f g : α → Option β} : ∀ {l : List α}, (∀ a ∈ l, f a = g a) → l.filterMap f = l.filterMap g
  | [], _ => rfl
  | a :: l, h => by
    rw [List.filterMap_cons, List.filterMap_cons, h a List.mem_cons_self, fm_congr fun b hb => h b (List.mem_cons_of_mem _ hb)]
theorem look_zip : ∀ {ps : List Str} {us : List Value}, ps.Nodup → us.length = ps.length → ps.filterMap (fun n => ((ps.zip us).lookup n).map (n, ·)) = ps.zip us
  | [], us, _, _ => rfl
  | _ :: _, [], _, h => by simp at h
  | p :: ps, u :: us, nd, h => by
    obtain ⟨n1, n2⟩ := List.nodup_cons.mp nd
    rw [List.zip_cons_cons, List.filterMap_cons, List.lookup_cons, beq_self_eq_true]
    simp only [Option.map_some]
    congr 1
    refine Eq.trans (fm_congr fun n hn => ?_) (look_zip n2 (by simpa using h))
    have ne : n ≠ p := fun z => by subst z; exact n1 hn
    rw [List.lookup_cons, beq_false_of_ne ne]
theorem bind_pos {fd : FuncData} {as : List Arg} {kd : List (Option Expr)} (hp : fd.params = ⟨[], as, none, [], kd, none, []⟩) (hd : fd.defaults = .none) (nd : (as.map (·.arg)).Nodup) (us : List Value) (hl : us.length = as.length) :
    bindArgs fd ⟨us, []⟩ = pure ((as.map (·.arg)).zip us) := by
  have hl' : us.length = (as.map (·.arg)).length := by rw [List.length_map]; exact hl
  have h1 := look_zip nd hl'
  have h2 : ((as.map (·.arg)).take as.length).filter (fun n => (((as.map (·.arg)).zip us).lookup n).isNone) = [] := by
    rw [List.filter_eq_nil_iff]
    intro n hn
    rw [look_some hl' (List.mem_of_mem_take hn)]
    decide
  unfold bindArgs
  simp only [hp, hd]
  rw [show seqItems? Value.none = pure none from rfl]
  simp [hl, List.map_nil, List.nil_append, List.length_map, List.drop_nil, h2]
  rw [List.filterMap_map] at h1
  rw [h1]

/-! ### rows of defs -/
/-- a def: its name, parameters, body, scope, its names by slot, its IR -/
structure DR where
  x : Str
  a : Arguments
  b : List Stmt
  sc : Scope
  N : List Str
  fn : Fn
def DR.ps (d : DR) : List Str := d.a.args.map (·.arg)
def DR.D (d : DR) : He.DefD := ⟨(d.x, none), d.x, d.x, d.a, d.b, d.sc, [], []⟩
def findDef (x : Str) : List Stmt → Option (Arguments × List Stmt × Scope)
  | [] => none
  | .FunctionDef n a b _ _ _ sc _ _ _ :: r => if n = x then some (a, b, sc) else findDef x r
  | _ :: r => findDef x r
def mkDR (body : List Stmt) (q : Str × List Str × Fn) : DR := match findDef q.1 body with
  | some (a, b, sc) => ⟨q.1, a, b, sc, q.2.1, q.2.2⟩
  | none => ⟨q.1, ⟨[], [], none, [], [], none, []⟩, [], ⟨.function, [], false, false, []⟩, q.2.1, q.2.2⟩
def mkPg (drs : List DR) (gl : List (Str × D)) (bn : List Str) (gcd : Bool) (kws : List (Nat × List Str × List Nat)) : Pg := ⟨drs.map fun d => (d.x, d.ps, d.fn), gl, bn, gcd, kws⟩
def plainArgs (a : Arguments) : Bool := match a with
  | ⟨[], _, none, [], _, none, []⟩ => true
  | _ => false
def strNodup : List Str → Bool
  | [] => true
  | x :: r => !r.contains x && strNodup r
theorem strNodup_ok : ∀ {l : List Str}, strNodup l = true → l.Nodup
  | [], _ => .nil
  | x :: r, h => by
    obtain ⟨h1, h2⟩ := ands h
    refine List.nodup_cons.mpr ⟨fun z => ?_, strNodup_ok h2⟩
    simp [z] at h1
def chkDR (pg : Pg) (d : DR) : Bool :=
  plainArgs d.a && isFun d.sc && !d.sc.isCoroutine && !d.sc.isGenerator && strNodup d.N && decide (d.N.take d.ps.length = d.ps) && (d.ps.all fun x => match d.sc.names.lookup x with
    | some .local => true
    | some .cell => true
    | _ => false) && (d.sc.names.all fun y => match y.2 with
    | .free => false
    | _ => true) && Nat.beq d.fn.np d.ps.length && Nat.beq d.fn.ns d.N.length && chkSs pg ⟨d.N, d.sc, fun _ => true⟩ d.fn.body d.b
def KwAll (drs : List DR) : List (Nat × List Str × List Nat) → Prop
  | [] => True
  | (f, ks, p) :: r => (∃ d, drs[f]? = some d ∧ ∀ (kV doc pm : Value) (an : Option Addr) (cdv ct : Value) (ws : List Value), ws.length = ks.length → ∃ us, pick ws p = some us ∧ bindArgs (PySem.W.fnOf d.x d.x d.a d.b d.sc .none kV doc pm an cdv ct) ⟨[], ks.zip ws⟩ = pure (d.ps.zip us)) ∧ KwAll drs r
theorem KwAll.get {drs : List DR} : ∀ {l : List (Nat × List Str × List Nat)} {f : Nat} {ks : List Str} {p : List Nat}, KwAll drs l → (f, ks, p) ∈ l → ∃ d, drs[f]? = some d ∧ ∀ (kV doc pm : Value) (an : Option Addr) (cdv ct : Value) (ws : List Value), ws.length = ks.length → ∃ us, pick ws p = some us ∧ bindArgs (PySem.W.fnOf d.x d.x d.a d.b d.sc .none kV doc pm an cdv ct) ⟨[], ks.zip ws⟩ = pure (d.ps.zip us)
  | [], _, _, _, _, h => by cases h
  | (f, ks, p) :: r, _, _, _, k, h => by
    rcases List.mem_cons.mp h with e | h
    · cases e; exact k.1
    · exact KwAll.get k.2 h

/-! ### constants -/
mutual
def dvB (K : PySem.W.Frag) : D → Value → Bool
  | .none, .none => true
  | .bool a, .bool b => a == b
  | .int i, .int j _ => decide (i = j)
  | .str x, .str y _ => decide (x = y)
  | .tuple ds, .ref a => (match K.lookup a with
    | some ⟨.type c, _, .seq its _, _⟩ => decide (c = "tuple") && (decide (its.size ≤ sizeLine) && dvAll K ds its.toList)
    | _ => false)
  | _, _ => false
def dvAll (K : PySem.W.Frag) : List D → List Value → Bool
  | [], [] => true
  | d :: ds, u :: us => dvB K d u && dvAll K ds us
  | _, _ => false
end
mutual
theorem dv_ok {K : PySem.W.Frag} : ∀ (d : D) {u : Value}, dvB K d u = true → ∃ v, RelV v u ∧ ∀ G, Pu K G d v
  | .none, u, h => by
    cases u <;> simp only [dvB] at h <;> first | (cases h; done) | exact ⟨.non, rfl, fun _ => .non⟩
  | .bool a, u, h => by
    cases u <;> simp only [dvB] at h <;> first | (cases h; done) | skip
    have e := eq_of_beq h
    subst e
    exact ⟨.bl _, rfl, fun _ => .bl _⟩
  | .int i, u, h => by
    cases u <;> simp only [dvB] at h <;> first | (cases h; done) | skip
    have e := of_decide_eq_true h
    subst e
    exact ⟨.int _, ⟨_, rfl⟩, fun _ => .int _⟩
  | .str i, u, h => by
    cases u <;> simp only [dvB] at h <;> first | (cases h; done) | skip
    have e := of_decide_eq_true h
    subst e
    exact ⟨.str _, ⟨_, rfl⟩, fun _ => .str _⟩
  | .list ds, u, h => by simp only [dvB] at h; cases h
  | .dict ds, u, h => by simp only [dvB] at h; cases h
  | .tuple ds, u, h => by
    cases u <;> simp only [dvB] at h <;> first | (cases h; done) | skip
    rename_i a
    split at h
    · rename_i c od its n sl q
      obtain ⟨h1, h2⟩ := ands h
      obtain ⟨h2, h3⟩ := ands h2
      obtain ⟨vs, r, p⟩ := dvAll_ok ds h3
      exact ⟨.ref a, rfl, fun G => .tup (.inr ⟨_, its, n, q, congrArg Value.type (of_decide_eq_true h1), rfl, of_decide_eq_true h2, r⟩) (p G)⟩
    · cases h
theorem dvAll_ok {K : PySem.W.Frag} : ∀ (ds : List D) {us : List Value}, dvAll K ds us = true → ∃ vs, Vals vs us ∧ ∀ G, PuA K G ds vs
  | [], us, h => by
    cases us <;> simp only [dvAll] at h <;> first | (cases h; done) | exact ⟨[], .nil, fun _ => .nil⟩
  | d :: ds, us, h => by
    cases us <;> simp only [dvAll] at h <;> first | (cases h; done) | skip
    obtain ⟨h1, h2⟩ := ands h
    obtain ⟨v, r, p⟩ := dv_ok d h1
    obtain ⟨vs, rs, ps⟩ := dvAll_ok ds h2
    exact ⟨v :: vs, .cons r rs, fun G => .cons (p G) (ps G)⟩
end

/-! ### the Hook -/
open He in
def chkK (pg : Pg) (K : PySem.W.Frag) : Bool := (pg.fns.all fun q => eqO (PySem.W.nsIn K mainGlobals q.1) (some (some (.ref (ga K q.1))))) && (pg.bn.all fun x => eqO (PySem.W.nsIn K mainGlobals x) (some none)) &&
  (!pg.gcd || eqO (PySem.W.nsIn K mainGlobals "gcd") (some (some (.builtin "math.gcd")))) && (pg.gl.all fun q => match PySem.W.nsIn K mainGlobals q.1 with
    | some (some v) => dvB K q.2 v
    | _ => false)
open He in
def obsR (pg : Pg) (fn : List DefD) (K : PySem.W.Frag) : AlD := (chkK pg K && fn.all fun d => d.ok K, fn.map fun d => fnW K d.at_)
open He in
def hookR (n : Nat) (pg : Pg) (fn : List DefD) : PySem.W.Hook where
  α := AlD
  obs := fun s => obsR pg fn (frG s.heap.get? (asD s.heap.get? n))
  val := fun _ => valD fn
  says := fun _ h => ∃ K : PySem.W.Frag, K.In h ∧ obsR pg fn K = valD fn
  of := fun _ _ e => ⟨_, frG_in, e⟩
  keeps := fun _ _ _ ⟨K, hK, c⟩ k => ⟨K, PySem.W.Frag.In.keeps hK k, c⟩
open He in
def obR (n : Nat) (pg : Pg) (fn : List DefD) (s : PySem.W.SharedT) : AlD := obsR pg fn (frG (HandSHeadRun.getT s) (asD (HandSHeadRun.getT s) n))
theorem obR_eq {n : Nat} {pg : Pg} {fn : List He.DefD} (s : PySem.W.SharedT) : obR n pg fn s = (hookR n pg fn).obs s.abs := by
  have e : HandSHeadRun.getT s = s.abs.heap.get? := funext (HandSHeadRun.getT_eq s)
  unfold obR
  rw [e]
  rfl
section
variable {pg : Pg} {fn : List He.DefD} {K : PySem.W.Frag}
theorem says_chk (c : obsR pg fn K = He.valD fn) : chkK pg K = true := (ands (show (chkK pg K && fn.all fun d => d.ok K) = true from congrArg (fun z : He.AlD => z.1) c)).1
theorem says_def (c : obsR pg fn K = He.valD fn) {i : Nat} {d : He.DefD} (h : fn[i]? = some d) : ∃ fd, FunD K d.name d.qual d.params d.body d.scope (d.dvs K) (d.kws K) (He.fAd K d.at_) fd := by
  have c2 := (ands (show (chkK pg K && fn.all fun d => d.ok K) = true from congrArg (fun z : He.AlD => z.1) c)).2
  have e : fn.map (fun d => He.fnW K d.at_) = fn.map He.DefD.val := congrArg (fun z : He.AlD => z.2) c
  have e2 : (fn.map fun d => He.fnW K d.at_)[i]? = (fn.map He.DefD.val)[i]? := by rw [e]
  rw [List.getElem?_map, List.getElem?_map, h] at e2
  exact He.DefD.funD (Option.some.inj e2) (List.all_eq_true.mp c2 d (List.mem_of_getElem? h))
end

/-! ### every def keeps its promise -/
theorem fn_zero {pg : Pg} {P : Program} {w : World} {K : PySem.W.Frag} {mg : Str → Option Value} {base : Heap} {a : Addr} {fd : FuncData} {f : Nat} {ps : List Str} : FnG P w K mg base 0 a fd ps (spF K (pg.F 0) f ps.length) :=
  ⟨fun vs H Q E ⟨_, _, _, _, _, _, _, _, hl, _⟩ => hl, fun A outer s H args us vs Q E _ _ _ _ _ ⟨_, _, _, _, _, _, _, hF, _⟩ => by cases hF⟩
theorem fn_succ {pg : Pg} {P : Program} {w : World} {K : PySem.W.Frag} {mg : Str → Option Value} {base : Heap} {fd : FuncData} {f k : Nat} {d : DR} (F : FunD K d.x d.x d.a d.b d.sc [] [] (He.ga K d.x) fd) (hck : chkDR pg d = true) (hT : pg.T[f]? = some d.fn) (ih : PgOk pg k P w K mg base) :
    FnG P w K mg base (k + 1) (He.ga K d.x) fd d.ps (spF K (pg.F (k + 1)) f d.ps.length) := by
  obtain ⟨oc, od, dV, kV, doc, pm, an, cdv, ct, osl, efd, lk, hcd, hD, hK⟩ := F.ex
  subst efd
  unfold chkDR at hck
  simp only [Bool.and_eq_true] at hck
  obtain ⟨⟨⟨⟨⟨⟨⟨⟨⟨⟨k1, k2⟩, k3⟩, k4⟩, k5⟩, k6⟩, k7⟩, k8⟩, k9⟩, k10⟩, k11⟩ := hck
  have S : FnScope d.N d.ps d.sc := by
    refine ⟨isFun_of k2, by simpa using k3, by simpa using k4, strNodup_ok k5, of_decide_eq_true k6, fun x hx => ?_, fun y hy z => ?_⟩
    · have q := List.all_eq_true.mp k7 x hx
      split at q
      · rename_i e; exact .inl e
      · rename_i e; exact .inr e
      · cases q
    · have q := List.all_eq_true.mp k8 y hy
      rw [z] at q
      cases q
  exact fnG_of lk hcd S hT (Nat.eq_of_beq_eq_true k9) (Nat.eq_of_beq_eq_true k10) k11 ih
theorem pgOk {drs : List DR} {gl : List (Str × D)} {bn : List Str} {gcd : Bool} {kws : List (Nat × List Str × List Nat)} {P : Program} {w : World} {K : PySem.W.Frag} {mg : Str → Option Value} {base h : Heap} (X : K.In h) (G : h.Ns mainGlobals mg)
    (c : obsR (mkPg drs gl bn gcd kws) (drs.map DR.D) K = He.valD (drs.map DR.D)) (hchk : drs.all (chkDR (mkPg drs gl bn gcd kws)) = true) (hkw : KwAll drs kws) : ∀ k, PgOk (mkPg drs gl bn gcd kws) k P w K mg base := by
  have cc := says_chk c
  unfold chkK at cc
  obtain ⟨cc, c4⟩ := ands cc
  obtain ⟨cc, c3⟩ := ands cc
  obtain ⟨c1, c2⟩ := ands cc
  have key : ∀ k, (∀ (f : Nat) (d : DR), drs[f]? = some d → ∀ fd, FunD K d.x d.x d.a d.b d.sc [] [] (He.ga K d.x) fd → FnG P w K mg base k (He.ga K d.x) fd d.ps (spF K ((mkPg drs gl bn gcd kws).F k) f d.ps.length)) → PgOk (mkPg drs gl bn gcd kws) k P w K mg base := fun k hF => by
    refine ⟨fun n y d hq => ?_, fun x hx => ?_, fun hg => ?_, fun f x ps fn hq => ?_⟩
    · have q := List.all_eq_true.mp c4 (y, d) (List.mem_of_getElem? hq)
      dsimp only at q
      split at q
      · rename_i v e
        obtain ⟨v', r, p⟩ := dv_ok d q
        exact ⟨v', v, PySem.W.mg_of X G e, r, p⟩
      · cases q
    · exact PySem.W.mg_none_of X G (He.eqO_ok (List.all_eq_true.mp c2 x hx))
    · have hg' : gcd = true := hg
      have q : (!gcd || He.eqO (PySem.W.nsIn K mainGlobals "gcd") (some (some (.builtin "math.gcd")))) = true := c3
      rw [hg'] at q
      exact PySem.W.mg_of X G (He.eqO_ok q)
    · have hq' : (drs.map fun d => (d.x, d.ps, d.fn))[f]? = some (x, ps, fn) := hq
      rw [List.getElem?_map] at hq'
      obtain ⟨d, hd, e⟩ := Option.map_eq_some_iff.mp hq'
      cases e
      obtain ⟨fd, F⟩ := says_def c (i := f) (d := d.D) (by rw [List.getElem?_map, hd]; rfl)
      have F' : FunD K d.x d.x d.a d.b d.sc [] [] (He.ga K d.x) fd := F
      have hck := List.all_eq_true.mp hchk d (List.mem_of_getElem? hd)
      unfold chkDR at hck
      simp only [Bool.and_eq_true] at hck
      obtain ⟨⟨⟨⟨⟨⟨⟨⟨⟨⟨k1, k2⟩, k3⟩, k4⟩, k5⟩, k6⟩, k7⟩, k8⟩, k9⟩, k10⟩, k11⟩ := hck
      have hnp : d.fn.np = d.ps.length := Nat.eq_of_beq_eq_true k9
      have q := List.all_eq_true.mp c1 (d.x, d.ps, d.fn) (List.mem_map.mpr ⟨d, List.mem_of_getElem? hd, rfl⟩)
      refine ⟨He.ga K d.x, fd, PySem.W.mg_of X G (He.eqO_ok q), F'.kp, hnp, ⟨fun s us _ hl => ?_, fun ks p hm s ws _ hl => ?_⟩, hF f d hd fd F'⟩
      · have nd : d.ps.Nodup := by
          have e := of_decide_eq_true k6
          rw [← e]
          exact (strNodup_ok k5).sublist (List.take_sublist _ _)
        refine FunD.bindsA (ps := d.ps) F' (fun kV doc pm an cdv ct us' hl' => ?_) s us hl
        have ha : ∃ as kd, d.a = ⟨[], as, none, [], kd, none, []⟩ := by
          unfold plainArgs at k1
          split at k1
          · rename_i as kd e; exact ⟨as, kd, e⟩
          · cases k1
        obtain ⟨as, kd, ha⟩ := ha
        have e1 : d.ps = as.map (·.arg) := by unfold DR.ps; rw [ha]
        rw [e1] at hl' nd ⊢
        exact bind_pos (kd := kd) (show (PySem.W.fnOf d.x d.x d.a d.b d.sc .none kV doc pm an cdv ct).params = _ from ha) rfl nd us' (by simpa using hl')
      · obtain ⟨d', hd', hb⟩ := hkw.get hm
        rw [hd] at hd'
        cases hd'
        obtain ⟨oc, od, dV, kV, doc, pm, an, cdv, ct, osl, efd, lk, hcd, hD, hK⟩ := F'.ex
        obtain ⟨us, p1, p2⟩ := hb kV doc pm an cdv ct ws hl
        refine ⟨us, p1, ?_⟩
        rcases hD with ⟨_, e⟩ | ⟨e, _⟩
        · subst e; subst efd
          exact .of_eq p2
        · exact absurd rfl e
  intro k
  induction k with
  | zero => exact key 0 fun f d hd fd F => fn_zero
  | succ k ih => exact key (k + 1) fun f d hd fd F => fn_succ F (List.all_eq_true.mp hchk d (List.mem_of_getElem? hd)) (by
      show ((drs.map fun d => (d.x, d.ps, d.fn)).map (·.2.2))[f]? = some d.fn
      rw [List.map_map, List.getElem?_map, hd]; rfl) ih
/-- the same, by the def's own datum -/
theorem fn_all {drs : List DR} {gl : List (Str × D)} {bn : List Str} {gcd : Bool} {kws : List (Nat × List Str × List Nat)} {P : Program} {w : World} {K : PySem.W.Frag} {mg : Str → Option Value} {base h : Heap} (X : K.In h) (G : h.Ns mainGlobals mg)
    (c : obsR (mkPg drs gl bn gcd kws) (drs.map DR.D) K = He.valD (drs.map DR.D)) (hchk : drs.all (chkDR (mkPg drs gl bn gcd kws)) = true) (hkw : KwAll drs kws) {f : Nat} {d : DR} (hd : drs[f]? = some d) {fd : FuncData} (F : FunD K d.x d.x d.a d.b d.sc [] [] (He.ga K d.x) fd) :
    ∀ k, FnG P w K mg base k (He.ga K d.x) fd d.ps (spF K ((mkPg drs gl bn gcd kws).F k) f d.ps.length)
  | 0 => fn_zero
  | k + 1 => fn_succ F (List.all_eq_true.mp hchk d (List.mem_of_getElem? hd)) (by
      show ((drs.map fun d => (d.x, d.ps, d.fn)).map (·.2.2))[f]? = some d.fn
      rw [List.map_map, List.getElem?_map, hd]; rfl) (pgOk X G c hchk hkw k)

/-! ### the law's end -/
theorem scr_of {K : PySem.W.Frag} {H : Hp} {a : Addr} {ys : List V} (hO : Only H) (hS : SqL K H a ys) : ScrR K H a ys := by
  rcases hS with (h | h) | h
  · rcases hO a with z | ⟨o, xs, z⟩
    · rw [h] at z; cases z
    · rw [h] at z; cases z
  · exact .inl h
  · exact .inr fun H' => .inr h
theorem pu_ints {K : PySem.W.Frag} {G : Hp} : ∀ ns : List Int, PuA K G (ns.map .int) (ns.map V.int)
  | [] => .nil
  | n :: ns => .cons (.int n) (pu_ints ns)
theorem sp_law {K : PySem.W.Frag} {F : FT} {f : Nat} {H : Hp} {a : Addr} {ns : List Int} {Q : VK} {E : XK} (hO : Only H) (hS : SqL K H a (ns.map V.int)) (h : F f [.sc (ns.map .int)] = some (.pu (.bool true), [])) (q : ∀ H', Q (.bl true) H') : spF K F f 1 [.ref a] H Q E := by
  refine ⟨fun _ => none, [.sc (ns.map .int)], _, _, fun _ _ z => (nomatch z), .cons ⟨a, ns.map V.int, rfl, scr_of hO hS, pu_ints ns⟩ .nil, .nil, h, rfl, fun G' H' x c => ?_⟩
  have r : Pu K G' (.bool true) x := c.r
  cases r
  exact q H'
end Rf

set_option Elab.async false
set_option linter.all false
set_option maxRecDepth 100000
set_option maxHeartbeats 4000000
/-! Rf: from the defs' promises to the law's word. -/
namespace Rf
open PySem PySem.Spec PyProof.Rows L2

section
variable {P : Program} {w : World} {K : PySem.W.Frag} {mg mb : Str → Option Value} {k : Nat} {fa a : Addr} {fd : FuncData} {x : Str} {sp : Sp} {s₁ : Shared} {vs : List Value} {ns : List Int}
/-- the call from the top, at an abstract heap that tracks the script alone or nothing -/
theorem call_at (KX : K.In s₁.heap) (hns : s₁.heap.Ns mainGlobals mg) (hb : s₁.heap.Ns builtinsNs mb) (hbb : ∀ x : Str, x ≠ "__name__" → mb x = bootBuiltins x) (hlim : s₁.heap.NoLimit) (hg : s₁.gens = #[])
    (ha : s₁.heap.get? a = some { cls := .type "list", data := .seq vs.toArray }) (hr : Room k callerA) (F : ∀ base : Heap, K.In base → base.Ns mainGlobals mg → FnG P w K mg base k fa fd [x] sp) (hbind : ∀ (s : Shared) (u : Value), BindsTo s fd ⟨[u], []⟩ [(x, u)])
    {H : Hp} (hO : Only H) (hok : HOk P w H s₁.heap) (hA : ∀ b, H b ≠ none → b = a) (hK : H a ≠ none → K.lookup a = none) (hsp : sp [.ref a] H (fun v _ => v = .bl true) fun _ _ _ => False) :
    codeAny (model P w) callerA (.call (.ref fa) ⟨[.ref a], []⟩) (fun r s' => r = .ok (.ret (.bool true)) ∧ OldK s₁.heap s'.heap ∧ s'.os = s₁.os ∧ AllBare s'.gens) s₁ := by
  have free : ∀ {b : Addr} {o : Obj}, s₁.heap.get? b = some o → b ≠ a → H b = none := fun {b o} _ nb => by
    cases q : H b with
    | none => rfl
    | some u => exact absurd (hA b (by rw [q]; simp)) nb
  have dictFree : ∀ {b : Addr} {o : Obj} {es : Array DictEntry} {ep : Nat}, s₁.heap.get? b = some o → o.data = .dict es ep → H b = none := fun {b o es ep} e d => free e fun z => by
    subst z
    rw [ha] at e
    cases e
    have d' : Data.seq vs.toArray _ = Data.dict es ep := d
    cases d'
  have ns' : ∀ {b : Addr} {m : Str → Option Value}, s₁.heap.Ns b m → (hidT s₁.heap H).Ns b m := fun {b m} ⟨o, es, ep, e, d, r⟩ => ⟨o, es, ep, hidT_get e (dictFree e d), d, r⟩
  have kin : K.In (hidT s₁.heap H) := fun b o e => hidT_get (KX b o e) (by
    cases q : H b with
    | none => rfl
    | some u =>
      have z := hA b (by rw [q]; simp)
      subst z
      rw [hK (by rw [q]; simp)] at e
      cases e)
  have md : Mod K mg (hidT s₁.heap H) := ⟨kin, ns' hns, ⟨mb, ns' hb, hbb⟩, let ⟨mc, h1, h2⟩ := hlim; ⟨mc, ns' h1, h2⟩⟩
  have ev : Env0 P w K mg (hidT s₁.heap H) callerA [] s₁ H := ⟨rfl, md, fun b o e => of_hidT e, Nat.le_of_eq (hidT_size _ _), trivial, fun b hb => absurd (show b ∈ ([] : List Addr) from hb) (by simp), hok, .of_eq hg⟩
  refine codeAny_mono ((F _ kin (ns' hns)).run callerA [] s₁ H ⟨[.ref a], []⟩ [.ref a] [.ref a] _ _ hr rfl ev (hbind s₁ (.ref a)) (.cons rfl .nil) hsp) fun r s' h => ?_
  rcases r with e | fl
  · exact False.elim h
  · cases fl with
    | next => exact False.elim h
    | brk => exact False.elim h
    | cont => exact False.elim h
    | ret u =>
      obtain ⟨v, H', os, bare, un, hok', rv, q⟩ := h
      have q' : v = .bl true := q
      subst q'
      have hu : u = Value.bool true := rv
      subst hu
      refine ⟨rfl, OldK.of_keep fun b o e => ?_, os, bare⟩
      rcases hO b with z | ⟨ob, xs, z⟩
      · exact un.keep b o e z (by intro y; exact absurd (show b ∈ ([] : List Addr) from y) (by simp)) (by simp)
      · obtain ⟨e1, _⟩ := hok b _ z
        obtain ⟨e2, _⟩ := hok' b _ (un.frzs b ob _ z)
        rw [e] at e1
        cases e1
        exact e2
theorem call_top (KX : K.In s₁.heap) (hns : s₁.heap.Ns mainGlobals mg) (hb : s₁.heap.Ns builtinsNs mb) (hbb : ∀ x : Str, x ≠ "__name__" → mb x = bootBuiltins x) (hlim : s₁.heap.NoLimit) (hg : s₁.gens = #[])
    (ha : s₁.heap.get? a = some { cls := .type "list", data := .seq vs.toArray }) (hi : IntsAre vs ns) (hl : ns.length ≤ sizeLine) (hr : Room k callerA) (F : ∀ base : Heap, K.In base → base.Ns mainGlobals mg → FnG P w K mg base k fa fd [x] sp)
    (hbind : ∀ (s : Shared) (u : Value), BindsTo s fd ⟨[u], []⟩ [(x, u)]) (hsp : ∀ H : Hp, Only H → SqL K H a (ns.map V.int) → sp [.ref a] H (fun v _ => v = .bl true) fun _ _ _ => False) :
    codeAny (model P w) callerA (.call (.ref fa) ⟨[.ref a], []⟩) (fun r s' => r = .ok (.ret (.bool true)) ∧ OldK s₁.heap s'.heap ∧ s'.os = s₁.os ∧ AllBare s'.gens) s₁ := by
  have rv := vals_ints hi
  have lv := hi.length
  cases hk : K.lookup a with
  | some o =>
    have e := KX a o hk
    rw [ha] at e
    cases e
    have hO : Only fun _ => none := fun _ => .inl rfl
    exact call_at KX hns hb hbb hlim hg ha hr F hbind (H := fun _ => none) hO (fun b u z => nomatch z) (fun b z => absurd rfl z) (fun z => absurd rfl z)
      (hsp _ hO (.inr ⟨_, vs.toArray, _, hk, rfl, rfl, rfl, by rw [List.size_toArray, lv]; exact hl, by simpa using rv⟩))
  | none =>
    let H1 : Hp := upd (fun _ => none) a (.frz { cls := .type "list", data := .seq vs.toArray } (.lst (ns.map V.int)))
    have at_a : H1 a = some (.frz { cls := .type "list", data := .seq vs.toArray } (.lst (ns.map V.int))) := upd_same
    have off : ∀ b, b ≠ a → H1 b = none := fun b n => upd_ne n
    have hO : Only H1 := fun b => by
      by_cases q : b = a
      · subst q; exact .inr ⟨_, _, at_a⟩
      · exact .inl (off b q)
    refine call_at KX hns hb hbb hlim hg ha hr F hbind (H := H1) hO (fun b u z => ?_) (fun b z => ?_) (fun _ => hk) (hsp _ hO (.inl (.inr ⟨_, at_a⟩)))
    · by_cases q : b = a
      · subst q
        rw [at_a] at z
        cases z
        exact ⟨ha, by rw [List.length_map]; exact hl, vs, _, rv, ha⟩
      · rw [off b q] at z; cases z
    · by_cases q : b = a
      · exact q
      · exact absurd (off b q) z
end
/-- the law's end, over a head by facts -/
theorem walk_G {l : PySem.W.OpenLaw} {n k : Nat} {q : Program} {loose : List Str} {XP : (Str → Option Value) → Heap → Prop} {YP : World → Heap → Prop} {d : DefRec} {x : Str} (hn : l.most = some n) (hn2 : n ≤ sizeLine) (hdf : d.params.defaults = []) (hr : Room k callerA)
    (F : ∀ (w : World) (mg : Str → Option Value) (fa : Addr) (h : Heap), YP w h → h.Ns mainGlobals mg → mg d.name = some (.ref fa) →
      ∃ (K : PySem.W.Frag) (fd : FuncData) (sp : Sp), K.In h ∧ (∀ (s : Shared) (u : Value), BindsTo s fd ⟨[u], []⟩ [(x, u)]) ∧
        (∀ (H : Hp) (a : Addr) (ns : List Int), ns.length ≤ n → Only H → SqL K H a (ns.map V.int) → sp [.ref a] H (fun v _ => v = .bl true) fun _ _ _ => False) ∧
        ∀ base : Heap, K.In base → base.Ns mainGlobals mg → FnG l.prog w K mg base k fa fd [x] sp) :
    PySem.W.WalkO q loose XP YP l.row.toRowW d [] (fun f vs => PySem.call f vs) := by
  refine Att.attach_call hn hdf fun w s₀ s₁ mg mb fa o pm cd doc a vs ns G Y ho hd hcd hmg hobj hints hlen hg => ?_
  obtain ⟨K, fd, sp, KX, hb, hsp, hF⟩ := F w mg fa _ Y G.T.g hmg
  exact call_top KX G.T.g G.T.b G.T.builtins G.T.nolimit hg hobj hints (Nat.le_trans hlen hn2) hr hF hb fun H hO hS => hsp H a ns hlen hO hS
/-- what the law's def promises -/
theorem law_F {drs : List DR} {gl : List (Str × D)} {bn : List Str} {gcd : Bool} {kws : List (Nat × List Str × List Nat)} {P : Program} {w : World} {n k li : Nat} {d : DR} {x : Str} {mg : Str → Option Value} {fa : Addr} {h : Heap} (hchk : drs.all (chkDR (mkPg drs gl bn gcd kws)) = true) (hkw : KwAll drs kws)
    (hd : drs[li]? = some d) (hps : d.ps = [x]) (hev : ∀ ns : List Int, ns.length ≤ n → (mkPg drs gl bn gcd kws).F k li [.sc (ns.map .int)] = some (.pu (.bool true), []))
    (Y : ∃ K : PySem.W.Frag, K.In h ∧ obsR (mkPg drs gl bn gcd kws) (drs.map DR.D) K = He.valD (drs.map DR.D)) (G : h.Ns mainGlobals mg) (hfa : mg d.x = some (.ref fa)) :
    ∃ (K : PySem.W.Frag) (fd : FuncData) (sp : Sp), K.In h ∧ (∀ (s : Shared) (u : Value), BindsTo s fd ⟨[u], []⟩ [(x, u)]) ∧
        (∀ (H : Hp) (a : Addr) (ns : List Int), ns.length ≤ n → Only H → SqL K H a (ns.map V.int) → sp [.ref a] H (fun v _ => v = .bl true) fun _ _ _ => False) ∧
        ∀ base : Heap, K.In base → base.Ns mainGlobals mg → FnG P w K mg base k fa fd [x] sp := by
  obtain ⟨K, KX, c⟩ := Y
  have hq : (mkPg drs gl bn gcd kws).fns[li]? = some (d.x, d.ps, d.fn) := by
    show (drs.map fun d => (d.x, d.ps, d.fn))[li]? = _
    rw [List.getElem?_map, hd]; rfl
  obtain ⟨fd, FD⟩ := says_def c (i := li) (d := d.D) (by rw [List.getElem?_map, hd]; rfl)
  have FD' : FunD K d.x d.x d.a d.b d.sc [] [] (He.ga K d.x) fd := FD
  have e : fa = He.ga K d.x := by
    have ok := pgOk (P := P) (w := w) (base := h) KX G c hchk hkw 0
    have cc := says_chk c
    unfold chkK at cc
    obtain ⟨cc, _⟩ := ands cc
    obtain ⟨cc, _⟩ := ands cc
    obtain ⟨c1, _⟩ := ands cc
    have q := List.all_eq_true.mp c1 (d.x, d.ps, d.fn) (List.mem_of_getElem? hq)
    have m := PySem.W.mg_of KX G (He.eqO_ok q)
    rw [hfa] at m
    cases m; rfl
  refine ⟨K, fd, spF K ((mkPg drs gl bn gcd kws).F k) li 1, KX, fun s u => ?_, fun H a ns hl hO hS => sp_law hO hS (hev ns hl) fun _ => rfl, fun base KB GB => ?_⟩
  · have hck := List.all_eq_true.mp hchk d (List.mem_of_getElem? hd)
    unfold chkDR at hck
    simp only [Bool.and_eq_true] at hck
    obtain ⟨⟨⟨⟨⟨⟨⟨⟨⟨⟨k1, k2⟩, k3⟩, k4⟩, k5⟩, k6⟩, k7⟩, k8⟩, k9⟩, k10⟩, k11⟩ := hck
    have ha : ∃ as kd, d.a = ⟨[], as, none, [], kd, none, []⟩ := by
      unfold plainArgs at k1
      split at k1
      · rename_i as kd e; exact ⟨as, kd, e⟩
      · cases k1
    obtain ⟨as, kd, ha⟩ := ha
    have e1 : d.ps = as.map (·.arg) := by unfold DR.ps; rw [ha]
    have nd : (as.map (·.arg)).Nodup := by rw [← e1, hps]; simp
    have b := FunD.bindsA (ps := d.ps) FD' (fun kV doc pm an cdv ct us' hl' => by
      rw [e1] at hl' ⊢
      exact bind_pos (kd := kd) (show (PySem.W.fnOf d.x d.x d.a d.b d.sc .none kV doc pm an cdv ct).params = _ from ha) rfl nd us' (by simpa using hl')) s [u] (by rw [hps]; rfl)
    rw [hps] at b
    exact b
  · have z := fn_all (P := P) (w := w) (base := base) KX G c hchk hkw hd FD' k
    rw [hps, ← e] at z
    exact z
end Rf

set_option Elab.async false
set_option linter.all false
set_option maxRecDepth 100000
set_option maxHeartbeats 4000000
/-! Rf: loops of the evaluator, for the plain laws. -/
namespace Rf
open PySem

/-- a comprehension: what holds between turns, what each value is -/
theorem lc_inv {st : D → Ev → Option Ev} {ts : Ev → Option (Bool × Ev)} {el : Ev → Option (D × Ev)} {own : List Nat} (I : List D → List D → Ev → Prop)
    (h : ∀ d ds xs e, I (d :: ds) xs e → ∃ e1 b e2, st d e = some e1 ∧ ts e1 = some (b, e2) ∧ (b = false → I ds xs (wipeE e2 own)) ∧ (b = true → ∃ x e3, el e2 = some (x, e3) ∧ I ds (xs ++ [x]) (wipeE e3 own))) :
    ∀ (ds xs : List D) (e : Ev), I ds xs e → ∃ ys e', lcLoop st ts el own ds e = some (ys, e') ∧ I [] (xs ++ ys) e'
  | [], xs, e, hI => ⟨[], e, rfl, by simpa using hI⟩
  | d :: ds, xs, e, hI => by
    obtain ⟨e1, b, e2, h1, h2, h3, h4⟩ := h d ds xs e hI
    cases b with
    | false =>
      obtain ⟨ys, e', q1, q2⟩ := lc_inv I h ds xs _ (h3 rfl)
      exact ⟨ys, e', by simp only [lcLoop, h1, h2, q1], q2⟩
    | true =>
      obtain ⟨x, e3, q, hI'⟩ := h4 rfl
      obtain ⟨ys, e', q1, q2⟩ := lc_inv I h ds (xs ++ [x]) _ hI'
      exact ⟨x :: ys, e', by simp only [lcLoop, h1, h2, q, q1], by simpa using q2⟩
/-- .. that leaves the slots as they were: what comes of each item is told by f -/
theorem lc_map {st : D → Ev → Option Ev} {ts : Ev → Option (Bool × Ev)} {el : Ev → Option (D × Ev)} {own : List Nat} {e : Ev} (f : D → Option D) :
    ∀ (ds : List D), (∀ d ∈ ds, ∃ e1 b e2, st d e = some e1 ∧ ts e1 = some (b, e2) ∧ (b = false → wipeE e2 own = e ∧ f d = none) ∧ (b = true → ∃ x e3, el e2 = some (x, e3) ∧ wipeE e3 own = e ∧ f d = some x)) →
      lcLoop st ts el own ds e = some (ds.filterMap f, e)
  | [], _ => rfl
  | d :: ds, h => by
    obtain ⟨e1, b, e2, h1, h2, h3, h4⟩ := h d List.mem_cons_self
    have ih := lc_map f ds fun x hx => h x (List.mem_cons_of_mem _ hx)
    cases b with
    | false =>
      obtain ⟨w, q⟩ := h3 rfl
      simp only [lcLoop, h1, h2, w, ih, List.filterMap_cons, q]
    | true =>
      obtain ⟨x, e3, q, w, qf⟩ := h4 rfl
      simp only [lcLoop, h1, h2, q, w, ih, List.filterMap_cons, qf]
/-- for: what holds before each turn; Q: how it may end -/
theorem fo_inv {st : D → Ev → Option Ev} {bd : Ev → Option Fl} (I : List D → Ev → Prop) (Q : Fl → Prop) (h0 : ∀ e, I [] e → Q (.nx e))
    (h : ∀ d ds e, I (d :: ds) e → ∃ e1 fl, st d e = some e1 ∧ bd e1 = some fl ∧ (match fl with | .nx e2 => I ds e2 | .ct e2 => I ds e2 | .bk e2 => Q (.nx e2) | .rt o e2 => Q (.rt o e2))) :
    ∀ (ds : List D) (e : Ev), I ds e → ∃ fl, foLoop st bd ds e = some fl ∧ Q fl
  | [], e, hI => ⟨_, rfl, h0 e hI⟩
  | d :: ds, e, hI => by
    obtain ⟨e1, fl, h1, h2, h3⟩ := h d ds e hI
    cases fl with
    | nx e2 =>
      obtain ⟨fl, q1, q2⟩ := fo_inv I Q h0 h ds e2 h3
      exact ⟨fl, by simp only [foLoop, h1, h2, q1], q2⟩
    | ct e2 =>
      obtain ⟨fl, q1, q2⟩ := fo_inv I Q h0 h ds e2 h3
      exact ⟨fl, by simp only [foLoop, h1, h2, q1], q2⟩
    | bk e2 => exact ⟨_, by simp only [foLoop, h1, h2], h3⟩
    | rt o e2 => exact ⟨_, by simp only [foLoop, h1, h2], h3⟩
/-- while: a measure falls -/
theorem wh_inv {ts : Ev → Option (Bool × Ev)} {bd : Ev → Option Fl} (I : Nat → Ev → Prop) (Q : Fl → Prop)
    (h : ∀ n e, I n e → ∃ b e1, ts e = some (b, e1) ∧ (b = false → Q (.nx e1)) ∧ (b = true → ∃ fl, bd e1 = some fl ∧ (match fl with | .nx e2 => ∃ m, m < n ∧ I m e2 | .ct e2 => ∃ m, m < n ∧ I m e2 | .bk e2 => Q (.nx e2) | .rt o e2 => Q (.rt o e2)))) :
    ∀ (fuel n : Nat) (e : Ev), I n e → n < fuel → ∃ fl, whLoop ts bd fuel e = some fl ∧ Q fl
  | 0, _, _, _, hf => by omega
  | fuel + 1, n, e, hI, hf => by
    obtain ⟨b, e1, h1, h2, h3⟩ := h n e hI
    cases b with
    | false => exact ⟨_, by simp only [whLoop, h1], h2 rfl⟩
    | true =>
      obtain ⟨fl, q, r⟩ := h3 rfl
      cases fl with
      | nx e2 =>
        obtain ⟨m, hm, hI'⟩ := r
        obtain ⟨fl, q1, q2⟩ := wh_inv I Q h fuel m e2 hI' (by omega)
        exact ⟨fl, by simp only [whLoop, h1, q, q1], q2⟩
      | ct e2 =>
        obtain ⟨m, hm, hI'⟩ := r
        obtain ⟨fl, q1, q2⟩ := wh_inv I Q h fuel m e2 hI' (by omega)
        exact ⟨fl, by simp only [whLoop, h1, q, q1], q2⟩
      | bk e2 => exact ⟨_, by simp only [whLoop, h1, q], r⟩
      | rt o e2 => exact ⟨_, by simp only [whLoop, h1, q], r⟩
/-- a comprehension as a whole: what comes of each item is told by f -/
theorem lcE {F : FT} {C : List D} {elt : IE} {tg : IT} {it : II} {cd : IO} {own : List Nat} {env e1 : Ev} {ds : List D} (f : D → Option D) (hI : evI F C it env = some (ds, e1)) (hz : ds.length ≤ 16777216)
    (h : ∀ d ∈ ds, ∃ a b c, asgT F C tg d (wipeE e1 own) = some a ∧ evD F C cd a = some (b, c) ∧ (b = false → wipeE c own = wipeE e1 own ∧ f d = none) ∧
      (b = true → ∃ x e3, frzE (evE F C elt c) = some (x, e3) ∧ wipeE e3 own = wipeE e1 own ∧ f d = some x)) :
    evE F C (.lc elt tg it cd own) env = some (.fr (ds.filterMap f), backE e1 (wipeE e1 own) own) := by
  have l := lc_map (st := fun d e => asgT F C tg d e) (ts := fun e => evD F C cd e) (el := fun e => frzE (evE F C elt e)) (own := own) f ds h
  have z : lenOk (ds.filterMap f).length = true := Nat.ble_eq_true_of_le (Nat.le_trans (List.length_filterMap_le f ds) hz)
  rw [evE, hI]
  simp only [lcV, l, z, if_true]
/-- .. that may change the slots -/
theorem lcEI {F : FT} {C : List D} {elt : IE} {tg : IT} {it : II} {cd : IO} {own : List Nat} {env e1 : Ev} {ds : List D} (I : List D → List D → Ev → Prop) (hI : evI F C it env = some (ds, e1)) (hi : I ds [] (wipeE e1 own))
    (h : ∀ d ds xs e, I (d :: ds) xs e → ∃ a b c, asgT F C tg d e = some a ∧ evD F C cd a = some (b, c) ∧ (b = false → I ds xs (wipeE c own)) ∧ (b = true → ∃ x e3, frzE (evE F C elt c) = some (x, e3) ∧ I ds (xs ++ [x]) (wipeE e3 own)))
    (hz : ∀ xs e, I [] xs e → xs.length ≤ 16777216) : ∃ ys e2, evE F C (.lc elt tg it cd own) env = some (.fr ys, backE e1 e2 own) ∧ I [] ys e2 := by
  obtain ⟨ys, e2, l, q⟩ := lc_inv (st := fun d e => asgT F C tg d e) (ts := fun e => evD F C cd e) (el := fun e => frzE (evE F C elt e)) (own := own) I h ds [] _ hi
  rw [List.nil_append] at q
  have z : lenOk ys.length = true := Nat.ble_eq_true_of_le (hz _ _ q)
  refine ⟨ys, e2, ?_, q⟩
  rw [evE, hI]
  simp only [lcV, l, z, if_true]
theorem foE {F : FT} {C : List D} {t : IT} {it : II} {b : ISs} {env e1 : Ev} {ds : List D} (I : List D → Ev → Prop) (Q : Fl → Prop) (hn : noSub t = true) (hI : evI F C it env = some (ds, e1)) (hi : I ds e1) (h0 : ∀ e, I [] e → Q (.nx e))
    (h : ∀ d ds e, I (d :: ds) e → ∃ a fl, asgT F C t d e = some a ∧ evSs F C b a = some fl ∧ (match fl with | .nx e2 => I ds e2 | .ct e2 => I ds e2 | .bk e2 => Q (.nx e2) | .rt o e2 => Q (.rt o e2))) : ∃ fl, evS F C (.fo t it b) env = some fl ∧ Q fl := by
  obtain ⟨fl, q1, q2⟩ := fo_inv (st := fun d e => asgT F C t d e) (bd := fun e => evSs F C b e) I Q h0 h ds e1 hi
  exact ⟨fl, by rw [evS, if_pos hn, hI]; exact q1, q2⟩
theorem whE {F : FT} {C : List D} {c : IE} {b : ISs} {env : Ev} (I : Nat → Ev → Prop) (Q : Fl → Prop) (n : Nat) (hn : n < 1000000) (hi : I n env)
    (h : ∀ n e, I n e → ∃ k e1, evE F C c e = some (.pu (.bool k), e1) ∧ (k = false → Q (.nx e1)) ∧ (k = true → ∃ fl, evSs F C b e1 = some fl ∧ (match fl with | .nx e2 => ∃ m, m < n ∧ I m e2 | .ct e2 => ∃ m, m < n ∧ I m e2 | .bk e2 => Q (.nx e2) | .rt o e2 => Q (.rt o e2)))) : ∃ fl, evS F C (.wh c b) env = some fl ∧ Q fl := by
  obtain ⟨fl, q1, q2⟩ := wh_inv (ts := fun e => match evE F C c e with | some (.pu (.bool k), e1) => some (k, e1) | _ => none) (bd := fun e => evSs F C b e) I Q (fun n e hI => by
    obtain ⟨k, e1, h1, h2, h3⟩ := h n e hI
    exact ⟨k, e1, by simp only [h1], h2, h3⟩) 1000000 n env hi hn
  exact ⟨fl, by rw [evS]; exact q1, q2⟩
theorem fmap_some {α β : Type} (f : α → β) (g : β → Option D) (h : α → D) (l : List α) (e : ∀ x ∈ l, g (f x) = some (h x)) : (l.map f).filterMap g = l.map h := by
  induction l with
  | nil => rfl
  | cons a l ih =>
    rw [List.map_cons, List.filterMap_cons, e a List.mem_cons_self]
    simp only [List.map_cons, ih fun x hx => e x (List.mem_cons_of_mem _ hx)]
theorem fmap_filter {α β : Type} (f : α → β) (g : β → Option D) (p : α → Bool) (h : α → D) (l : List α) (e : ∀ x ∈ l, g (f x) = if p x then some (h x) else none) : (l.map f).filterMap g = (l.filter p).map h := by
  induction l with
  | nil => rfl
  | cons a l ih =>
    rw [List.map_cons, List.filterMap_cons, e a List.mem_cons_self, List.filter_cons]
    have := ih fun x hx => e x (List.mem_cons_of_mem _ hx)
    cases p a <;> simp [this]
theorem bools_map {α : Type} (f : α → Bool) : ∀ l : List α, boolsOf (l.map fun x => .bool (f x)) = some (l.map f)
  | [] => rfl
  | x :: l => by simp [boolsOf, bools_map f l]
theorem ints_map : ∀ l : List Int, intsOf (l.map .int) = some l
  | [] => rfl
  | x :: l => by simp [intsOf, ints_map l]
theorem all_id {α : Type} (f : α → Bool) (l : List α) : (l.map f).all id = l.all f := by simp [List.all_map]
end Rf

set_option Elab.async false
set_option linter.all false
set_option maxRecDepth 100000
set_option maxHeartbeats 4000000
/-! Rf: lists of ints and of pairs as data. -/
namespace Rf
open PySem
/-- a value that is not looked into by computing -/
noncomputable def hid {α : Type} (a : α) : α := Classical.choose (⟨a, rfl⟩ : ∃ b, b = a)
theorem hid_eq {α : Type} (a : α) : hid a = a := Classical.choose_spec (⟨a, rfl⟩ : ∃ b, b = a)
theorem depthAll_le {α : Type} (f : α → D) (c : Nat) : ∀ (l : List α), (∀ x ∈ l, (f x).depth ≤ c) → PyData.depthAll (l.map f) ≤ c
  | [], _ => by simp [PyData.depthAll]
  | x :: l, h => by
    simp only [List.map_cons, PyData.depthAll]
    exact Nat.max_le.mpr ⟨h x List.mem_cons_self, depthAll_le f c l fun y hy => h y (List.mem_cons_of_mem _ hy)⟩
theorem canLay_map {α : Type} (f : α → D) : ∀ (l : List α), (∀ x ∈ l, (f x).canLay0 = true) → PyData.canLayAll0 (l.map f) = true
  | [], _ => rfl
  | x :: l, h => by
    simp only [List.map_cons, PyData.canLayAll0, h x List.mem_cons_self, canLay_map f l fun y hy => h y (List.mem_cons_of_mem _ hy)]
    rfl
theorem shaped_l {α : Type} (f : α → D) (l : List α) (h : ∀ x ∈ l, (f x).canLay0 = true) (d : ∀ x ∈ l, (f x).depth ≤ 50) : SeqAt.shaped (.list (l.map f)) = true := by
  have h1 := canLay_map f l h
  have h2 := depthAll_le f 50 l d
  unfold SeqAt.shaped
  rw [show PyData.canLay0 (.list (l.map f)) = true by simp only [PyData.canLay0]; exact h1, Bool.true_and]
  exact decide_eq_true (by simp only [PyData.depth]; omega)
theorem shaped_t {α : Type} (f : α → D) (l : List α) (h : ∀ x ∈ l, (f x).canLay0 = true) (d : ∀ x ∈ l, (f x).depth ≤ 50) : SeqAt.shaped (.tuple (l.map f)) = true := by
  have h1 := canLay_map f l h
  have h2 := depthAll_le f 50 l d
  unfold SeqAt.shaped
  rw [show PyData.canLay0 (.tuple (l.map f)) = true by simp only [PyData.canLay0]; exact h1, Bool.true_and]
  exact decide_eq_true (by simp only [PyData.depth]; omega)
theorem sh_int (i : Int) : SeqAt.shaped (.int i) = true := by simp [SeqAt.shaped, PyData.canLay0, PyData.depth]
theorem sh_li (ns : List Int) : SeqAt.shaped (.list (ns.map .int)) = true := shaped_l _ ns (fun _ _ => rfl) fun _ _ => by simp [PyData.depth]
theorem sh_ti (ns : List Int) : SeqAt.shaped (.tuple (ns.map .int)) = true := shaped_t _ ns (fun _ _ => rfl) fun _ _ => by simp [PyData.depth]
theorem sh_nil : SeqAt.shaped (.list []) = true := by simp [SeqAt.shaped, PyData.canLay0, PyData.canLayAll0, PyData.depth, PyData.depthAll]
theorem any_ints (a : Int) : ∀ ns : List Int, ((ns.map PyData.int).any fun z => PyData.eqv z (.int a)) = decide (a ∈ ns)
  | [] => by simp
  | n :: ns => by
    rw [List.map_cons, List.any_cons, any_ints a ns]
    by_cases h : n = a
    · subst h; simp [PyData.eqv]
    · have : ¬ a = n := fun z => h z.symm
      simp [PyData.eqv, h, this]
theorem mem_li (a : Int) (ns : List Int) : memD (.int a) (.list (ns.map .int)) = some (decide (a ∈ ns)) := by
  simp only [memD, sh_int, sh_li, Bool.and_self, if_true, any_ints]
theorem mem_ti (a : Int) (ns : List Int) : memD (.int a) (.tuple (ns.map .int)) = some (decide (a ∈ ns)) := by
  simp only [memD, sh_int, sh_li, Bool.and_self, if_true, any_ints]
theorem mem_t2 (a x y : Int) : memD (.int a) (.tuple [.int x, .int y]) = some (decide (a = x ∨ a = y)) := by
  have h := mem_ti a [x, y]
  simp only [List.map_cons, List.map_nil] at h
  rw [h]
  simp
theorem eq_nilL {ds : List D} (h : SeqAt.shaped (.list ds) = true) : eqD (.list ds) (.list []) = some (decide (ds = [])) := by
  unfold eqD
  simp only [scalD, h, sh_nil, Bool.and_self, if_true]
  cases ds <;> simp [PyData.eqv, PyData.eqvAll]
theorem eq_nilI (ns : List Int) : eqD (.list (ns.map .int)) (.list []) = some (decide (ns = [])) := by
  rw [eq_nilL (sh_li ns)]
  simp
theorem eqvAll_map {α : Type} [DecidableEq α] (f : α → D) (hf : ∀ x y, PyData.eqv (f x) (f y) = decide (x = y)) : ∀ l r : List α, PyData.eqvAll (l.map f) (r.map f) = decide (l = r)
  | [], [] => by simp [PyData.eqvAll]
  | [], _ :: _ => by simp [PyData.eqvAll]
  | _ :: _, [] => by simp [PyData.eqvAll]
  | x :: l, y :: r => by
    simp only [List.map_cons, PyData.eqvAll, hf, eqvAll_map f hf l r, List.cons.injEq, Bool.decide_and]
theorem eqv_int (x y : Int) : PyData.eqv (.int x) (.int y) = decide (x = y) := by simp [PyData.eqv, Bool.beq_eq_decide_eq]
theorem eq_li (a b : List Int) : eqD (.list (a.map .int)) (.list (b.map .int)) = some (decide (a = b)) := by
  unfold eqD
  simp only [scalD, sh_li, Bool.and_self, if_true, PyData.eqv, eqvAll_map _ eqv_int]
theorem eq_ti (a b : List Int) : eqD (.tuple (a.map .int)) (.tuple (b.map .int)) = some (decide (a = b)) := by
  unfold eqD
  simp only [scalD, sh_ti, Bool.and_self, if_true, PyData.eqv, eqvAll_map _ eqv_int]
theorem eq_ss (a : Str) : eqD (.str a) (.str a) = some true := by simp [eqD, scalD]
section
variable {α : Type} {a b c d e f : α} {l : List α}
theorem at0 : L2.atI (a :: l) 0 = some a := by unfold L2.atI L2.ixN; rw [if_pos (by decide), if_pos (by simp only [List.length_cons]; omega)]; rfl
theorem at1 : L2.atI (a :: b :: l) 1 = some b := by unfold L2.atI L2.ixN; rw [if_pos (by decide), if_pos (by simp only [List.length_cons]; omega)]; rfl
theorem at2 : L2.atI (a :: b :: c :: l) 2 = some c := by unfold L2.atI L2.ixN; rw [if_pos (by decide), if_pos (by simp only [List.length_cons]; omega)]; rfl
theorem at3 : L2.atI (a :: b :: c :: d :: l) 3 = some d := by unfold L2.atI L2.ixN; rw [if_pos (by decide), if_pos (by simp only [List.length_cons]; omega)]; rfl
theorem at4 : L2.atI (a :: b :: c :: d :: e :: l) 4 = some e := by unfold L2.atI L2.ixN; rw [if_pos (by decide), if_pos (by simp only [List.length_cons]; omega)]; rfl
theorem at5 : L2.atI (a :: b :: c :: d :: e :: f :: l) 5 = some f := by unfold L2.atI L2.ixN; rw [if_pos (by decide), if_pos (by simp only [List.length_cons]; omega)]; rfl
end
theorem ixt (xs : List D) (i : Int) : idxV (.tuple xs) (.int i) = L2.atI xs i := by unfold idxV ixOf; rfl
theorem ixl (xs : List D) (i : Int) : idxV (.list xs) (.int i) = L2.atI xs i := by unfold idxV ixOf; rfl
theorem ix20 : L2.ixN 2 0 = some 0 := rfl
theorem ix21 : L2.ixN 2 1 = some 1 := rfl
theorem lk0 : lenOk 0 = true := rfl
theorem lk1 : lenOk 1 = true := rfl
theorem lk2 : lenOk 2 = true := rfl
theorem lk3 : lenOk 3 = true := rfl
theorem lk4 : lenOk 4 = true := rfl
theorem lk5 : lenOk 5 = true := rfl
theorem lk6 : lenOk 6 = true := rfl
theorem lenOk_of {n : Nat} (h : n ≤ 16777216) : lenOk n = true := Nat.ble_eq_true_of_le h
theorem eqii (i j : Int) : eqD (.int i) (.int j) = some (decide (i = j)) := by simp [eqD, scalD]
theorem eqbb (i j : Bool) : eqD (.bool i) (.bool j) = some (decide (i = j)) := by simp [eqD, scalD]
theorem eqstr (i j : Str) : eqD (.str i) (.str j) = some (decide (i = j)) := by simp [eqD, scalD]
/-! ### sorting -/
theorem ins_map {α : Type} (f : α → D) (le : D → D → Bool) (a : α) : ∀ l : List α, ins le (f a) (l.map f) = (ins (fun x y => le (f x) (f y)) a l).map f
  | [] => rfl
  | b :: l => by
    simp only [List.map_cons, ins]
    split
    · rfl
    · rw [ins_map f le a l]; rfl
theorem isort_map {α : Type} (f : α → D) (le : D → D → Bool) : ∀ l : List α, isort le (l.map f) = (isort (fun x y => le (f x) (f y)) l).map f
  | [] => rfl
  | a :: l => by simp only [List.map_cons, isort, isort_map f le l, ins_map]
theorem mem_insI {α : Type} {le : α → α → Bool} {a x : α} : ∀ {l : List α}, x ∈ ins le a l ↔ x = a ∨ x ∈ l
  | [] => by simp [ins]
  | b :: l => by
    simp only [ins]
    split
    · simp
    · simp only [List.mem_cons, mem_insI (l := l)]
      constructor <;> intro h <;> rcases h with h | h | h <;> simp [h]
theorem mem_isort {α : Type} {le : α → α → Bool} {x : α} : ∀ {l : List α}, x ∈ isort le l ↔ x ∈ l
  | [] => by simp [isort]
  | a :: l => by simp [isort, mem_insI, mem_isort (l := l)]
theorem len_ins {α : Type} {le : α → α → Bool} {a : α} : ∀ {l : List α}, (ins le a l).length = l.length + 1
  | [] => rfl
  | b :: l => by
    simp only [ins]
    split
    · rfl
    · simp [len_ins (l := l)]
theorem len_isort {α : Type} {le : α → α → Bool} : ∀ {l : List α}, (isort le l).length = l.length
  | [] => rfl
  | a :: l => by simp [isort, len_ins, len_isort (l := l)]
theorem alikes_i (n : Int) : ∀ ns : List Int, alikes (.int n) (ns.map .int) = true
  | [] => rfl
  | m :: ns => by simp [alikes, PySem.W.alike, alikes_i n ns]
theorem allAlike_i : ∀ ns : List Int, allAlike (ns.map .int) = true
  | [] => rfl
  | m :: ns => by simp [allAlike, PySem.W.alike, alikes_i m ns, allAlike_i ns]
theorem noDict_i : ∀ ns : List Int, PyData.hasDictAll (ns.map .int) = false
  | [] => rfl
  | m :: ns => by simp [PyData.hasDictAll, PyData.hasDict, noDict_i ns]
theorem sort_i (ns : List Int) : ∃ ms : List Int, sortV (ns.map .int) = some (ms.map .int) ∧ (∀ x, x ∈ ms ↔ x ∈ ns) ∧ ms.length = ns.length := by
  refine ⟨isort (fun x y => PySem.W.dataLe false id (PyData.int x) (PyData.int y)) ns, ?_, fun x => mem_isort, len_isort⟩
  unfold sortV
  have h : sortOk (ns.map .int) = true := by
    unfold sortOk deepMax
    rw [allAlike_i, PyProof.Rows.depthAll_ints, noDict_i]
    have : (ns.map PyData.int).all noTupNone = true := by simp [noTupNone]
    rw [this]
    simp
  rw [if_pos h, isort_map]
/-! ### ranges -/
theorem ups_len (n : Nat) : ∀ lo : Int, (ups lo n).length = n := by
  induction n with
  | zero => intro lo; rfl
  | succ n ih => intro lo; simp [ups, ih]
theorem ups_eq (n : Nat) : ∀ lo : Int, ups lo n = ((List.range n).map fun i : Nat => lo + (i : Int)).map .int := by
  induction n with
  | zero => intro lo; rfl
  | succ n ih =>
    intro lo
    rw [ups, ih, List.range_succ_eq_map]
    simp only [List.map_cons, List.map_map]
    refine List.cons_eq_cons.mpr ⟨by simp, ?_⟩
    refine List.map_congr_left fun i _ => ?_
    simp only [Function.comp]
    congr 1
    omega
/-- 0, 1, .. below n -/
def iot (n : Nat) : List Int := (List.range n).map fun i : Nat => (i : Int)
theorem mem_iot {n : Nat} {x : Int} : x ∈ iot n ↔ 0 ≤ x ∧ x < n := by
  unfold iot
  simp only [List.mem_map, List.mem_range]
  constructor
  · rintro ⟨i, h, rfl⟩; omega
  · intro ⟨h1, h2⟩; exact ⟨x.toNat, by omega, by omega⟩
theorem iot_len (n : Nat) : (iot n).length = n := by simp [iot]
theorem rng_iot {n : Int} (h0 : 0 ≤ n) (h : n ≤ 1000000) : rngV (.int 0) (.int n) = some ((iot n.toNat).map .int) := by
  have : rngOk 0 n = true := by unfold rngOk; simp; omega
  show (if rngOk 0 n = true then some (ups 0 (n - 0).toNat) else none) = _
  rw [if_pos this, ups_eq, Int.sub_zero]
  simp [iot]
theorem runE {F : FT} {C : List D} {fn : Fn} {as : List Ar} {env : Ev} {fl : Fl} {r : Rt} (h : as.length = fn.np) (he : slOf 0 as ++ List.replicate (fn.ns - fn.np) .emp = env) (hb : evSs F C fn.body env = some fl) (hf : finF as fl = some r) : runF F C fn as = some r := by
  unfold runF
  rw [if_pos h, he, hb]
  exact hf
theorem runX {F : FT} {C : List D} {fn : Fn} {as : List Ar} {env : Ev} {r : Rt} (h : as.length = fn.np) (he : slOf 0 as ++ List.replicate (fn.ns - fn.np) .emp = env) (hb : ∃ fl, evSs F C fn.body env = some fl ∧ finF as fl = some r) : runF F C fn as = some r := by
  obtain ⟨fl, h1, h2⟩ := hb
  exact runE h he h1 h2
section
variable {F : FT} {C : List D} {lo hi : IE} {env e1 e2 : Ev} {a b : D} {ns : List D}
theorem trgE (h1 : evE F C lo env = some (.pu a, e1)) (h2 : evE F C hi e1 = some (.pu b, e2)) (r : rngV a b = some ns) (z : lenOk ns.length = true) : evE F C (.trg lo hi) env = some (.pu (.tuple ns), e2) := by
  rw [evE, h1]
  dsimp only
  rw [h2]
  dsimp only
  rw [r]
  dsimp only
  rw [if_pos z]
theorem lrgE (h1 : evE F C lo env = some (.pu a, e1)) (h2 : evE F C hi e1 = some (.pu b, e2)) (r : rngV a b = some ns) (z : lenOk ns.length = true) : evE F C (.lrg lo hi) env = some (.fr ns, e2) := by
  rw [evE, h1]
  dsimp only
  rw [h2]
  dsimp only
  rw [r]
  dsimp only
  rw [if_pos z]
theorem rngE (h1 : evE F C lo env = some (.pu a, e1)) (h2 : evE F C hi e1 = some (.pu b, e2)) (r : rngV a b = some ns) : evI F C (.rng lo hi) env = some (ns, e2) := by
  rw [evI, h1]
  dsimp only
  rw [h2]
  dsimp only
  rw [r]
  rfl
end
end Rf

set_option Elab.async false
set_option linter.all false
set_option maxRecDepth 100000
set_option maxHeartbeats 4000000
/-! Rf: reached stations, in plain Lean. -/
namespace Rf
/-- legs by their ends; at joins x and y -/
def Jn (es : List (Int × Int)) (at_ x y : Int) : Prop := ∃ e, 0 ≤ at_ ∧ es[at_.toNat]? = some e ∧ ((e.1 = x ∧ e.2 = y) ∨ (e.2 = x ∧ e.1 = y))
theorem Jn.symm {es : List (Int × Int)} {a x y : Int} (h : Jn es a x y) : Jn es a y x := by
  obtain ⟨e, h0, h1, h2⟩ := h
  exact ⟨e, h0, h1, h2.elim (fun h => .inr ⟨h.2, h.1⟩) fun h => .inl ⟨h.2, h.1⟩⟩
inductive Rch (es : List (Int × Int)) (p : Int → Prop) (s : Int) : Int → Prop
  | refl : Rch es p s s
  | step {x y at_ : Int} : Rch es p s x → p at_ → Jn es at_ x y → Rch es p s y
theorem Rch.trans {es : List (Int × Int)} {p : Int → Prop} {s t u : Int} (h : Rch es p s t) (g : Rch es p t u) : Rch es p s u := by
  induction g with
  | refl => exact h
  | step _ hp hj ih => exact .step ih hp hj
theorem Rch.symm {es : List (Int × Int)} {p : Int → Prop} {s t : Int} (h : Rch es p s t) : Rch es p t s := by
  induction h with
  | refl => exact .refl
  | step _ hp hj ih => exact Rch.trans (.step .refl hp hj.symm) ih
theorem Rch.mono {es : List (Int × Int)} {p q : Int → Prop} {s t : Int} (h : Rch es p s t) (pq : ∀ a, p a → q a) : Rch es q s t := by
  induction h with
  | refl => exact .refl
  | step _ hp hj ih => exact .step ih (pq _ hp) hj
/-- a list that holds s and is closed holds all that is reached -/
theorem Rch.closed {es : List (Int × Int)} {p : Int → Prop} {s t : Int} {l : List Int} (h : Rch es p s t) (hs : s ∈ l) (hc : ∀ x ∈ l, ∀ at_ y, p at_ → Jn es at_ x y → y ∈ l) : t ∈ l := by
  induction h with
  | refl => exact hs
  | step _ hp hj ih => exact hc _ ih _ _ hp hj
theorem sub_len {α : Type} [DecidableEq α] : ∀ (l r : List α), l.Nodup → (∀ x ∈ l, x ∈ r) → l.length ≤ r.length
  | [], r, _, _ => Nat.zero_le _
  | a :: l, r, h, hs => by
    obtain ⟨ha, hl⟩ := List.nodup_cons.mp h
    have ih := sub_len l (r.erase a) hl fun x hx => by
      have hx' := hs x (List.mem_cons_of_mem _ hx)
      exact (List.mem_erase_of_ne (fun e => ha (by rw [← e]; exact hx))).mpr hx'
    have hm := hs a List.mem_cons_self
    rw [List.length_erase_of_mem hm] at ih
    have : 0 < r.length := List.length_pos_of_mem hm
    simp only [List.length_cons]
    omega
/-- rows without a thing twice -/
theorem nodup_le {n : Nat} : ∀ {l : List Int}, l.Nodup → (∀ x ∈ l, 0 ≤ x ∧ x < (n : Int)) → l.length ≤ n := by
  intro l h hb
  have : (l.map Int.toNat).Nodup := by
    rw [List.nodup_iff_pairwise_ne, List.pairwise_map]
    refine List.Pairwise.imp_of_mem ?_ (List.nodup_iff_pairwise_ne.mp h)
    intro a b ha hb' ne e
    have := hb a ha
    have := hb b hb'
    exact ne (by omega)
  have sub : ∀ x ∈ l.map Int.toNat, x ∈ List.range n := by
    intro x hx
    obtain ⟨y, hy, rfl⟩ := List.mem_map.mp hx
    have := hb y hy
    exact List.mem_range.mpr (by omega)
  have := sub_len _ _ this sub
  simpa using this
end Rf

set_option Elab.async false
set_option linter.all false
set_option maxRecDepth 100000
namespace K94
open PySem Rf
def consts : List (String × D) := [("NOUGHT", (.tuple [(.int 0), (.int 1)])), ("ONE", (.tuple [(.int 1), (.int 1)])), ("MOST_SHORT", (.int 1000000)), ("MOST_BELOW", (.int 60)), ("MOST_DIMS", (.int 3)), ("MOST_STATIONS", (.int 24)), ("MOST_LEGS", (.int 60)), ("MOST_PARTY", (.int 5))]
def n__law_draw : List String := ["pot", "many", "digit"]
def b__law_draw : ISs := .cons (.ite (.cmp .gt (.idx (.var 0) (.cst (.int 0))) (.cst (.int 0))) (.cons (.asg (.tp (.cons (.sub 0 (.cst (.int 0))) (.cons (.nm 2) (.nil)))) (.blt .divmod2 (.cons (.idx (.var 0) (.cst (.int 0))) (.cons (.var 1) (.nil))))) (.cons (.ret (.var 2)) (.nil))) (.nil)) (.cons (.asg (.sub 0 (.cst (.int 1))) (.bin .mod (.blt .int1 (.cons (.bin .add (.bin .mul (.idx (.var 0) (.cst (.int 1))) (.cst (.int 40692))) (.cst (.int 9887))) (.nil))) (.cst (.int 2147483587)))) (.cons (.ret (.bin .mod (.blt .int1 (.cons (.bin .fdiv (.bin .mod (.blt .int1 (.cons (.bin .mul (.idx (.var 0) (.cst (.int 1))) (.idx (.var 0) (.cst (.int 1)))) (.nil))) (.cst (.int 2147483549))) (.cst (.int 17))) (.nil))) (.var 1))) (.nil)))
def l__law_shape_1 : ISs := .cons (.asg (.tp (.cons (.nm 8) (.cons (.nm 10) (.nil)))) (.mth .pop1 6 (.cons (.call 0 (.cons (.var 0) (.cons (.blt .len (.cons (.var 6) (.nil))) (.nil)))) (.nil)))) (.cons (.asg (.nm 9) (.ite (.cmp .eq (.call 0 (.cons (.var 0) (.cons (.cst (.int 2)) (.nil)))) (.cst (.int 0))) (.tup (.cons (.var 8) (.cons (.var 10) (.nil)))) (.tup (.cons (.var 10) (.cons (.var 8) (.nil)))))) (.cons (.ex (.mth .append 5 (.cons (.bin .add (.bin .add (.tup (.cons (.call 0 (.cons (.var 0) (.cons (.cst (.int 6)) (.nil)))) (.nil))) (.var 9)) (.tup (.cons (.var 7) (.cons (.var 7) (.cons (.tup (.cons (.cst (.int 1)) (.cons (.cst (.int 1)) (.nil)))) (.nil)))))) (.nil)))) (.nil)))
def s__law_shape_2 : IS := .wh (.cmp .ne (.var 6) (.lst (.nil))) (l__law_shape_1)
def l__law_shape_3 : ISs := .cons (.asg (.nm 8) (.call 0 (.cons (.var 0) (.cons (.var 1) (.nil))))) (.cons (.ex (.mth .append 6 (.cons (.tup (.cons (.var 8) (.cons (.blt .int1 (.cons (.bin .mod (.bin .add (.bin .add (.var 8) (.cst (.int 1))) (.call 0 (.cons (.var 0) (.cons (.bin .sub (.var 1) (.cst (.int 1))) (.nil))))) (.var 1)) (.nil))) (.nil)))) (.nil)))) (.nil))
def s__law_shape_4 : IS := .fo (.nm 4) (.rng (.cst (.int 0)) (.var 2)) (l__law_shape_3)
def l__law_shape_5 : ISs := .cons (.ite (.cmp .gt (.call 0 (.cons (.var 0) (.cons (.cst (.int 8)) (.nil)))) (.cst (.int 0))) (.cons (.ex (.mth .append 6 (.cons (.tup (.cons (.var 3) (.cons (.call 0 (.cons (.var 0) (.cons (.var 3) (.nil)))) (.nil)))) (.nil)))) (.nil)) (.nil)) (.nil)
def s__law_shape_6 : IS := .fo (.nm 3) (.rng (.cst (.int 1)) (.var 1)) (l__law_shape_5)
def n__law_shape : List String := ["pot", "stations", "legs", "station", "turn", "mixed", "found", "bare", "start", "ends", "end"]
def b__law_shape : ISs := .cons (.par2 6 7 true false (.lst (.nil)) (.tup (.cons (.tup (.cons (.cst (.int 0)) (.cons (.cst (.int 1)) (.nil)))) (.nil)))) (.cons (s__law_shape_6) (.cons (s__law_shape_4) (.cons (.own 5 (.lst (.nil))) (.cons (s__law_shape_2) (.cons (.ret (.tup (.cons (.cst (.str "survey")) (.cons (.cst (.int 1)) (.cons (.var 1) (.cons (.blt .tuple1 (.cons (.var 5) (.nil))) (.nil))))))) (.nil))))))
def e__law_ends_of_1 : IE := .lc (.slc (.var 1) (.som (.cst (.int 1))) (.som (.cst (.int 3)))) (.nm 1) (.it (.idx (.var 0) (.cst (.int 3)))) (.non) [1]
def n__law_ends_of : List String := ["survey", "leg"]
def b__law_ends_of : ISs := .cons (.ret (e__law_ends_of_1)) (.nil)
def l__law_reached_1 : ISs := .cons (.ite (.cmp .mem (.var 5) (.idx (.var 0) (.var 6))) (.cons (.asg (.nm 7) (.bin .sub (.blt .sum1 (.cons (.idx (.var 0) (.var 6)) (.nil))) (.var 5))) (.cons (.ite (.cmp .nmem (.var 7) (.var 3)) (.cons (.ex (.mth .append 3 (.cons (.var 7) (.nil)))) (.cons (.ex (.mth .append 4 (.cons (.var 7) (.nil)))) (.nil))) (.nil)) (.nil))) (.nil)) (.nil)
def s__law_reached_2 : IS := .fo (.nm 6) (.it (.var 2)) (l__law_reached_1)
def l__law_reached_3 : ISs := .cons (.asg (.nm 5) (.mth .pop0 4 (.nil))) (.cons (s__law_reached_2) (.nil))
def s__law_reached_4 : IS := .wh (.cmp .ne (.var 4) (.lst (.nil))) (l__law_reached_3)
def n__law_reached : List String := ["ends", "station", "lot", "found", "left", "here", "at", "there"]
def b__law_reached : ISs := .cons (.par2 3 4 true true (.lst (.cons (.var 1) (.nil))) (.lst (.cons (.var 1) (.nil)))) (.cons (s__law_reached_4) (.cons (.ret (.blt .sorted1 (.cons (.var 3) (.nil)))) (.nil)))
def e__law_bridges_1 : IE := .lc (.var 3) (.nm 3) (.it (.var 1)) (.som (.cmp .ne (.var 3) (.var 2))) [3]
def e__law_bridges_2 : IE := .lc (.var 2) (.nm 2) (.it (.var 1)) (.som (.cmp .nmem (.idx (.idx (.var 0) (.var 2)) (.cst (.int 1))) (.call 3 (.cons (.var 0) (.cons (.idx (.idx (.var 0) (.var 2)) (.cst (.int 0))) (.cons (e__law_bridges_1) (.nil))))))) [2]
def n__law_bridges : List String := ["ends", "every", "at", "one"]
def b__law_bridges : ISs := .cons (.asg (.nm 1) (.lrg (.cst (.int 0)) (.blt .len (.cons (.var 0) (.nil))))) (.cons (.ret (e__law_bridges_2)) (.nil))
def l__law_pieces_1 : ISs := .cons (.asg (.nm 5) (.call 3 (.cons (.var 0) (.cons (.var 4) (.cons (.var 2) (.nil)))))) (.cons (.ite (.cmp .eq (.idx (.var 5) (.cst (.int 0))) (.var 4)) (.cons (.ex (.mth .append 3 (.cons (.var 5) (.nil)))) (.nil)) (.nil)) (.nil))
def s__law_pieces_2 : IS := .fo (.nm 4) (.rng (.cst (.int 0)) (.var 1)) (l__law_pieces_1)
def n__law_pieces : List String := ["ends", "stations", "lot", "found", "station", "some"]
def b__law_pieces : ISs := .cons (.own 3 (.lst (.nil))) (.cons (s__law_pieces_2) (.cons (.ret (.var 3)) (.nil)))
def e__law_knots_1 : IE := .lc (.var 3) (.nm 3) (.rng (.cst (.int 0)) (.blt .len (.cons (.var 1) (.nil)))) (.som (.cmp .nmem (.var 3) (.var 2))) [3]
def n__law_knots : List String := ["survey", "ends", "bare", "at"]
def b__law_knots : ISs := .cons (.asg (.nm 1) (.call 2 (.cons (.var 0) (.nil)))) (.cons (.asg (.nm 2) (.call 4 (.cons (.var 1) (.nil)))) (.cons (.ret (.call 5 (.cons (.var 1) (.cons (.idx (.var 0) (.cst (.int 2))) (.cons (e__law_knots_1) (.nil)))))) (.nil)))
def n__law_pick : List String := ["pot", "some"]
def b__law_pick : ISs := .cons (.ret (.idx (.var 1) (.call 0 (.cons (.var 0) (.cons (.blt .len (.cons (.var 1) (.nil))) (.nil)))))) (.nil)
def e__law_plans_1 : IE := .lc (.call 7 (.cons (.var 0) (.cons (.var 3) (.nil)))) (.nm 8) (.rng (.cst (.int 0)) (.ite (.cmp .ne (.var 3) (.lst (.nil))) (.call 0 (.cons (.var 0) (.cons (.cst (.int 6)) (.nil)))) (.cst (.int 0)))) (.non) [8]
def l__law_plans_2 : ISs := .cons (.asg (.nm 7) (e__law_plans_1)) (.cons (.asg (.nm 2) (.bin .add (.var 2) (.lst (.cons (.var 7) (.cons (.blt .tuple1 (.cons (.var 7) (.nil))) (.cons (.bin .add (.var 7) (.lst (.cons (.tup (.cons (.cst (.int 0)) (.cons (.cst (.int 1)) (.nil)))) (.nil)))) (.cons (.bin .add (.var 7) (.lst (.cons (.call 7 (.cons (.var 0) (.cons (.lst (.cons (.tup (.cons (.cst (.int 1)) (.cons (.cst (.int 1)) (.nil)))) (.cons (.lst (.cons (.cst (.int 0)) (.cons (.cst (.int 1)) (.nil)))) (.cons (.cst .none) (.cons (.tup (.cons (.cst (.int 0)) (.cons (.neg (.cst (.int 1))) (.nil)))) (.nil)))))) (.nil)))) (.nil)))) (.nil)))))))) (.nil))
def s__law_plans_3 : IS := .fo (.nm 5) (.rng (.cst (.int 0)) (.cst (.int 4))) (l__law_plans_2)
def l__law_plans_4 : ISs := .cons (.asg (.nm 3) (.bin .add (.var 3) (.ite (.cmp .ne (.idx (.var 4) (.cst (.int 0))) (.idx (.var 6) (.neg (.cst (.int 1))))) (.lst (.cons (.tup (.cons (.idx (.var 4) (.cst (.int 0))) (.cons (.idx (.var 6) (.neg (.cst (.int 1)))) (.nil)))) (.nil))) (.lst (.nil))))) (.nil)
def s__law_plans_5 : IS := .fo (.nm 6) (.it (.call 6 (.cons (.var 1) (.nil)))) (l__law_plans_4)
def l__law_plans_6 : ISs := .cons (s__law_plans_5) (.nil)
def s__law_plans_7 : IS := .fo (.nm 4) (.it (.call 6 (.cons (.var 1) (.nil)))) (l__law_plans_6)
def n__law_plans : List String := ["pot", "survey", "found", "good", "knot", "turn", "other", "some", "one"]
def b__law_plans : ISs := .cons (.asg (.nm 2) (.lst (.cons (.cst .none) (.cons (.lst (.nil)) (.cons (.tup (.nil)) (.cons (.dnw) (.cons (.cst (.int 0)) (.cons (.cst (.str "p")) (.cons (.lst (.cons (.tup (.cons (.cst (.int 0)) (.cons (.cst (.int 0)) (.nil)))) (.nil))) (.cons (.lst (.cons (.tup (.cons (.cst (.int 0)) (.nil))) (.nil))) (.cons (.lst (.cons (.tup (.cons (.cst (.int 0)) (.cons (.idx (.var 1) (.cst (.int 2))) (.nil)))) (.nil))) (.cons (.lst (.cons (.lst (.cons (.cst (.int 0)) (.cons (.cst (.int 1)) (.nil)))) (.nil))) (.cons (.lst (.cons (.tup (.cons (.cst (.bool true)) (.cons (.cst (.int 0)) (.nil)))) (.nil))) (.cons (.lst (.cons (.tup (.cons (.cst (.int 0)) (.cons (.cst (.int 1)) (.cons (.cst (.int 0)) (.nil))))) (.nil))) (.cons (.lst (.cons (.cst .none) (.nil))) (.nil)))))))))))))))) (.cons (.asg (.nm 3) (.lst (.nil))) (.cons (s__law_plans_7) (.cons (s__law_plans_3) (.cons (.ret (.bin .add (.var 2) (.lst (.cons (.slc (.var 3) (.non) (.som (.cst (.int 24)))) (.cons (.slc (.bin .mul (.var 3) (.cst (.int 25))) (.non) (.som (.cst (.int 24)))) (.cons (.slc (.bin .mul (.var 3) (.cst (.int 26))) (.non) (.som (.cst (.int 25)))) (.nil))))))) (.nil)))))
def e__law_leaving_1 : IE := .lc (.var 2) (.tp (.cons (.nm 2) (.cons (.nm 3) (.nil)))) (.enu (.var 0)) (.som (.cmp .ne (.cmp .mem (.idx (.var 3) (.cst (.int 0))) (.var 1)) (.cmp .mem (.idx (.var 3) (.cst (.int 1))) (.var 1)))) [2, 3]
def n__law_leaving : List String := ["ends", "stations", "at", "one"]
def b__law_leaving : ISs := .cons (.ret (e__law_leaving_1)) (.nil)
def e__law_needs_1 : IE := .lc (.var 8) (.nm 8) (.rng (.cst (.int 0)) (.idx (.var 1) (.cst (.int 2)))) (.som (.cmp .nmem (.var 8) (.var 9))) [8]
def e__law_needs_2 : IE := .lc (.var 11) (.nm 11) (.rng (.cst (.int 0)) (.blt .len (.cons (.var 6) (.nil)))) (.som (.cmp .ne (.var 11) (.var 5))) [11]
def l__law_needs_3 : ISs := .cons (.asg (.nm 9) (.call 3 (.cons (.var 6) (.cons (.idx (.idx (.var 6) (.var 5)) (.cst (.int 0))) (.cons (e__law_needs_2) (.nil)))))) (.cons (.ex (.mth .append 3 (.cons (.lst (.cons (.var 9) (.cons (e__law_needs_1) (.nil)))) (.nil)))) (.nil))
def s__law_needs_4 : IS := .fo (.nm 5) (.it (.call 4 (.cons (.var 6) (.nil)))) (l__law_needs_3)
def e__law_needs_5 : IE := .lc (.var 12) (.nm 12) (.it (.frz 7)) (.som (.cmp .ne (.var 12) (.lst (.nil)))) [12]
def l__law_needs_6 : ISs := .cons (.asg (.nm 11) (.call 0 (.cons (.var 0) (.cons (.cst (.int 4)) (.nil))))) (.cons (.own 7 (.bin .add (.var 7) (.bin .mul (.lst (.cons (.lst (.nil)) (.nil))) (.bin .sub (.bin .add (.var 11) (.cst (.int 1))) (.blt .len (.cons (.var 7) (.nil))))))) (.cons (.asg (.sub 7 (.var 11)) (.bin .add (.idx (.var 7) (.var 11)) (.lst (.cons (.var 8) (.nil))))) (.nil)))
def s__law_needs_7 : IS := .fo (.nm 8) (.rng (.cst (.int 0)) (.idx (.var 1) (.cst (.int 2)))) (l__law_needs_6)
def l__law_needs_8 : ISs := .cons (.own 7 (.lst (.nil))) (.cons (s__law_needs_7) (.cons (.own 3 (.bin .add (.var 3) (.lst (.cons (e__law_needs_5) (.cons (.frz 7) (.nil)))))) (.nil)))
def s__law_needs_9 : IS := .fo (.nm 4) (.rng (.cst (.int 0)) (.cst (.int 4))) (l__law_needs_8)
def e__law_needs_10 : IE := .lc (.rev (.var 12)) (.nm 12) (.it (.var 2)) (.non) [12]
def e__law_needs_11 : IE := .lc (.blt .tuple1 (.cons (.var 12) (.nil))) (.nm 12) (.it (.var 2)) (.non) [12]
def e__law_needs_12 : IE := .lc (.var 10) (.nm 10) (.it (.call 6 (.cons (.var 1) (.nil)))) (.som (.cmp .eq (.blt .len (.cons (.call 9 (.cons (.var 6) (.cons (.var 10) (.nil)))) (.nil))) (.cst (.int 1)))) [10]
def n__law_needs : List String := ["pot", "survey", "tops", "found", "turn", "leg", "ends", "lots", "station", "side", "knot", "at", "lot"]
def b__law_needs : ISs := .cons (.par2 6 3 false true (.call 2 (.cons (.var 1) (.nil))) (.lst (.cons (.cst .none) (.cons (.lst (.nil)) (.cons (.tup (.nil)) (.cons (.dnw) (.cons (.cst (.int 0)) (.cons (.cst (.str "n")) (.cons (.lst (.cons (.lst (.cons (.cst (.int 0)) (.nil))) (.nil))) (.cons (.lst (.cons (.lst (.nil)) (.nil))) (.cons (.lst (.cons (.lst (.cons (.cst (.int 0)) (.nil))) (.cons (.lst (.cons (.cst (.int 0)) (.nil))) (.nil)))) (.cons (.lst (.cons (.cst (.int 0)) (.nil))) (.cons (.lst (.cons (.cst .none) (.nil))) (.cons (.lst (.cons (.lst (.cons (.cst (.bool true)) (.nil))) (.nil))) (.nil))))))))))))))) (.cons (.asg (.nm 2) (e__law_needs_12)) (.cons (.own 3 (.bin .add (.var 3) (.lst (.cons (.var 2) (.cons (.blt .tuple1 (.cons (e__law_needs_11) (.nil))) (.cons (.rev (.var 2)) (.cons (.slc (.var 2) (.non) (.som (.neg (.cst (.int 1))))) (.cons (.bin .add (.var 2) (.slc (.var 2) (.non) (.som (.cst (.int 1))))) (.cons (e__law_needs_10) (.nil)))))))))) (.cons (s__law_needs_9) (.cons (s__law_needs_4) (.cons (.ret (.var 3)) (.nil))))))
def e__law_is_plan_1 : IE := .lc (.and2 (.isi (.var 3) [.int]) (.and2 (.nt (.isi (.var 3) [.bool])) (.chn .le .lt (.cst (.int 0)) (.var 3) (.idx (.var 0) (.cst (.int 2)))))) (.nm 3) (.it (.var 2)) (.non) [3]
def l__law_is_plan_2 : ISs := .cons (.ite (.or2 (.nt (.isi (.var 2) [.tuple])) (.cmp .ne (.blt .len (.cons (.var 2) (.nil))) (.cst (.int 2)))) (.cons (.ret (.cst (.bool false))) (.nil)) (.nil)) (.cons (.ite (.nt (.blt .all1 (.cons (e__law_is_plan_1) (.nil)))) (.cons (.ret (.cst (.bool false))) (.nil)) (.nil)) (.cons (.ite (.cmp .eq (.idx (.var 2) (.cst (.int 0))) (.idx (.var 2) (.cst (.int 1)))) (.cons (.ret (.cst (.bool false))) (.nil)) (.nil)) (.nil)))
def s__law_is_plan_3 : IS := .fo (.nm 2) (.it (.var 1)) (l__law_is_plan_2)
def n__law_is_plan : List String := ["survey", "value", "pair", "one"]
def b__law_is_plan : ISs := .cons (.ite (.or2 (.nt (.isi (.var 1) [.list, .tuple])) (.cmp .gt (.blt .len (.cons (.var 1) (.nil))) (.cst (.int 24)))) (.cons (.ret (.cst (.bool false))) (.nil)) (.nil)) (.cons (s__law_is_plan_3) (.cons (.ret (.cmp .eq (.call 4 (.cons (.bin .add (.call 2 (.cons (.var 0) (.nil))) (.blt .list1 (.cons (.var 1) (.nil)))) (.nil))) (.lst (.nil)))) (.nil)))
def e__law_is_lot_1 : IE := .lc (.cmp .lt (.var 3) (.var 4)) (.tp (.cons (.nm 3) (.cons (.nm 4) (.nil)))) (.zip (.var 1) (.slc (.var 1) (.som (.cst (.int 1))) (.non))) (.non) [3, 4]
def e__law_is_lot_2 : IE := .lc (.and2 (.isi (.var 2) [.int]) (.and2 (.nt (.isi (.var 2) [.bool])) (.chn .le .lt (.cst (.int 0)) (.var 2) (.idx (.var 0) (.cst (.int 2)))))) (.nm 2) (.it (.var 1)) (.non) [2]
def n__law_is_lot : List String := ["survey", "value", "one", "near", "far"]
def b__law_is_lot : ISs := .cons (.ite (.or2 (.nt (.isi (.var 1) [.list, .tuple])) (.cmp .eq (.blt .len (.cons (.var 1) (.nil))) (.cst (.int 0)))) (.cons (.ret (.cst (.bool false))) (.nil)) (.nil)) (.cons (.ite (.nt (.blt .all1 (.cons (e__law_is_lot_2) (.nil)))) (.cons (.ret (.cst (.bool false))) (.nil)) (.nil)) (.cons (.ret (.blt .all1 (.cons (e__law_is_lot_1) (.nil)))) (.nil)))
def e__law_is_need_1 : IE := .lc (.cmp .mem (.var 6) (.var 5)) (.nm 6) (.it (.var 3)) (.non) [6]
def l__law_is_need_2 : ISs := .cons (.ite (.or2 (.cmp .ne (.blt .len (.cons (.call 9 (.cons (.var 4) (.cons (.var 3) (.nil)))) (.nil))) (.cst (.int 1))) (.blt .any1 (.cons (e__law_is_need_1) (.nil)))) (.cons (.ret (.cst (.bool false))) (.nil)) (.nil)) (.cons (.asg (.nm 5) (.bin .add (.var 5) (.blt .list1 (.cons (.var 3) (.nil))))) (.nil))
def s__law_is_need_3 : IS := .fo (.nm 3) (.it (.var 2)) (l__law_is_need_2)
def e__law_is_need_4 : IE := .lc (.call 12 (.cons (.var 0) (.cons (.var 3) (.nil)))) (.nm 3) (.it (.var 2)) (.non) [3]
def n__law_is_need : List String := ["survey", "many", "value", "lot", "ends", "seen", "station"]
def b__law_is_need : ISs := .cons (.ite (.or2 (.nt (.isi (.var 2) [.list, .tuple])) (.or2 (.cmp .le (.blt .len (.cons (.var 2) (.nil))) (.bin .mul (.cst (.int 2)) (.var 1))) (.nt (.blt .all1 (.cons (e__law_is_need_4) (.nil)))))) (.cons (.ret (.cst (.bool false))) (.nil)) (.nil)) (.cons (.par2 4 5 false false (.call 2 (.cons (.var 0) (.nil))) (.lst (.nil))) (.cons (s__law_is_need_3) (.cons (.ret (.cst (.bool true))) (.nil))))
def n_is_tuple : List String := ["value", "many"]
def b_is_tuple : ISs := .cons (.ret (.and2 (.isi (.var 0) [.tuple]) (.cmp .eq (.blt .len (.cons (.var 0) (.nil))) (.var 1)))) (.nil)
def n_is_integer : List String := ["value"]
def b_is_integer : ISs := .cons (.ret (.and2 (.isi (.var 0) [.int]) (.nt (.isi (.var 0) [.bool])))) (.nil)
def n_is_within : List String := ["value", "least", "most"]
def b_is_within : ISs := .cons (.ret (.and2 (.call 15 (.cons (.var 0) (.nil))) (.chn .le .le (.var 1) (.var 0) (.var 2)))) (.nil)
def n_is_fraction : List String := ["value"]
def b_is_fraction : ISs := .cons (.ite (.or2 (.nt (.isi (.var 0) [.tuple])) (.or2 (.cmp .ne (.blt .len (.cons (.var 0) (.nil))) (.cst (.int 2))) (.or2 (.nt (.call 15 (.cons (.idx (.var 0) (.cst (.int 0))) (.nil)))) (.nt (.call 15 (.cons (.idx (.var 0) (.cst (.int 1))) (.nil))))))) (.cons (.ret (.cst (.bool false))) (.nil)) (.nil)) (.cons (.ret (.and2 (.cmp .ge (.idx (.var 0) (.cst (.int 1))) (.cst (.int 1))) (.cmp .eq (.blt .gcd2 (.cons (.idx (.var 0) (.cst (.int 0))) (.cons (.idx (.var 0) (.cst (.int 1))) (.nil)))) (.cst (.int 1))))) (.nil))
def n_is_short : List String := ["value"]
def b_is_short : ISs := .cons (.ret (.and2 (.call 17 (.cons (.var 0) (.nil))) (.and2 (.cmp .lt (.blt .abs (.cons (.idx (.var 0) (.cst (.int 0))) (.nil))) (.glo 2)) (.cmp .le (.idx (.var 0) (.cst (.int 1))) (.glo 3))))) (.nil)
def e_is_short_vector_1 : IE := .lc (.call 18 (.cons (.var 2) (.nil))) (.nm 2) (.it (.var 0)) (.non) [2]
def n_is_short_vector : List String := ["value", "dims", "one"]
def b_is_short_vector : ISs := .cons (.ret (.and2 (.isi (.var 0) [.tuple]) (.and2 (.cmp .eq (.blt .len (.cons (.var 0) (.nil))) (.var 1)) (.blt .all1 (.cons (e_is_short_vector_1) (.nil)))))) (.nil)
def e_is_leg_value_1 : IE := .lc (.cmp .ge (.idx (.var 3) (.cst (.int 0))) (.cst (.int 0))) (.nm 3) (.it (.idx (.var 0) (.cst (.int 4)))) (.non) [3]
def e_is_leg_value_2 : IE := .lc (.call 16 (.cons (.var 3) (.cons (.cst (.int 0)) (.cons (.bin .sub (.var 2) (.cst (.int 1))) (.nil))))) (.nm 3) (.it (.slc (.var 0) (.som (.cst (.int 1))) (.som (.cst (.int 3))))) (.non) [3]
def n_is_leg_value : List String := ["value", "dims", "stations", "one"]
def b_is_leg_value : ISs := .cons (.ite (.or2 (.nt (.call 14 (.cons (.var 0) (.cons (.cst (.int 6)) (.nil))))) (.nt (.call 16 (.cons (.idx (.var 0) (.cst (.int 0))) (.cons (.cst (.int 0)) (.cons (.glo 7) (.nil))))))) (.cons (.ret (.cst (.bool false))) (.nil)) (.nil)) (.cons (.ite (.or2 (.nt (.blt .all1 (.cons (e_is_leg_value_2) (.nil)))) (.cmp .eq (.idx (.var 0) (.cst (.int 1))) (.idx (.var 0) (.cst (.int 2))))) (.cons (.ret (.cst (.bool false))) (.nil)) (.nil)) (.cons (.ite (.or2 (.nt (.call 19 (.cons (.idx (.var 0) (.cst (.int 3))) (.cons (.var 1) (.nil))))) (.nt (.call 19 (.cons (.idx (.var 0) (.cst (.int 4))) (.cons (.var 1) (.nil)))))) (.cons (.ret (.cst (.bool false))) (.nil)) (.nil)) (.cons (.ret (.and2 (.blt .all1 (.cons (e_is_leg_value_1) (.nil))) (.and2 (.call 18 (.cons (.idx (.var 0) (.cst (.int 5))) (.nil))) (.cmp .gt (.idx (.idx (.var 0) (.cst (.int 5))) (.cst (.int 0))) (.cst (.int 0)))))) (.nil))))
def e_is_survey_value_1 : IE := .lc (.call 20 (.cons (.var 1) (.cons (.idx (.var 0) (.cst (.int 1))) (.cons (.idx (.var 0) (.cst (.int 2))) (.nil))))) (.nm 1) (.it (.idx (.var 0) (.cst (.int 3)))) (.non) [1]
def n_is_survey_value : List String := ["value", "one"]
def b_is_survey_value : ISs := .cons (.ite (.or2 (.nt (.call 14 (.cons (.var 0) (.cons (.cst (.int 4)) (.nil))))) (.or2 (.nt (.isi (.idx (.var 0) (.cst (.int 0))) [.str])) (.cmp .ne (.idx (.var 0) (.cst (.int 0))) (.cst (.str "survey"))))) (.cons (.ret (.cst (.bool false))) (.nil)) (.nil)) (.cons (.ite (.or2 (.nt (.call 16 (.cons (.idx (.var 0) (.cst (.int 1))) (.cons (.cst (.int 1)) (.cons (.glo 4) (.nil)))))) (.nt (.call 16 (.cons (.idx (.var 0) (.cst (.int 2))) (.cons (.cst (.int 1)) (.cons (.glo 5) (.nil))))))) (.cons (.ret (.cst (.bool false))) (.nil)) (.nil)) (.cons (.ite (.or2 (.nt (.isi (.idx (.var 0) (.cst (.int 3))) [.tuple])) (.cmp .gt (.blt .len (.cons (.idx (.var 0) (.cst (.int 3))) (.nil))) (.glo 6))) (.cons (.ret (.cst (.bool false))) (.nil)) (.nil)) (.cons (.ret (.blt .all1 (.cons (e_is_survey_value_1) (.nil)))) (.nil))))
def n_want_survey : List String := ["survey"]
def b_want_survey : ISs := .cons (.ite (.nt (.call 21 (.cons (.var 0) (.nil)))) (.cons (.nev) (.nil)) (.nil)) (.nil)
def n_is_count : List String := ["value"]
def b_is_count : ISs := .cons (.ret (.and2 (.call 15 (.cons (.var 0) (.nil))) (.cmp .ge (.var 0) (.cst (.int 0))))) (.nil)
def n_is_list : List String := ["value"]
def b_is_list : ISs := .cons (.ret (.isi (.var 0) [.list, .tuple])) (.nil)
def e_are_stations_1 : IE := .lc (.cmp .lt (.var 2) (.var 3)) (.tp (.cons (.nm 2) (.cons (.nm 3) (.nil)))) (.zip (.var 1) (.slc (.var 1) (.som (.cst (.int 1))) (.non))) (.non) [2, 3]
def e_are_stations_2 : IE := .lc (.call 16 (.cons (.var 4) (.cons (.cst (.int 0)) (.cons (.bin .sub (.idx (.var 0) (.cst (.int 2))) (.cst (.int 1))) (.nil))))) (.nm 4) (.it (.var 1)) (.non) [4]
def n_are_stations : List String := ["survey", "value", "near", "far", "one"]
def b_are_stations : ISs := .cons (.ite (.or2 (.nt (.call 24 (.cons (.var 1) (.nil)))) (.or2 (.cmp .eq (.blt .len (.cons (.var 1) (.nil))) (.cst (.int 0))) (.nt (.blt .all1 (.cons (e_are_stations_2) (.nil)))))) (.cons (.ret (.cst (.bool false))) (.nil)) (.nil)) (.cons (.ret (.blt .all1 (.cons (e_are_stations_1) (.nil)))) (.nil))
def e_leaving_1 : IE := .lc (.var 2) (.tp (.cons (.nm 2) (.cons (.nm 3) (.nil)))) (.enu (.idx (.var 0) (.cst (.int 3)))) (.som (.cmp .ne (.cmp .mem (.idx (.var 3) (.cst (.int 1))) (.var 1)) (.cmp .mem (.idx (.var 3) (.cst (.int 2))) (.var 1)))) [2, 3]
def n_leaving : List String := ["survey", "stations", "at", "leg"]
def b_leaving : ISs := .cons (.ret (.blt .tuple1 (.cons (e_leaving_1) (.nil)))) (.nil)
def e_is_need_paper_1 : IE := .lc (.cmp .eq (.blt .len (.cons (.call 26 (.cons (.var 0) (.cons (.var 4) (.nil)))) (.nil))) (.cst (.int 1))) (.nm 4) (.it (.var 2)) (.non) [4]
def l_is_need_paper_2 : ISs := .cons (.ex (.mth .extend 3 (.cons (.blt .list1 (.cons (.var 4) (.nil))) (.nil)))) (.nil)
def s_is_need_paper_3 : IS := .fo (.nm 4) (.it (.var 2)) (l_is_need_paper_2)
def e_is_need_paper_4 : IE := .lc (.call 25 (.cons (.var 0) (.cons (.var 4) (.nil)))) (.nm 4) (.it (.var 2)) (.non) [4]
def n_is_need_paper : List String := ["survey", "many", "value", "places", "lot"]
def b_is_need_paper : ISs := .cons (.ex (.call 22 (.cons (.var 0) (.nil)))) (.cons (.ite (.nt (.call 23 (.cons (.var 1) (.nil)))) (.cons (.nev) (.nil)) (.nil)) (.cons (.ite (.or2 (.nt (.call 24 (.cons (.var 2) (.nil)))) (.or2 (.cmp .le (.blt .len (.cons (.var 2) (.nil))) (.bin .mul (.cst (.int 2)) (.var 1))) (.nt (.blt .all1 (.cons (e_is_need_paper_4) (.nil)))))) (.cons (.ret (.cst (.bool false))) (.nil)) (.nil)) (.cons (.own 3 (.lst (.nil))) (.cons (s_is_need_paper_3) (.cons (.ret (.and2 (.cmp .eq (.lset (.var 3)) (.blt .len (.cons (.var 3) (.nil)))) (.blt .all1 (.cons (e_is_need_paper_1) (.nil))))) (.nil))))))
def e_are_pairs_1 : IE := .lc (.call 16 (.cons (.var 3) (.cons (.cst (.int 0)) (.cons (.bin .sub (.idx (.var 0) (.cst (.int 2))) (.cst (.int 1))) (.nil))))) (.nm 3) (.it (.var 2)) (.non) [3]
def l_are_pairs_2 : ISs := .cons (.ite (.or2 (.nt (.blt .all1 (.cons (e_are_pairs_1) (.nil)))) (.cmp .eq (.idx (.var 2) (.cst (.int 0))) (.idx (.var 2) (.cst (.int 1))))) (.cons (.ret (.cst (.bool false))) (.nil)) (.nil)) (.nil)
def s_are_pairs_3 : IS := .fo (.nm 2) (.it (.var 1)) (l_are_pairs_2)
def e_are_pairs_4 : IE := .lc (.call 14 (.cons (.var 2) (.cons (.cst (.int 2)) (.nil)))) (.nm 2) (.it (.var 1)) (.non) [2]
def n_are_pairs : List String := ["survey", "value", "one", "station"]
def b_are_pairs : ISs := .cons (.ite (.or2 (.nt (.call 24 (.cons (.var 1) (.nil)))) (.or2 (.cmp .gt (.blt .len (.cons (.var 1) (.nil))) (.cst (.int 24))) (.nt (.blt .all1 (.cons (e_are_pairs_4) (.nil)))))) (.cons (.ret (.cst (.bool false))) (.nil)) (.nil)) (.cons (s_are_pairs_3) (.cons (.ret (.cst (.bool true))) (.nil)))
def n_all_legs : List String := ["survey"]
def b_all_legs : ISs := .cons (.ret (.trg (.cst (.int 0)) (.blt .len (.cons (.idx (.var 0) (.cst (.int 3))) (.nil))))) (.nil)
def e_legs_at_1 : IE := .lc (.var 2) (.tp (.cons (.nm 2) (.cons (.nm 3) (.nil)))) (.enu (.idx (.var 0) (.cst (.int 3)))) (.som (.cmp .mem (.var 1) (.slc (.var 3) (.som (.cst (.int 1))) (.som (.cst (.int 3)))))) [2, 3]
def n_legs_at : List String := ["survey", "station", "at", "leg"]
def b_legs_at : ISs := .cons (.ret (e_legs_at_1)) (.nil)
def n_far_end : List String := ["leg", "station"]
def b_far_end : ISs := .cons (.ret (.ite (.cmp .eq (.idx (.var 0) (.cst (.int 1))) (.var 1)) (.idx (.var 0) (.cst (.int 2))) (.idx (.var 0) (.cst (.int 1))))) (.nil)
def n_sense_from : List String := ["survey", "leg", "station"]
def b_sense_from : ISs := .cons (.ret (.ite (.cmp .eq (.idx (.idx (.idx (.var 0) (.cst (.int 3))) (.var 1)) (.cst (.int 1))) (.var 2)) (.cst (.int 1)) (.neg (.cst (.int 1))))) (.nil)
def l_ways_by_1 : ISs := .cons (.asg (.nm 8) (.call 31 (.cons (.idx (.idx (.var 0) (.cst (.int 3))) (.var 7)) (.cons (.var 6) (.nil))))) (.cons (.ite (.and2 (.cmp .mem (.var 7) (.var 2)) (.din true (.var 8) (.var 3))) (.cons (.dpt 3 (.var 8) (.bin .add (.dix (.var 3) (.var 6)) (.lst (.cons (.tup (.cons (.var 7) (.cons (.call 32 (.cons (.var 0) (.cons (.var 7) (.cons (.var 6) (.nil))))) (.nil)))) (.nil))))) (.cons (.ex (.mth .append 5 (.cons (.var 8) (.nil)))) (.nil))) (.nil)) (.nil))
def s_ways_by_2 : IS := .fo (.nm 7) (.it (.call 30 (.cons (.var 0) (.cons (.var 6) (.nil))))) (l_ways_by_1)
def l_ways_by_3 : ISs := .cons (s_ways_by_2) (.nil)
def s_ways_by_4 : IS := .fo (.nm 6) (.it (.var 4)) (l_ways_by_3)
def l_ways_by_5 : ISs := .cons (.own 5 (.lst (.nil))) (.cons (s_ways_by_4) (.cons (.asg (.nm 4) (.frz 5)) (.nil)))
def s_ways_by_6 : IS := .wh (.cmp .ne (.var 4) (.lst (.nil))) (l_ways_by_5)
def n_ways_by : List String := ["survey", "station", "lot", "found", "last", "late", "here", "leg", "there"]
def b_ways_by : ISs := .cons (.par2 3 4 true false (.ds1 (.var 1) (.lst (.nil))) (.lst (.cons (.var 1) (.nil)))) (.cons (s_ways_by_6) (.cons (.ret (.frz 3)) (.nil)))
def e_without_1 : IE := .lc (.var 2) (.nm 2) (.it (.var 0)) (.som (.cmp .ne (.var 2) (.var 1))) [2]
def n_without : List String := ["lot", "leg", "one"]
def b_without : ISs := .cons (.ret (.blt .tuple1 (.cons (e_without_1) (.nil)))) (.nil)
def n_loop_with : List String := ["survey", "leg", "told", "back"]
def b_loop_with : ISs := .cons (.asg (.nm 2) (.idx (.idx (.var 0) (.cst (.int 3))) (.var 1))) (.cons (.asg (.nm 3) (.dgt (.call 33 (.cons (.var 0) (.cons (.idx (.var 2) (.cst (.int 2))) (.cons (.call 34 (.cons (.call 29 (.cons (.var 0) (.nil))) (.cons (.var 1) (.nil)))) (.nil))))) (.idx (.var 2) (.cst (.int 1))) (.cst .none))) (.cons (.ret (.ite (.cmp .isN (.var 3) (.cst .none)) (.cst .none) (.bin .add (.lst (.cons (.tup (.cons (.var 1) (.cons (.call 32 (.cons (.var 0) (.cons (.var 1) (.cons (.idx (.var 2) (.cst (.int 1))) (.nil))))) (.nil)))) (.nil))) (.var 3)))) (.nil)))
def e_bridges_of_1 : IE := .lc (.var 1) (.nm 1) (.it (.call 29 (.cons (.var 0) (.nil)))) (.som (.cmp .isN (.call 35 (.cons (.var 0) (.cons (.var 1) (.nil)))) (.cst .none))) [1]
def n_bridges_of : List String := ["survey", "leg"]
def b_bridges_of : ISs := .cons (.ret (.blt .tuple1 (.cons (e_bridges_of_1) (.nil)))) (.nil)
def n_nought : List String := ["dims"]
def b_nought : ISs := .cons (.ret (.bin .mul (.tup (.cons (.glo 0) (.nil))) (.var 0))) (.nil)
def e_with_pairs_1 : IE := .lc (.tup (.cons (.cst (.int 0)) (.cons (.var 4) (.cons (.var 5) (.cons (.var 2) (.cons (.var 2) (.cons (.glo 1) (.nil)))))))) (.tp (.cons (.nm 4) (.cons (.nm 5) (.nil)))) (.it (.var 1)) (.non) [4, 5]
def n_with_pairs : List String := ["survey", "pairs", "bare", "more", "one", "other"]
def b_with_pairs : ISs := .cons (.asg (.nm 2) (.call 37 (.cons (.idx (.var 0) (.cst (.int 1))) (.nil)))) (.cons (.asg (.nm 3) (.blt .tuple1 (.cons (e_with_pairs_1) (.nil)))) (.cons (.ret (.tup (.cons (.idx (.var 0) (.cst (.int 0))) (.cons (.idx (.var 0) (.cst (.int 1))) (.cons (.idx (.var 0) (.cst (.int 2))) (.cons (.bin .add (.idx (.var 0) (.cst (.int 3))) (.var 3)) (.nil))))))) (.nil)))
def n_is_plan : List String := ["survey", "value"]
def b_is_plan : ISs := .cons (.ex (.call 22 (.cons (.var 0) (.nil)))) (.cons (.ret (.and2 (.call 28 (.cons (.var 0) (.cons (.var 1) (.nil)))) (.cmp .eq (.call 36 (.cons (.call 38 (.cons (.var 0) (.cons (.var 1) (.nil)))) (.nil))) (.tup (.nil))))) (.nil))
def l__law_right_1 : ISs := .cons (.par2 4 5 false false (.call 13 (.cons (.var 1) (.cons (.var 3) (.cons (.var 2) (.nil))))) (.blt .repr1 (.cons (.var 2) (.nil)))) (.cons (.asg (.nm 6) (.lst (.cons (.call 27 (.cons (.var 1) (.cons (.var 3) (.cons (.var 2) (.nil))))) (.cons (.callk 27 [2, 1, 0] (.cons (.var 2) (.cons (.var 3) (.cons (.var 1) (.nil))))) (.nil))))) (.cons (.ite (.or2 (.cmp .ne (.blt .repr1 (.cons (.var 6) (.nil))) (.rpr (.cons (.var 4) (.cons (.var 4) (.nil))))) (.cmp .ne (.blt .repr1 (.cons (.var 2) (.nil))) (.var 5))) (.cons (.ret (.cst (.bool false))) (.nil)) (.nil)) (.nil)))
def s__law_right_2 : IS := .fo (.nm 3) (.rng (.cst (.int 0)) (.cst (.int 3))) (l__law_right_1)
def l__law_right_3 : ISs := .cons (s__law_right_2) (.nil)
def s__law_right_4 : IS := .fo (.nm 2) (.it (.call 10 (.cons (.var 0) (.cons (.var 1) (.nil))))) (l__law_right_3)
def l__law_right_5 : ISs := .cons (.par2 4 5 false false (.call 11 (.cons (.var 1) (.cons (.var 2) (.nil)))) (.blt .repr1 (.cons (.var 2) (.nil)))) (.cons (.ite (.or2 (.cmp .ne (.rpr (.cons (.call 39 (.cons (.var 1) (.cons (.var 2) (.nil)))) (.cons (.callk 39 [1, 0] (.cons (.var 2) (.cons (.var 1) (.nil)))) (.nil)))) (.rpr (.cons (.var 4) (.cons (.var 4) (.nil))))) (.cmp .ne (.blt .repr1 (.cons (.var 2) (.nil))) (.var 5))) (.cons (.ret (.cst (.bool false))) (.nil)) (.nil)) (.nil))
def s__law_right_6 : IS := .fo (.nm 2) (.it (.call 8 (.cons (.var 0) (.cons (.var 1) (.nil))))) (l__law_right_5)
def n__law_right : List String := ["pot", "survey", "value", "many", "due", "shown", "told"]
def b__law_right : ISs := .cons (.asg (.nm 1) (.call 1 (.cons (.var 0) (.cons (.bin .add (.cst (.int 2)) (.call 0 (.cons (.var 0) (.cons (.cst (.int 6)) (.nil))))) (.cons (.call 0 (.cons (.var 0) (.cons (.cst (.int 4)) (.nil)))) (.nil)))))) (.cons (s__law_right_6) (.cons (s__law_right_4) (.cons (.ret (.cst (.bool true))) (.nil))))
def n__law_pot : List String := ["script", "k", "cell"]
def b__law_pot : ISs := .cons (.asg (.nm 2) (.ite (.cmp .lt (.var 1) (.blt .len (.cons (.var 0) (.nil)))) (.blt .abs (.cons (.idx (.var 0) (.var 1)) (.nil))) (.bin .add (.bin .mul (.cst (.int 1231)) (.var 1)) (.cst (.int 179))))) (.cons (.ret (.lst (.cons (.blt .max2 (.cons (.cst (.int 0)) (.cons (.bin .sub (.var 2) (.bin .pow (.cst (.int 10)) (.cst (.int 18)))) (.nil)))) (.cons (.bin .add (.bin .mod (.blt .int1 (.cons (.bin .add (.bin .add (.bin .mul (.bin .mod (.blt .int1 (.cons (.var 2) (.nil))) (.cst (.int 2147483549))) (.cst (.int 40014))) (.bin .mul (.cst (.int 6827)) (.var 1))) (.cst (.int 887))) (.nil))) (.cst (.int 2147483563))) (.cst (.int 1))) (.nil))))) (.nil))
def l_law_1 : ISs := .cons (.ite (.nt (.call 40 (.cons (.giv (.call 41 (.cons (.var 0) (.cons (.var 1) (.nil))))) (.nil)))) (.cons (.ret (.cst (.bool false))) (.nil)) (.nil)) (.nil)
def s_law_2 : IS := .fo (.nm 1) (.rng (.cst (.int 0)) (.blt .max2 (.cons (.cst (.int 1)) (.cons (.blt .min2 (.cons (.cst (.int 3)) (.cons (.blt .len (.cons (.var 0) (.nil))) (.nil)))) (.nil))))) (l_law_1)
def n_law : List String := ["script", "k"]
def b_law : ISs := .cons (s_law_2) (.cons (.ret (.cst (.bool true))) (.nil))
def fns : List Fn := [⟨2, 3, b__law_draw⟩, ⟨3, 11, b__law_shape⟩, ⟨1, 2, b__law_ends_of⟩, ⟨3, 8, b__law_reached⟩, ⟨1, 4, b__law_bridges⟩, ⟨3, 6, b__law_pieces⟩, ⟨1, 4, b__law_knots⟩, ⟨2, 2, b__law_pick⟩, ⟨2, 9, b__law_plans⟩, ⟨2, 4, b__law_leaving⟩, ⟨2, 13, b__law_needs⟩, ⟨2, 4, b__law_is_plan⟩, ⟨2, 5, b__law_is_lot⟩, ⟨3, 7, b__law_is_need⟩, ⟨2, 2, b_is_tuple⟩, ⟨1, 1, b_is_integer⟩, ⟨3, 3, b_is_within⟩, ⟨1, 1, b_is_fraction⟩, ⟨1, 1, b_is_short⟩, ⟨2, 3, b_is_short_vector⟩, ⟨3, 4, b_is_leg_value⟩, ⟨1, 2, b_is_survey_value⟩, ⟨1, 1, b_want_survey⟩, ⟨1, 1, b_is_count⟩, ⟨1, 1, b_is_list⟩, ⟨2, 5, b_are_stations⟩, ⟨2, 4, b_leaving⟩, ⟨3, 5, b_is_need_paper⟩, ⟨2, 4, b_are_pairs⟩, ⟨1, 1, b_all_legs⟩, ⟨2, 4, b_legs_at⟩, ⟨2, 2, b_far_end⟩, ⟨3, 3, b_sense_from⟩, ⟨3, 9, b_ways_by⟩, ⟨2, 3, b_without⟩, ⟨2, 4, b_loop_with⟩, ⟨1, 2, b_bridges_of⟩, ⟨1, 1, b_nought⟩, ⟨2, 6, b_with_pairs⟩, ⟨2, 2, b_is_plan⟩, ⟨1, 7, b__law_right⟩, ⟨2, 3, b__law_pot⟩, ⟨1, 2, b_law⟩]
abbrev i__law_draw : Nat := 0
abbrev i__law_shape : Nat := 1
abbrev i__law_ends_of : Nat := 2
abbrev i__law_reached : Nat := 3
abbrev i__law_bridges : Nat := 4
abbrev i__law_pieces : Nat := 5
abbrev i__law_knots : Nat := 6
abbrev i__law_pick : Nat := 7
abbrev i__law_plans : Nat := 8
abbrev i__law_leaving : Nat := 9
abbrev i__law_needs : Nat := 10
abbrev i__law_is_plan : Nat := 11
abbrev i__law_is_lot : Nat := 12
abbrev i__law_is_need : Nat := 13
abbrev i_is_tuple : Nat := 14
abbrev i_is_integer : Nat := 15
abbrev i_is_within : Nat := 16
abbrev i_is_fraction : Nat := 17
abbrev i_is_short : Nat := 18
abbrev i_is_short_vector : Nat := 19
abbrev i_is_leg_value : Nat := 20
abbrev i_is_survey_value : Nat := 21
abbrev i_want_survey : Nat := 22
abbrev i_is_count : Nat := 23
abbrev i_is_list : Nat := 24
abbrev i_are_stations : Nat := 25
abbrev i_leaving : Nat := 26
abbrev i_is_need_paper : Nat := 27
abbrev i_are_pairs : Nat := 28
abbrev i_all_legs : Nat := 29
abbrev i_legs_at : Nat := 30
abbrev i_far_end : Nat := 31
abbrev i_sense_from : Nat := 32
abbrev i_ways_by : Nat := 33
abbrev i_without : Nat := 34
abbrev i_loop_with : Nat := 35
abbrev i_bridges_of : Nat := 36
abbrev i_nought : Nat := 37
abbrev i_with_pairs : Nat := 38
abbrev i_is_plan : Nat := 39
abbrev i__law_right : Nat := 40
abbrev i__law_pot : Nat := 41
abbrev i_law : Nat := 42
end K94

set_option Elab.async false
set_option linter.all false
set_option maxRecDepth 100000
set_option maxHeartbeats 4000000
namespace K94
open PySem Rf
def C0 : List D := consts.map (·.2)
@[irreducible] def G (k : Nat) : FT := callN C0 fns k
theorem one {k f : Nat} {as : List Ar} {fn : Fn} (h : fns[f]? = some fn) : G (k + 1) f as = runF (G k) C0 fn as := by
  unfold G
  simp only [callN, h]
theorem c0 (n : Nat) : C0[n]? = (consts.map (·.2))[n]? := rfl
theorem mulOk2 {i : Int} : mulOk 2 i = true := rfl
/-! ### kinds -/
def isInt : D → Bool
  | .int _ => true
  | _ => false
def inRg (lo hi : Int) : D → Bool
  | .int i => decide (lo ≤ i) && decide (i ≤ hi)
  | _ => false
theorem is_integer_ok {k : Nat} {d : D} : G (k + 1) i_is_integer [.pu d] = some (.pu (.bool (isInt d)), []) := by
  rw [one (fn := ⟨1, 1, b_is_integer⟩) rfl]
  cases d <;> simp [evSs, evS, evE, evA, evP, evO, evD, evI, asgT, asgTs, rdp, rds, rdsAll, frzd, frzE, thaw, callO, arsOf, arOf, iosOf, distinct, backOut, rvO, pick, bltV, cmpV, eqii, eqbb, eqstr, binV, negV, ixt, ixl, at0, at1, at2, at3, at4, at5, ix20, ix21, lk0, lk1, lk2, lk3, lk4, lk5, lk6, putv, slotOf, finF, rvOf, outsOf, runF, slOf, setAt, tyIs, isNon, seqV, Nat.blt, mulOk2, b_is_integer, isInt]
theorem is_within_ok {k : Nat} {d : D} {lo hi : Int} : G (k + 2) i_is_within [.pu d, .pu (.int lo), .pu (.int hi)] = some (.pu (.bool (inRg lo hi d)), []) := by
  rw [one (fn := ⟨3, 3, b_is_within⟩) rfl]
  have h := is_integer_ok (k := k) (d := d)
  cases d <;> simp only [isInt] at h <;> simp [evSs, evS, evE, evA, evP, evO, evD, evI, asgT, asgTs, rdp, rds, rdsAll, frzd, frzE, thaw, callO, arsOf, arOf, iosOf, distinct, backOut, rvO, pick, bltV, cmpV, eqii, eqbb, eqstr, binV, negV, ixt, ixl, at0, at1, at2, at3, at4, at5, ix20, ix21, lk0, lk1, lk2, lk3, lk4, lk5, lk6, putv, slotOf, finF, rvOf, outsOf, runF, slOf, setAt, tyIs, isNon, seqV, Nat.blt, mulOk2, b_is_within, inRg, h]
  rename_i i
  by_cases q : lo ≤ i <;> simp [evSs, evS, evE, evA, evP, evO, evD, evI, asgT, asgTs, rdp, rds, rdsAll, frzd, frzE, thaw, callO, arsOf, arOf, iosOf, distinct, backOut, rvO, pick, bltV, cmpV, eqii, eqbb, eqstr, binV, negV, ixt, ixl, at0, at1, at2, at3, at4, at5, ix20, ix21, lk0, lk1, lk2, lk3, lk4, lk5, lk6, putv, slotOf, finF, rvOf, outsOf, runF, slOf, setAt, tyIs, isNon, seqV, Nat.blt, mulOk2, q]
def isTup (n : Int) : D → Bool
  | .tuple xs => decide ((xs.length : Int) = n)
  | _ => false
theorem is_tuple_ok {k : Nat} {d : D} {n : Int} : G (k + 1) i_is_tuple [.pu d, .pu (.int n)] = some (.pu (.bool (isTup n d)), []) := by
  rw [one (fn := ⟨2, 2, b_is_tuple⟩) rfl]
  cases d <;> simp [evSs, evS, evE, evA, evP, evO, evD, evI, asgT, asgTs, rdp, rds, rdsAll, frzd, frzE, thaw, callO, arsOf, arOf, iosOf, distinct, backOut, rvO, pick, bltV, cmpV, eqii, eqbb, eqstr, binV, negV, ixt, ixl, at0, at1, at2, at3, at4, at5, ix20, ix21, lk0, lk1, lk2, lk3, lk4, lk5, lk6, putv, slotOf, finF, rvOf, outsOf, runF, slOf, setAt, tyIs, isNon, seqV, Nat.blt, mulOk2, b_is_tuple, isTup]
def isLst : D → Bool
  | .list _ => true
  | .tuple _ => true
  | _ => false
theorem is_list_ok {k : Nat} {d : D} : G (k + 1) i_is_list [.pu d] = some (.pu (.bool (isLst d)), []) := by
  rw [one (fn := ⟨1, 1, b_is_list⟩) rfl]
  cases d <;> simp [evSs, evS, evE, evA, evP, evO, evD, evI, asgT, asgTs, rdp, rds, rdsAll, frzd, frzE, thaw, callO, arsOf, arOf, iosOf, distinct, backOut, rvO, pick, bltV, cmpV, eqii, eqbb, eqstr, binV, negV, ixt, ixl, at0, at1, at2, at3, at4, at5, ix20, ix21, lk0, lk1, lk2, lk3, lk4, lk5, lk6, putv, slotOf, finF, rvOf, outsOf, runF, slOf, setAt, tyIs, isNon, seqV, Nat.blt, mulOk2, b_is_list, isLst]
/-! ### surveys -/
abbrev Lg := Int × Int × Int
def lgD (l : Lg) : D := .tuple [.int l.1, .int l.2.1, .int l.2.2, .tuple [.tuple [.int 0, .int 1]], .tuple [.tuple [.int 0, .int 1]], .tuple [.int 1, .int 1]]
noncomputable def sv (t : Str) (n : Int) (ls : List Lg) : D := hid (.tuple [.str t, .int 1, .int n, .tuple (ls.map lgD)])
section
variable {t : Str} {n : Int} {ls : List Lg}
theorem sv_eq : sv t n ls = .tuple [.str t, .int 1, .int n, .tuple (ls.map lgD)] := hid_eq _
theorem sv0 : idxV (sv t n ls) (.int 0) = some (.str t) := by rw [sv_eq, ixt]; exact at0
theorem sv1 : idxV (sv t n ls) (.int 1) = some (.int 1) := by rw [sv_eq, ixt]; exact at1
theorem sv2 : idxV (sv t n ls) (.int 2) = some (.int n) := by rw [sv_eq, ixt]; exact at2
theorem sv3 : idxV (sv t n ls) (.int 3) = some (.tuple (ls.map lgD)) := by rw [sv_eq, ixt]; exact at3
end
def okL (n : Int) (l : Lg) : Prop := 0 ≤ l.1 ∧ l.1 ≤ 5 ∧ 0 ≤ l.2.1 ∧ l.2.1 < n ∧ 0 ≤ l.2.2 ∧ l.2.2 < n ∧ l.2.1 ≠ l.2.2
structure okS (n : Int) (ls : List Lg) : Prop where
  n1 : 1 ≤ n
  n2 : n ≤ 24
  ln : ls.length ≤ 60
  lg : ∀ l ∈ ls, okL n l
theorem is_fraction_ok {k : Nat} {i : Int} (h : i = 0 ∨ i = 1) : G (k + 2) i_is_fraction [.pu (.tuple [.int i, .int 1])] = some (.pu (.bool true), []) := by
  rw [one (fn := ⟨1, 1, b_is_fraction⟩) rfl]
  have h1 := is_integer_ok (k := k) (d := .int i)
  have h2 := is_integer_ok (k := k) (d := .int 1)
  simp only [isInt] at h1 h2
  rcases h with rfl | rfl <;> simp [evSs, evS, evE, evA, evP, evO, evD, evI, asgT, asgTs, rdp, rds, rdsAll, frzd, frzE, thaw, callO, arsOf, arOf, iosOf, distinct, backOut, rvO, pick, bltV, cmpV, eqii, eqbb, eqstr, binV, negV, ixt, ixl, at0, at1, at2, at3, at4, at5, ix20, ix21, lk0, lk1, lk2, lk3, lk4, lk5, lk6, putv, slotOf, finF, rvOf, outsOf, runF, slOf, setAt, tyIs, isNon, seqV, Nat.blt, mulOk2, b_is_fraction, h1, h2]
theorem is_short_ok {k : Nat} {i : Int} (h : i = 0 ∨ i = 1) : G (k + 3) i_is_short [.pu (.tuple [.int i, .int 1])] = some (.pu (.bool true), []) := by
  rw [one (fn := ⟨1, 1, b_is_short⟩) rfl]
  have h1 := is_fraction_ok (k := k) h
  rcases h with rfl | rfl <;> simp [evSs, evS, evE, evA, evP, evO, evD, evI, asgT, asgTs, rdp, rds, rdsAll, frzd, frzE, thaw, callO, arsOf, arOf, iosOf, distinct, backOut, rvO, pick, bltV, cmpV, eqii, eqbb, eqstr, binV, negV, ixt, ixl, at0, at1, at2, at3, at4, at5, ix20, ix21, lk0, lk1, lk2, lk3, lk4, lk5, lk6, putv, slotOf, finF, rvOf, outsOf, runF, slOf, setAt, tyIs, isNon, seqV, Nat.blt, mulOk2, b_is_short, h1, c0, consts]
theorem is_short_vector_ok {k : Nat} : G (k + 4) i_is_short_vector [.pu (.tuple [.tuple [.int 0, .int 1]]), .pu (.int 1)] = some (.pu (.bool true), []) := by
  rw [one (fn := ⟨2, 3, b_is_short_vector⟩) rfl]
  have h1 := is_short_ok (k := k) (.inl rfl)
  simp [evSs, evS, evE, evA, evP, evO, evD, evI, asgT, asgTs, rdp, rds, rdsAll, frzd, frzE, thaw, callO, arsOf, arOf, iosOf, distinct, backOut, rvO, pick, bltV, cmpV, eqii, eqbb, eqstr, binV, negV, ixt, ixl, at0, at1, at2, at3, at4, at5, ix20, ix21, lk0, lk1, lk2, lk3, lk4, lk5, lk6, putv, slotOf, finF, rvOf, outsOf, runF, slOf, setAt, tyIs, isNon, seqV, Nat.blt, mulOk2, b_is_short_vector, e_is_short_vector_1, h1, lcV, lcLoop, wipeE, backE, valOnly, boolsOf ]
theorem inRg_t {lo hi i : Int} (h1 : lo ≤ i) (h2 : i ≤ hi) : inRg lo hi (.int i) = true := by simp [inRg, h1, h2]
theorem is_leg_ok {k : Nat} {n : Int} {l : Lg} (h : okL n l) : G (k + 5) i_is_leg_value [.pu (lgD l), .pu (.int 1), .pu (.int n)] = some (.pu (.bool true), []) := by
  rw [one (fn := ⟨3, 4, b_is_leg_value⟩) rfl]
  obtain ⟨p, a, b⟩ := l
  obtain ⟨h1, h2, h3, h4, h5, h6, h7⟩ := h
  have t := is_tuple_ok (k := k + 3) (d := lgD (p, a, b)) (n := 6)
  have w1 := is_within_ok (k := k + 2) (d := .int p) (lo := 0) (hi := 5)
  have w2 := is_within_ok (k := k + 2) (d := .int a) (lo := 0) (hi := n - 1)
  have w3 := is_within_ok (k := k + 2) (d := .int b) (lo := 0) (hi := n - 1)
  rw [inRg_t h1 h2] at w1
  rw [inRg_t h3 (by simpa using Int.le_sub_one_of_lt h4)] at w2
  rw [inRg_t h5 (by simpa using Int.le_sub_one_of_lt h6)] at w3
  have s := is_short_ok (k := k + 1) (.inr rfl)
  have v := is_short_vector_ok (k := k)
  have h7' : ¬ a = b := h7
  simp only [lgD, isTup] at t ⊢
  simp [evSs, evS, evE, evA, evP, evO, evD, evI, asgT, asgTs, rdp, rds, rdsAll, frzd, frzE, thaw, callO, arsOf, arOf, iosOf, distinct, backOut, rvO, pick, bltV, cmpV, eqii, eqbb, eqstr, binV, negV, ixt, ixl, at0, at1, at2, at3, at4, at5, ix20, ix21, lk0, lk1, lk2, lk3, lk4, lk5, lk6, putv, slotOf, finF, rvOf, outsOf, runF, slOf, setAt, tyIs, isNon, seqV, Nat.blt, mulOk2, b_is_leg_value, e_is_leg_value_1, e_is_leg_value_2, t, w1, w2, w3, s, v, c0, consts, lcV, lcLoop, wipeE, backE, valOnly, boolsOf , slcV, cutL, HT.sIx, h7']
theorem is_survey_ok {k : Nat} {t : Str} {n : Int} {ls : List Lg} (ht : t = "survey") (h : okS n ls) : G (k + 6) i_is_survey_value [.pu (sv t n ls)] = some (.pu (.bool true), []) := by
  rw [one (fn := ⟨1, 2, b_is_survey_value⟩) rfl]
  subst ht
  have t4 := is_tuple_ok (k := k + 4) (d := sv "survey" n ls) (n := 4)
  have w1 := is_within_ok (k := k + 3) (d := .int 1) (lo := 1) (hi := 3)
  have w2 := is_within_ok (k := k + 3) (d := .int n) (lo := 1) (hi := 24)
  rw [inRg_t (by decide) (by decide)] at w1
  rw [inRg_t h.n1 h.n2] at w2
  have hl : ¬ (60 < (ls.length : Int)) := by have := h.ln; omega
  have c : evE (G (k + 5)) C0 e_is_survey_value_1 [.val (sv "survey" n ls), .emp] = some (.fr (ls.map fun _ => .bool true), [.val (sv "survey" n ls), .emp]) := by
    refine (lcE (e1 := [.val (sv "survey" n ls), .emp]) (ds := ls.map lgD) (fun _ => some (.bool true)) ?_ ?_ ?_).trans ?_
    · simp [evSs, evS, evE, evA, evP, evO, evD, evI, asgT, asgTs, rdp, rds, rdsAll, frzd, frzE, thaw, callO, arsOf, arOf, iosOf, distinct, backOut, rvO, pick, bltV, cmpV, eqii, eqbb, eqstr, binV, negV, ixt, ixl, at0, at1, at2, at3, at4, at5, ix20, ix21, lk0, lk1, lk2, lk3, lk4, lk5, lk6, putv, slotOf, finF, rvOf, outsOf, runF, slOf, setAt, tyIs, isNon, seqV, Nat.blt, mulOk2, sv3]
    · rw [List.length_map]; have := h.ln; omega
    · intro d hd
      obtain ⟨l, hl, rfl⟩ := List.mem_map.mp hd
      have g := is_leg_ok (k := k) (h.lg l hl)
      refine ⟨[.val (sv "survey" n ls), .val (lgD l)], true, [.val (sv "survey" n ls), .val (lgD l)], ?_, ?_, by simp, fun _ => ⟨.bool true, [.val (sv "survey" n ls), .val (lgD l)], ?_, ?_, rfl⟩⟩
      · simp [evSs, evS, evE, evA, evP, evO, evD, evI, asgT, asgTs, rdp, rds, rdsAll, frzd, frzE, thaw, callO, arsOf, arOf, iosOf, distinct, backOut, rvO, pick, bltV, cmpV, eqii, eqbb, eqstr, binV, negV, ixt, ixl, at0, at1, at2, at3, at4, at5, ix20, ix21, lk0, lk1, lk2, lk3, lk4, lk5, lk6, putv, slotOf, finF, rvOf, outsOf, runF, slOf, setAt, tyIs, isNon, seqV, Nat.blt, mulOk2, wipeE]
      · simp [evSs, evS, evE, evA, evP, evO, evD, evI, asgT, asgTs, rdp, rds, rdsAll, frzd, frzE, thaw, callO, arsOf, arOf, iosOf, distinct, backOut, rvO, pick, bltV, cmpV, eqii, eqbb, eqstr, binV, negV, ixt, ixl, at0, at1, at2, at3, at4, at5, ix20, ix21, lk0, lk1, lk2, lk3, lk4, lk5, lk6, putv, slotOf, finF, rvOf, outsOf, runF, slOf, setAt, tyIs, isNon, seqV, Nat.blt, mulOk2]
      · simp [evSs, evS, evE, evA, evP, evO, evD, evI, asgT, asgTs, rdp, rds, rdsAll, frzd, frzE, thaw, callO, arsOf, arOf, iosOf, distinct, backOut, rvO, pick, bltV, cmpV, eqii, eqbb, eqstr, binV, negV, ixt, ixl, at0, at1, at2, at3, at4, at5, ix20, ix21, lk0, lk1, lk2, lk3, lk4, lk5, lk6, putv, slotOf, finF, rvOf, outsOf, runF, slOf, setAt, tyIs, isNon, seqV, Nat.blt, mulOk2, sv1, sv2, g]
      · simp [wipeE]
    · rw [fmap_some lgD _ (fun _ => .bool true) ls (fun _ _ => rfl)]
      simp [backE, wipeE, valOnly]
  simp only [sv_eq, isTup] at t4 c ⊢
  simp [evSs, evS, evE, evA, evP, evO, evD, evI, asgT, asgTs, rdp, rds, rdsAll, frzd, frzE, thaw, callO, arsOf, arOf, iosOf, distinct, backOut, rvO, pick, bltV, cmpV, eqii, eqbb, eqstr, binV, negV, ixt, ixl, at0, at1, at2, at3, at4, at5, ix20, ix21, lk0, lk1, lk2, lk3, lk4, lk5, lk6, putv, slotOf, finF, rvOf, outsOf, runF, slOf, setAt, tyIs, isNon, seqV, Nat.blt, mulOk2, b_is_survey_value, t4, w1, w2, c, c0, consts, hl, bools_map (fun _ => true)]
theorem want_survey_ok {k : Nat} {t : Str} {n : Int} {ls : List Lg} (ht : t = "survey") (h : okS n ls) : G (k + 7) i_want_survey [.pu (sv t n ls)] = some (.pu .none, []) := by
  rw [one (fn := ⟨1, 1, b_want_survey⟩) rfl]
  have t4 := is_survey_ok (k := k) ht h
  simp [evSs, evS, evE, evA, evP, evO, evD, evI, asgT, asgTs, rdp, rds, rdsAll, frzd, frzE, thaw, callO, arsOf, arOf, iosOf, distinct, backOut, rvO, pick, bltV, cmpV, eqii, eqbb, eqstr, binV, negV, ixt, ixl, at0, at1, at2, at3, at4, at5, ix20, ix21, lk0, lk1, lk2, lk3, lk4, lk5, lk6, putv, slotOf, finF, rvOf, outsOf, runF, slOf, setAt, tyIs, isNon, seqV, Nat.blt, mulOk2, b_want_survey, t4]
end K94

set_option Elab.async false
set_option linter.all false
set_option maxRecDepth 100000
set_option maxHeartbeats 4000000
namespace K94
open PySem Rf
def prD (e : Int × Int) : D := .tuple [.int e.1, .int e.2]
def okE (n : Int) (es : List (Int × Int)) : Prop := ∀ e ∈ es, 0 ≤ e.1 ∧ e.1 < n ∧ 0 ≤ e.2 ∧ e.2 < n
theorem at_map {α : Type} (f : α → D) {l : List α} {i : Int} (h0 : 0 ≤ i) (h1 : i < l.length) : ∃ x, l[i.toNat]? = some x ∧ L2.atI (l.map f) i = some (f x) := by
  have hl : i.toNat < l.length := by omega
  refine ⟨l[i.toNat], List.getElem?_eq_getElem hl, ?_⟩
  unfold L2.atI L2.ixN
  rw [if_pos h0, if_pos (by simpa using h1)]
  simp [hl]
/-- what stands between the turns -/
structure RInv (es : List (Int × Int)) (n s : Int) (lot f l : List Int) (here : Int → Prop) : Prop where
  nd : f.Nodup
  rg : ∀ x ∈ f, 0 ≤ x ∧ x < n
  rc : ∀ x ∈ f, Rch es (· ∈ lot) s x
  st : s ∈ f
  sb : ∀ x ∈ l, x ∈ f
  cl : ∀ x ∈ f, x ∉ l → ¬ here x → ∀ at_ y, at_ ∈ lot → Jn es at_ x y → y ∈ f
theorem RInv.len {es : List (Int × Int)} {n s : Int} {lot f l : List Int} {here : Int → Prop} (h : RInv es n s lot f l here) (hn : n ≤ 1000) : f.length ≤ 1000 := by
  have := nodup_le (n := n.toNat) h.nd fun x hx => by have := h.rg x hx; omega
  omega
theorem jn_rg {es : List (Int × Int)} {n a x y : Int} (he : okE n es) (h : Jn es a x y) : 0 ≤ y ∧ y < n := by
  obtain ⟨e, h0, h1, h2⟩ := h
  have := he e (List.mem_of_getElem? h1)
  omega
theorem blt_ok {n : Nat} (h : n ≤ 1000) : n ≤ 16777215 := by omega
section
variable {k : Nat} {n s : Int} {es : List (Int × Int)} {lot : List Int}
theorem reached_in (he : okE n es) (hn : n ≤ 1000) (hl : ∀ a ∈ lot, 0 ≤ a ∧ a < es.length) {here : Int} {f0 l0 : List Int} {a6 a7 : Sl} (hi : RInv es n s lot f0 l0 (· = here)) (hh : here ∈ f0) (hlen : l0.length ≤ f0.length) :
    ∃ f l b6 b7, evS (G k) C0 s__law_reached_2 [.val (.list (es.map prD)), .val (.int s), .val (.list (lot.map .int)), .own 0 (f0.map .int), .own 0 (l0.map .int), .val (.int here), a6, a7] =
      some (.nx [.val (.list (es.map prD)), .val (.int s), .val (.list (lot.map .int)), .own 0 (f.map .int), .own 0 (l.map .int), .val (.int here), b6, b7]) ∧ RInv es n s lot f l (fun _ => False) ∧ l.length + 2 * f0.length ≤ l0.length + 2 * f.length ∧ l.length ≤ f.length := by
  obtain ⟨fl, h1, f, l, b6, b7, rfl, h2, h3, h4⟩ := foE (F := G k) (C := C0) (t := .nm 6) (it := .it (.var 2)) (b := l__law_reached_1) (env := [.val (.list (es.map prD)), .val (.int s), .val (.list (lot.map .int)), .own 0 (f0.map .int), .own 0 (l0.map .int), .val (.int here), a6, a7])
    (e1 := [.val (.list (es.map prD)), .val (.int s), .val (.list (lot.map .int)), .own 0 (f0.map .int), .own 0 (l0.map .int), .val (.int here), a6, a7]) (ds := lot.map .int)
    (fun ds e => ∃ done rest f l b6 b7, ds = rest.map .int ∧ lot = done ++ rest ∧ e = [.val (.list (es.map prD)), .val (.int s), .val (.list (lot.map .int)), .own 0 (f.map .int), .own 0 (l.map .int), .val (.int here), b6, b7] ∧ RInv es n s lot f l (· = here) ∧ here ∈ f ∧ (∀ a ∈ done, ∀ y, Jn es a here y → y ∈ f) ∧ l.length + 2 * f0.length ≤ l0.length + 2 * f.length ∧ l.length ≤ f.length)
    (fun fl => ∃ f l b6 b7, fl = .nx [.val (.list (es.map prD)), .val (.int s), .val (.list (lot.map .int)), .own 0 (f.map .int), .own 0 (l.map .int), .val (.int here), b6, b7] ∧ RInv es n s lot f l (fun _ => False) ∧ l.length + 2 * f0.length ≤ l0.length + 2 * f.length ∧ l.length ≤ f.length)
    rfl (by simp [evSs, evS, evE, evA, evP, evO, evD, evI, asgT, asgTs, rdp, rds, rdsAll, frzd, frzE, thaw, callO, arsOf, arOf, iosOf, distinct, backOut, rvO, pick, bltV, cmpV, eqii, eqbb, eqstr, binV, negV, ixt, ixl, at0, at1, at2, at3, at4, at5, ix20, ix21, lk0, lk1, lk2, lk3, lk4, lk5, lk6, putv, slotOf, finF, rvOf, outsOf, runF, slOf, setAt, tyIs, isNon, seqV, Nat.blt, mulOk2]) ⟨[], lot, f0, l0, a6, a7, rfl, rfl, rfl, hi, hh, (by simp), by omega, hlen⟩
    (fun e ⟨done, rest, f, l, b6, b7, q1, q2, q3, q4, q5, q6, q7, q8⟩ => by
      have hr : rest = [] := by simpa using q1.symm
      subst hr
      rw [List.append_nil] at q2
      subst q2
      refine ⟨f, l, b6, b7, by rw [q3], ⟨q4.nd, q4.rg, q4.rc, q4.st, q4.sb, fun x hx hxl _ a y ha hj => ?_⟩, q7, q8⟩
      by_cases hxh : x = here
      · subst hxh; exact q6 a ha y hj
      · exact q4.cl x hx hxl hxh a y ha hj)
    (fun d ds e ⟨done, rest, f, l, b6, b7, q1, q2, q3, q4, q5, q6, q7, q8⟩ => by
      cases rest with
      | nil => simp at q1
      | cons a rest =>
        simp only [List.map_cons, List.cons.injEq] at q1
        obtain ⟨rfl, rfl⟩ := q1
        have ha : a ∈ lot := by rw [q2]; simp
        obtain ⟨ha0, ha1⟩ := hl a ha
        obtain ⟨e2, he2, hat⟩ := at_map prD ha0 ha1
        have hat' : L2.atI (List.map prD es) a = some (.tuple [.int e2.1, .int e2.2]) := hat
        have m1 := mem_t2 here e2.1 e2.2
        have blen := blt_ok (q4.len hn)
        have blen2 := blt_ok (Nat.le_trans q8 (q4.len hn))
        subst q3
        have step : ∀ f' l' b7', (∀ x ∈ f, x ∈ f') → (∀ y, Jn es a here y → y ∈ f') → RInv es n s lot f' l' (· = here) → l'.length + 2 * f0.length ≤ l0.length + 2 * f'.length → l'.length ≤ f'.length →
            ∃ done rest' f l b6 b7, rest.map PyData.int = rest'.map .int ∧ lot = done ++ rest' ∧ [Sl.val (.list (es.map prD)), .val (.int s), .val (.list (lot.map .int)), .own 0 (f'.map .int), .own 0 (l'.map .int), .val (.int here), .val (.int a), b7'] = [.val (.list (es.map prD)), .val (.int s), .val (.list (lot.map .int)), .own 0 (f.map .int), .own 0 (l.map .int), .val (.int here), b6, b7] ∧ RInv es n s lot f l (· = here) ∧ here ∈ f ∧ (∀ a ∈ done, ∀ y, Jn es a here y → y ∈ f) ∧ l.length + 2 * f0.length ≤ l0.length + 2 * f.length ∧ l.length ≤ f.length :=
          fun f' l' b7' s1 s2 s3 s4 s5 => ⟨done ++ [a], rest, f', l', _, _, rfl, by rw [q2]; simp, rfl, s3, s1 _ q5, fun b hb y hj => by
            rcases List.mem_append.mp hb with hb | hb
            · exact s1 _ (q6 b hb y hj)
            · simp at hb; subst hb; exact s2 y hj, s4, s5⟩
        by_cases c1 : here = e2.1 ∨ here = e2.2
        · have hj : Jn es a here (e2.1 + e2.2 - here) := ⟨e2, ha0, he2, by omega⟩
          have only : ∀ y, Jn es a here y → y = e2.1 + e2.2 - here := fun y ⟨e3, _, h3, h4⟩ => by
            rw [he2] at h3; cases h3; omega
          have m2 := mem_li (e2.1 + e2.2 - here) f
          have t0 : e2.1 + (e2.2 + 0) - here = e2.1 + e2.2 - here := by omega
          by_cases c2 : e2.1 + e2.2 - here ∈ f
          · refine ⟨_, .nx [.val (.list (es.map prD)), .val (.int s), .val (.list (lot.map .int)), .own 0 (f.map .int), .own 0 (l.map .int), .val (.int here), .val (.int a), .val (.int (e2.1 + e2.2 - here))], (by simp [evSs, evS, evE, evA, evP, evO, evD, evI, asgT, asgTs, rdp, rds, rdsAll, frzd, frzE, thaw, callO, arsOf, arOf, iosOf, distinct, backOut, rvO, pick, bltV, cmpV, eqii, eqbb, eqstr, binV, negV, ixt, ixl, at0, at1, at2, at3, at4, at5, ix20, ix21, lk0, lk1, lk2, lk3, lk4, lk5, lk6, putv, slotOf, finF, rvOf, outsOf, runF, slOf, setAt, tyIs, isNon, seqV, Nat.blt, mulOk2]; rfl), ?_, step f l _ (fun _ h => h) (fun y h => by rw [only y h]; exact c2) q4 q7 q8⟩
            simp [evSs, evS, evE, evA, evP, evO, evD, evI, asgT, asgTs, rdp, rds, rdsAll, frzd, frzE, thaw, callO, arsOf, arOf, iosOf, distinct, backOut, rvO, pick, bltV, cmpV, eqii, eqbb, eqstr, binV, negV, ixt, ixl, at0, at1, at2, at3, at4, at5, ix20, ix21, lk0, lk1, lk2, lk3, lk4, lk5, lk6, putv, slotOf, finF, rvOf, outsOf, runF, slOf, setAt, tyIs, isNon, seqV, Nat.blt, mulOk2, l__law_reached_1, hat', m1, c1, intsOf, m2, c2]
          · refine ⟨_, .nx [.val (.list (es.map prD)), .val (.int s), .val (.list (lot.map .int)), .own 0 ((f ++ [e2.1 + e2.2 - here]).map .int), .own 0 ((l ++ [e2.1 + e2.2 - here]).map .int), .val (.int here), .val (.int a), .val (.int (e2.1 + e2.2 - here))], (by simp [evSs, evS, evE, evA, evP, evO, evD, evI, asgT, asgTs, rdp, rds, rdsAll, frzd, frzE, thaw, callO, arsOf, arOf, iosOf, distinct, backOut, rvO, pick, bltV, cmpV, eqii, eqbb, eqstr, binV, negV, ixt, ixl, at0, at1, at2, at3, at4, at5, ix20, ix21, lk0, lk1, lk2, lk3, lk4, lk5, lk6, putv, slotOf, finF, rvOf, outsOf, runF, slOf, setAt, tyIs, isNon, seqV, Nat.blt, mulOk2]; rfl), ?_, step _ _ _ (fun _ h => List.mem_append_left _ h) (fun y h => by rw [only y h]; simp) ?_ ?_ ?_⟩
            · simp [evSs, evS, evE, evA, evP, evO, evD, evI, asgT, asgTs, rdp, rds, rdsAll, frzd, frzE, thaw, callO, arsOf, arOf, iosOf, distinct, backOut, rvO, pick, bltV, cmpV, eqii, eqbb, eqstr, binV, negV, ixt, ixl, at0, at1, at2, at3, at4, at5, ix20, ix21, lk0, lk1, lk2, lk3, lk4, lk5, lk6, putv, slotOf, finF, rvOf, outsOf, runF, slOf, setAt, tyIs, isNon, seqV, Nat.blt, mulOk2, l__law_reached_1, hat', m1, c1, intsOf, m2, c2, mthV, blen, blen2]
            · refine ⟨?_, fun x hx => ?_, fun x hx => ?_, List.mem_append_left _ q4.st, fun x hx => ?_, fun x hx hxl hxh b y hb hjb => ?_⟩
              · rw [List.nodup_append]
                exact ⟨q4.nd, by simp, by intro x hx y hy e; simp at hy; subst hy; subst e; exact c2 hx⟩
              · rcases List.mem_append.mp hx with h | h
                · exact q4.rg x h
                · simp at h; subst h; exact jn_rg he hj
              · rcases List.mem_append.mp hx with h | h
                · exact q4.rc x h
                · simp at h; subst h; exact .step (q4.rc _ q5) ha hj
              · rcases List.mem_append.mp hx with h | h
                · exact List.mem_append_left _ (q4.sb x h)
                · exact List.mem_append_right _ h
              · have hx' : x ∈ f := by
                  rcases List.mem_append.mp hx with h | h
                  · exact h
                  · exact absurd (List.mem_append_right _ h) hxl
                exact List.mem_append_left _ (q4.cl x hx' (fun z => hxl (List.mem_append_left _ z)) hxh b y hb hjb)
            · simp; omega
            · simp; omega
        · refine ⟨_, .nx [.val (.list (es.map prD)), .val (.int s), .val (.list (lot.map .int)), .own 0 (f.map .int), .own 0 (l.map .int), .val (.int here), .val (.int a), b7], (by simp [evSs, evS, evE, evA, evP, evO, evD, evI, asgT, asgTs, rdp, rds, rdsAll, frzd, frzE, thaw, callO, arsOf, arOf, iosOf, distinct, backOut, rvO, pick, bltV, cmpV, eqii, eqbb, eqstr, binV, negV, ixt, ixl, at0, at1, at2, at3, at4, at5, ix20, ix21, lk0, lk1, lk2, lk3, lk4, lk5, lk6, putv, slotOf, finF, rvOf, outsOf, runF, slOf, setAt, tyIs, isNon, seqV, Nat.blt, mulOk2]; rfl), ?_, step f l _ (fun _ h => h) (fun y ⟨e3, _, h3, h4⟩ => by rw [he2] at h3; cases h3; omega) q4 q7 q8⟩
          simp [evSs, evS, evE, evA, evP, evO, evD, evI, asgT, asgTs, rdp, rds, rdsAll, frzd, frzE, thaw, callO, arsOf, arOf, iosOf, distinct, backOut, rvO, pick, bltV, cmpV, eqii, eqbb, eqstr, binV, negV, ixt, ixl, at0, at1, at2, at3, at4, at5, ix20, ix21, lk0, lk1, lk2, lk3, lk4, lk5, lk6, putv, slotOf, finF, rvOf, outsOf, runF, slOf, setAt, tyIs, isNon, seqV, Nat.blt, mulOk2, l__law_reached_1, hat', m1, c1])
  exact ⟨f, l, b6, b7, h1, h2, h3, h4⟩
theorem reached_ok (he : okE n es) (hn : n ≤ 1000) (hl : ∀ a ∈ lot, 0 ≤ a ∧ a < es.length) (s0 : 0 ≤ s) (s1 : s < n) :
    ∃ ms : List Int, G (k + 1) i__law_reached [.pu (.list (es.map prD)), .pu (.int s), .pu (.list (lot.map .int))] = some (.fr (ms.map .int), []) ∧ (∀ t, t ∈ ms ↔ Rch es (· ∈ lot) s t) ∧ (∀ t ∈ ms, 0 ≤ t ∧ t < n) ∧ ms.length ≤ n.toNat := by
  obtain ⟨fl, h1, f, b5, b6, b7, rfl, h2⟩ := whE (F := G k) (C := C0) (c := .cmp .ne (.var 4) (.lst (.nil))) (b := l__law_reached_3) (env := [.val (.list (es.map prD)), .val (.int s), .val (.list (lot.map .int)), .own 0 [.int s], .own 0 [.int s], .emp, .emp, .emp])
    (fun m e => ∃ f l b5 b6 b7, e = [.val (.list (es.map prD)), .val (.int s), .val (.list (lot.map .int)), .own 0 (f.map .int), .own 0 (l.map .int), b5, b6, b7] ∧ RInv es n s lot f l (fun _ => False) ∧ l.length ≤ f.length ∧ l.length + 2 * 1000 ≤ m + 2 * f.length)
    (fun fl => ∃ f b5 b6 b7, fl = .nx [.val (.list (es.map prD)), .val (.int s), .val (.list (lot.map .int)), .own 0 (f.map .int), .own 0 [], b5, b6, b7] ∧ RInv es n s lot f [] (fun _ => False))
    2000 (by decide) ⟨[s], [s], _, _, _, rfl, ⟨by simp, by simp; omega, by simp; exact .refl, by simp, by simp, by simp⟩, by simp, by simp⟩
    (fun m e ⟨f, l, b5, b6, b7, q1, q2, q3, q4⟩ => by
      subst q1
      refine ⟨!decide (l = []), _, by simp [evSs, evS, evE, evA, evP, evO, evD, evI, asgT, asgTs, rdp, rds, rdsAll, frzd, frzE, thaw, callO, arsOf, arOf, iosOf, distinct, backOut, rvO, pick, bltV, cmpV, eqii, eqbb, eqstr, binV, negV, ixt, ixl, at0, at1, at2, at3, at4, at5, ix20, ix21, lk0, lk1, lk2, lk3, lk4, lk5, lk6, putv, slotOf, finF, rvOf, outsOf, runF, slOf, setAt, tyIs, isNon, seqV, Nat.blt, mulOk2, eq_nilI]; rfl, fun hk => ?_, fun hk => ?_⟩
      · have : l = [] := by simpa using hk
        subst this
        exact ⟨f, b5, b6, b7, rfl, q2⟩
      · have ne : l ≠ [] := by simpa using hk
        obtain ⟨l', here, rfl⟩ : ∃ l' x, l = l' ++ [x] := ⟨l.dropLast, l.getLast ne, (List.dropLast_concat_getLast ne).symm⟩
        have hh : here ∈ f := q2.sb here (by simp)
        obtain ⟨f', l2, c6, c7, r1, r2, r3, r4⟩ := reached_in (k := k) (a6 := b6) (a7 := b7) he hn hl (f0 := f) (l0 := l') (here := here) ⟨q2.nd, q2.rg, q2.rc, q2.st, fun x hx => q2.sb x (List.mem_append_left _ hx), fun x hx hxl hxh => q2.cl x hx (fun z => by
          rcases List.mem_append.mp z with z | z
          · exact hxl z
          · simp at z; exact hxh z) id⟩ hh (by simp at q3; omega)
        refine ⟨.nx _, ?_, m - 1, ?_, f', l2, .val (.int here), c6, c7, rfl, r2, r4, ?_⟩
        · simp [evSs, evS, evE, evA, evP, evO, evD, evI, asgT, asgTs, rdp, rds, rdsAll, frzd, frzE, thaw, callO, arsOf, arOf, iosOf, distinct, backOut, rvO, pick, bltV, cmpV, eqii, eqbb, eqstr, binV, negV, ixt, ixl, at0, at1, at2, at3, at4, at5, ix20, ix21, lk0, lk1, lk2, lk3, lk4, lk5, lk6, putv, slotOf, finF, rvOf, outsOf, runF, slOf, setAt, tyIs, isNon, seqV, Nat.blt, mulOk2, l__law_reached_3, mthV, r1]
        · have := q2.len hn; simp at q4; omega
        · simp at q4; have := q2.len hn; omega)
  have hw : evS (G k) C0 s__law_reached_4 [.val (.list (es.map prD)), .val (.int s), .val (.list (lot.map .int)), .own 0 [.int s], .own 0 [.int s], .emp, .emp, .emp] = some (.nx [.val (.list (es.map prD)), .val (.int s), .val (.list (lot.map .int)), .own 0 (f.map .int), .own 0 [], b5, b6, b7]) := h1
  obtain ⟨ms, m1, m2, m3⟩ := sort_i f
  refine ⟨ms, ?_, fun t => ?_, fun t ht => h2.rg t ((m2 t).mp ht), by rw [m3]; exact nodup_le h2.nd fun x hx => by have := h2.rg x hx; omega⟩
  · rw [one (fn := ⟨3, 8, b__law_reached⟩) rfl]
    simp [evSs, evS, evE, evA, evP, evO, evD, evI, asgT, asgTs, rdp, rds, rdsAll, frzd, frzE, thaw, callO, arsOf, arOf, iosOf, distinct, backOut, rvO, pick, bltV, cmpV, eqii, eqbb, eqstr, binV, negV, ixt, ixl, at0, at1, at2, at3, at4, at5, ix20, ix21, lk0, lk1, lk2, lk3, lk4, lk5, lk6, putv, slotOf, finF, rvOf, outsOf, runF, slOf, setAt, tyIs, isNon, seqV, Nat.blt, mulOk2, b__law_reached , hw, m1]
  · rw [m2]
    exact ⟨h2.rc t, fun h => h.closed h2.st fun x hx a y ha hj => h2.cl x hx (by simp) id a y ha hj⟩
end
end K94

set_option Elab.async false
set_option linter.all false
set_option maxRecDepth 100000
set_option maxHeartbeats 4000000
namespace K94
open PySem Rf
/-! ### dicts with ints for keys, lists for values -/
def dk (ks : List (Int × List D)) : List (D × D) := ks.map fun p => (.int p.1, .list p.2)
theorem keq_ii (i j : Int) : keq (.int i) (.int j) = decide (i = j) := rfl
theorem kget_dk (t : Int) : ∀ ks : List (Int × List D), (kget (dk ks) (.int t) = none ∧ t ∉ ks.map (·.1)) ∨ ∃ v, kget (dk ks) (.int t) = some (.list v) ∧ (t, v) ∈ ks
  | [] => .inl ⟨rfl, by simp⟩
  | p :: ks => by
    have ih := kget_dk t ks
    have e : kget (dk (p :: ks)) (.int t) = if p.1 = t then some (.list p.2) else kget (dk ks) (.int t) := by
      simp only [dk, List.map_cons, kget, keq_ii, decide_eq_true_eq]
    rw [e]
    by_cases h : p.1 = t
    · rw [if_pos h]
      exact .inr ⟨p.2, rfl, by rw [← h]; exact List.mem_cons_self⟩
    · rw [if_neg h]
      rcases ih with ⟨i1, i2⟩ | ⟨v, i1, i2⟩
      · exact .inl ⟨i1, by simp only [List.map_cons, List.mem_cons, not_or]; exact ⟨fun z => h z.symm, i2⟩⟩
      · exact .inr ⟨v, i1, List.mem_cons_of_mem _ i2⟩
theorem khas_dk (t : Int) (ks : List (Int × List D)) : khas (dk ks) (.int t) = decide (t ∈ ks.map (·.1)) := by
  unfold khas
  rcases kget_dk t ks with ⟨h1, h2⟩ | ⟨v, h1, h2⟩
  · rw [h1, decide_eq_false h2]; rfl
  · rw [h1, decide_eq_true (List.mem_map.mpr ⟨_, h2, rfl⟩)]; rfl
theorem kput_dk {t : Int} {ks : List (Int × List D)} (v : List D) (h : t ∉ ks.map (·.1)) : kput (dk ks) (.int t) (.list v) = dk (ks ++ [(t, v)]) := by
  unfold kput
  rw [khas_dk, decide_eq_false h]
  simp [dk]
theorem isKey_i (i : Int) : isKey (.int i) = true := rfl
theorem enu_map {α : Type} (f : α → D) : ∀ (l : List α) (k : Nat), enuL k (l.map f) = (l.zipIdx k).map fun p => .tuple [.int p.2, f p.1]
  | [], _ => rfl
  | a :: l, k => by simp only [List.map_cons, enuL, List.zipIdx_cons, enu_map f l (k + 1)]
/-! ### the survey's own -/
def en (l : Lg) : Int × Int := (l.2.1, l.2.2)
theorem okS.es {n : Int} {ls : List Lg} (h : okS n ls) : okE n (ls.map en) := by
  intro e he
  obtain ⟨l, hl, rfl⟩ := List.mem_map.mp he
  obtain ⟨_, _, h3, h4, h5, h6, _⟩ := h.lg l hl
  exact ⟨h3, h4, h5, h6⟩
def hasE (st : Int) (l : Lg) : Bool := decide (st = l.2.1 ∨ st = l.2.2)
section
variable {k : Nat} {t : Str} {n s : Int} {ls : List Lg} {lot : List Int}
theorem all_legs_ok (h : okS n ls) : G (k + 1) i_all_legs [.pu (sv t n ls)] = some (.pu (.tuple ((iot ls.length).map .int)), []) := by
  rw [one (fn := ⟨1, 1, b_all_legs⟩) rfl]
  have hl := h.ln
  have r := rng_iot (n := (ls.length : Int)) (by omega) (by omega)
  rw [Int.toNat_natCast] at r
  have t4 := trgE (F := G k) (C := C0) (lo := .cst (.int 0)) (hi := .blt .len (.cons (.idx (.var 0) (.cst (.int 3))) (.nil))) (env := [.val (sv t n ls)]) (e1 := [.val (sv t n ls)]) (e2 := [.val (sv t n ls)]) (a := .int 0) (b := .int ls.length) (by simp [evSs, evS, evE, evA, evP, evO, evD, evI, asgT, asgTs, rdp, rds, rdsAll, frzd, frzE, thaw, callO, arsOf, arOf, iosOf, distinct, backOut, rvO, pick, bltV, cmpV, eqii, eqbb, eqstr, binV, negV, ixt, ixl, at0, at1, at2, at3, at4, at5, ix20, ix21, lk0, lk1, lk2, lk3, lk4, lk5, lk6, putv, slotOf, finF, rvOf, outsOf, runF, slOf, setAt, tyIs, isNon, seqV, Nat.blt, mulOk2]) (by simp [evSs, evS, evE, evA, evP, evO, evD, evI, asgT, asgTs, rdp, rds, rdsAll, frzd, frzE, thaw, callO, arsOf, arOf, iosOf, distinct, backOut, rvO, pick, bltV, cmpV, eqii, eqbb, eqstr, binV, negV, ixt, ixl, at0, at1, at2, at3, at4, at5, ix20, ix21, lk0, lk1, lk2, lk3, lk4, lk5, lk6, putv, slotOf, finF, rvOf, outsOf, runF, slOf, setAt, tyIs, isNon, seqV, Nat.blt, mulOk2, sv3]) r (lenOk_of (by rw [List.length_map, iot_len]; omega))
  have e : evSs (G k) C0 b_all_legs [.val (sv t n ls)] = some (.rt (.pu (.tuple ((iot ls.length).map .int))) [.val (sv t n ls)]) := by
    unfold b_all_legs
    rw [evSs, evS, t4]
  exact runE rfl rfl e (by simp [evSs, evS, evE, evA, evP, evO, evD, evI, asgT, asgTs, rdp, rds, rdsAll, frzd, frzE, thaw, callO, arsOf, arOf, iosOf, distinct, backOut, rvO, pick, bltV, cmpV, eqii, eqbb, eqstr, binV, negV, ixt, ixl, at0, at1, at2, at3, at4, at5, ix20, ix21, lk0, lk1, lk2, lk3, lk4, lk5, lk6, putv, slotOf, finF, rvOf, outsOf, runF, slOf, setAt, tyIs, isNon, seqV, Nat.blt, mulOk2])
theorem far_end_ok {l : Lg} {st : Int} : G (k + 1) i_far_end [.pu (lgD l), .pu (.int st)] = some (.pu (.int (if l.2.1 = st then l.2.2 else l.2.1)), []) := by
  rw [one (fn := ⟨2, 2, b_far_end⟩) rfl]
  by_cases h : l.2.1 = st <;> simp [evSs, evS, evE, evA, evP, evO, evD, evI, asgT, asgTs, rdp, rds, rdsAll, frzd, frzE, thaw, callO, arsOf, arOf, iosOf, distinct, backOut, rvO, pick, bltV, cmpV, eqii, eqbb, eqstr, binV, negV, ixt, ixl, at0, at1, at2, at3, at4, at5, ix20, ix21, lk0, lk1, lk2, lk3, lk4, lk5, lk6, putv, slotOf, finF, rvOf, outsOf, runF, slOf, setAt, tyIs, isNon, seqV, Nat.blt, mulOk2, b_far_end, lgD, h]
theorem sense_ok {st leg : Int} (h0 : 0 ≤ leg) (h1 : leg < ls.length) : ∃ i : Int, G (k + 1) i_sense_from [.pu (sv t n ls), .pu (.int leg), .pu (.int st)] = some (.pu (.int i), []) := by
  obtain ⟨l, _, hat⟩ := at_map lgD h0 h1
  have hat' : L2.atI (ls.map lgD) leg = some (.tuple [.int l.1, .int l.2.1, .int l.2.2, .tuple [.tuple [.int 0, .int 1]], .tuple [.tuple [.int 0, .int 1]], .tuple [.int 1, .int 1]]) := hat
  rw [one (fn := ⟨3, 3, b_sense_from⟩) rfl]
  by_cases h : l.2.1 = st
  · exact ⟨1, by simp [evSs, evS, evE, evA, evP, evO, evD, evI, asgT, asgTs, rdp, rds, rdsAll, frzd, frzE, thaw, callO, arsOf, arOf, iosOf, distinct, backOut, rvO, pick, bltV, cmpV, eqii, eqbb, eqstr, binV, negV, ixt, ixl, at0, at1, at2, at3, at4, at5, ix20, ix21, lk0, lk1, lk2, lk3, lk4, lk5, lk6, putv, slotOf, finF, rvOf, outsOf, runF, slOf, setAt, tyIs, isNon, seqV, Nat.blt, mulOk2, b_sense_from, sv3, hat', h]⟩
  · exact ⟨-1, by simp [evSs, evS, evE, evA, evP, evO, evD, evI, asgT, asgTs, rdp, rds, rdsAll, frzd, frzE, thaw, callO, arsOf, arOf, iosOf, distinct, backOut, rvO, pick, bltV, cmpV, eqii, eqbb, eqstr, binV, negV, ixt, ixl, at0, at1, at2, at3, at4, at5, ix20, ix21, lk0, lk1, lk2, lk3, lk4, lk5, lk6, putv, slotOf, finF, rvOf, outsOf, runF, slOf, setAt, tyIs, isNon, seqV, Nat.blt, mulOk2, b_sense_from, sv3, hat', h]⟩
def legsAt (st : Int) (ls : List Lg) : List Int := (ls.zipIdx.filter fun p => hasE st p.1).map fun p => (p.2 : Int)
theorem mem_legsAt {st a : Int} : a ∈ legsAt st ls ↔ ∃ l, 0 ≤ a ∧ ls[a.toNat]? = some l ∧ hasE st l = true := by
  unfold legsAt
  simp only [List.mem_map, List.mem_filter]
  constructor
  · rintro ⟨p, ⟨h1, h2⟩, rfl⟩
    exact ⟨p.1, by omega, by simpa using List.mem_zipIdx_iff_getElem?.mp h1, h2⟩
  · rintro ⟨l, h0, h1, h2⟩
    exact ⟨(l, a.toNat), ⟨List.mem_zipIdx_iff_getElem?.mpr h1, h2⟩, by simp; omega⟩
theorem legs_at_ok {st : Int} (h : okS n ls) : G (k + 1) i_legs_at [.pu (sv t n ls), .pu (.int st)] = some (.fr ((legsAt st ls).map .int), []) := by
  rw [one (fn := ⟨2, 4, b_legs_at⟩) rfl]
  have c : evE (G k) C0 e_legs_at_1 [.val (sv t n ls), .val (.int st), .emp, .emp] = some (.fr ((legsAt st ls).map .int), [.val (sv t n ls), .val (.int st), .emp, .emp]) := by
    refine (lcE (e1 := [.val (sv t n ls), .val (.int st), .emp, .emp]) (ds := ls.zipIdx.map fun p => .tuple [.int p.2, lgD p.1]) (fun d => match d with | .tuple [.int i, .tuple [_, .int a, .int b, _, _, _]] => if decide (st = a ∨ st = b) then some (.int i) else none | _ => none) ?_ ?_ ?_).trans ?_
    · simp [evSs, evS, evE, evA, evP, evO, evD, evI, asgT, asgTs, rdp, rds, rdsAll, frzd, frzE, thaw, callO, arsOf, arOf, iosOf, distinct, backOut, rvO, pick, bltV, cmpV, eqii, eqbb, eqstr, binV, negV, ixt, ixl, at0, at1, at2, at3, at4, at5, ix20, ix21, lk0, lk1, lk2, lk3, lk4, lk5, lk6, putv, slotOf, finF, rvOf, outsOf, runF, slOf, setAt, tyIs, isNon, seqV, Nat.blt, mulOk2, sv3, enu_map]
    · have := h.ln; simp; omega
    · intro d hd
      obtain ⟨p, hp, rfl⟩ := List.mem_map.mp hd
      have m := mem_t2 st p.1.2.1 p.1.2.2
      refine ⟨[.val (sv t n ls), .val (.int st), .val (.int p.2), .val (lgD p.1)], hasE st p.1, [.val (sv t n ls), .val (.int st), .val (.int p.2), .val (lgD p.1)], ?_, ?_, fun hb => ⟨by simp [wipeE], ?_⟩, fun hb => ⟨.int p.2, [.val (sv t n ls), .val (.int st), .val (.int p.2), .val (lgD p.1)], ?_, by simp [wipeE], ?_⟩⟩
      · simp [evSs, evS, evE, evA, evP, evO, evD, evI, asgT, asgTs, rdp, rds, rdsAll, frzd, frzE, thaw, callO, arsOf, arOf, iosOf, distinct, backOut, rvO, pick, bltV, cmpV, eqii, eqbb, eqstr, binV, negV, ixt, ixl, at0, at1, at2, at3, at4, at5, ix20, ix21, lk0, lk1, lk2, lk3, lk4, lk5, lk6, putv, slotOf, finF, rvOf, outsOf, runF, slOf, setAt, tyIs, isNon, seqV, Nat.blt, mulOk2, wipeE]
      · simp [evSs, evS, evE, evA, evP, evO, evD, evI, asgT, asgTs, rdp, rds, rdsAll, frzd, frzE, thaw, callO, arsOf, arOf, iosOf, distinct, backOut, rvO, pick, bltV, cmpV, eqii, eqbb, eqstr, binV, negV, ixt, ixl, at0, at1, at2, at3, at4, at5, ix20, ix21, lk0, lk1, lk2, lk3, lk4, lk5, lk6, putv, slotOf, finF, rvOf, outsOf, runF, slOf, setAt, tyIs, isNon, seqV, Nat.blt, mulOk2, lgD, slcV, cutL, HT.sIx, m, hasE]
      · have hb' : ¬ (st = p.1.2.1 ∨ st = p.1.2.2) := by simpa [hasE] using hb
        simp [lgD, hb']
      · simp [evSs, evS, evE, evA, evP, evO, evD, evI, asgT, asgTs, rdp, rds, rdsAll, frzd, frzE, thaw, callO, arsOf, arOf, iosOf, distinct, backOut, rvO, pick, bltV, cmpV, eqii, eqbb, eqstr, binV, negV, ixt, ixl, at0, at1, at2, at3, at4, at5, ix20, ix21, lk0, lk1, lk2, lk3, lk4, lk5, lk6, putv, slotOf, finF, rvOf, outsOf, runF, slOf, setAt, tyIs, isNon, seqV, Nat.blt, mulOk2]
      · have hb' : st = p.1.2.1 ∨ st = p.1.2.2 := by simpa [hasE] using hb
        simp [lgD, hb']
    · rw [fmap_filter (fun p : Lg × Nat => (.tuple [.int p.2, lgD p.1] : D)) _ (fun p => hasE st p.1) (fun p => .int p.2) _ (fun p _ => rfl)]
      simp [backE, wipeE, valOnly, legsAt]
  simp [evSs, evS, evE, evA, evP, evO, evD, evI, asgT, asgTs, rdp, rds, rdsAll, frzd, frzE, thaw, callO, arsOf, arOf, iosOf, distinct, backOut, rvO, pick, bltV, cmpV, eqii, eqbb, eqstr, binV, negV, ixt, ixl, at0, at1, at2, at3, at4, at5, ix20, ix21, lk0, lk1, lk2, lk3, lk4, lk5, lk6, putv, slotOf, finF, rvOf, outsOf, runF, slOf, setAt, tyIs, isNon, seqV, Nat.blt, mulOk2, b_legs_at, c]
/-! ### ways -/
theorem dix_ok {ks : List (Int × List D)} {h : Int} (hh : h ∈ ks.map (·.1)) : ∃ v, kget (dk ks) (.int h) = some (.list v) ∧ (h, v) ∈ ks := by
  rcases kget_dk h ks with ⟨_, h2⟩ | h2
  · exact absurd hh h2
  · exact h2
structure KInv (ks : List (Int × List D)) : Prop where
  len : ∀ p ∈ ks, p.2.length ≤ ks.length
theorem jn_hasE {here a y : Int} {l : Lg} (h0 : 0 ≤ a) (hl : ls[a.toNat]? = some l) (hj : Jn (ls.map en) a here y) : hasE here l = true ∧ y = (if l.2.1 = here then l.2.2 else l.2.1) := by
  obtain ⟨e, _, h1, h2⟩ := hj
  rw [List.getElem?_map, hl] at h1
  cases h1
  simp only [en] at h2
  unfold hasE
  rcases h2 with ⟨a1, a2⟩ | ⟨a1, a2⟩
  · simp [a1, a2]
  · subst a1; subst a2
    simp
theorem hasE_jn {here a : Int} {l : Lg} (h0 : 0 ≤ a) (hl : ls[a.toNat]? = some l) (hs : hasE here l = true) : Jn (ls.map en) a here (if l.2.1 = here then l.2.2 else l.2.1) := by
  refine ⟨en l, h0, by rw [List.getElem?_map, hl]; rfl, ?_⟩
  unfold hasE at hs
  have := of_decide_eq_true hs
  simp only [en]
  split
  · rename_i q; exact .inl ⟨q, rfl⟩
  · rename_i q
    rcases this with z | z
    · exact absurd z.symm q
    · exact .inr ⟨z.symm, rfl⟩
noncomputable def wEnv (t : Str) (n : Int) (ls : List Lg) (s : Int) (lot : List Int) (ks : List (Int × List D)) (last late here a7 a8 : Sl) : Ev := [.val (sv t n ls), .val (.int s), .val (.tuple (lot.map .int)), .dic (dk ks), last, late, here, a7, a8]
theorem ways_leg (h : okS n ls) (hl : ∀ a ∈ lot, 0 ≤ a ∧ a < ls.length) {here : Int} {ks0 : List (Int × List D)} {l0 rest : List Int} {s4 a7 a8 : Sl} (hi : RInv (ls.map en) n s lot (ks0.map (·.1)) l0 (fun x => x = here ∨ x ∈ rest)) (hh : here ∈ ks0.map (·.1)) (hK : KInv ks0) (hlen : l0.length ≤ ks0.length) :
    ∃ ks l b7 b8, evS (G (k + 1)) C0 s_ways_by_2 (wEnv t n ls s lot ks0 s4 (.own 0 (l0.map .int)) (.val (.int here)) a7 a8) = some (.nx (wEnv t n ls s lot ks s4 (.own 0 (l.map .int)) (.val (.int here)) b7 b8)) ∧
      RInv (ls.map en) n s lot (ks.map (·.1)) l (fun x => x ∈ rest) ∧ (∀ x ∈ ks0.map (·.1), x ∈ ks.map (·.1)) ∧ KInv ks ∧ l.length ≤ ks.length ∧ ks.length + l0.length = ks0.length + l.length := by
  have hes := h.es
  have hn : n ≤ 1000 := by have := h.n2; omega
  obtain ⟨fl, h1, ks, l, b7, b8, rfl, h2⟩ := foE (F := G (k + 1)) (C := C0) (t := .nm 7) (it := .it (.call 30 (.cons (.var 0) (.cons (.var 6) (.nil))))) (b := l_ways_by_1) (env := wEnv t n ls s lot ks0 s4 (.own 0 (l0.map .int)) (.val (.int here)) a7 a8)
    (e1 := wEnv t n ls s lot ks0 s4 (.own 0 (l0.map .int)) (.val (.int here)) a7 a8) (ds := (legsAt here ls).map .int)
    (fun ds e => ∃ done rst ks l b7 b8, ds = rst.map .int ∧ legsAt here ls = done ++ rst ∧ e = wEnv t n ls s lot ks s4 (.own 0 (l.map .int)) (.val (.int here)) b7 b8 ∧ RInv (ls.map en) n s lot (ks.map (·.1)) l (fun x => x = here ∨ x ∈ rest) ∧ here ∈ ks.map (·.1) ∧
      (∀ a ∈ done, a ∈ lot → ∀ y, Jn (ls.map en) a here y → y ∈ ks.map (·.1)) ∧ (∀ x ∈ ks0.map (·.1), x ∈ ks.map (·.1)) ∧ KInv ks ∧ l.length ≤ ks.length ∧ ks.length + l0.length = ks0.length + l.length)
    (fun fl => ∃ ks l b7 b8, fl = .nx (wEnv t n ls s lot ks s4 (.own 0 (l.map .int)) (.val (.int here)) b7 b8) ∧
      RInv (ls.map en) n s lot (ks.map (·.1)) l (fun x => x ∈ rest) ∧ (∀ x ∈ ks0.map (·.1), x ∈ ks.map (·.1)) ∧ KInv ks ∧ l.length ≤ ks.length ∧ ks.length + l0.length = ks0.length + l.length)
    rfl (by
      have la := legs_at_ok (t := t) (k := k) (st := here) h
      simp [evSs, evS, evE, evA, evP, evO, evD, evI, asgT, asgTs, rdp, rds, rdsAll, frzd, frzE, thaw, callO, arsOf, arOf, iosOf, distinct, backOut, rvO, pick, bltV, cmpV, eqii, eqbb, eqstr, binV, negV, ixt, ixl, at0, at1, at2, at3, at4, at5, ix20, ix21, lk0, lk1, lk2, lk3, lk4, lk5, lk6, putv, slotOf, finF, rvOf, outsOf, runF, slOf, setAt, tyIs, isNon, seqV, Nat.blt, mulOk2, wEnv, la]) ⟨[], _, ks0, l0, a7, a8, rfl, rfl, rfl, hi, hh, (by simp), (fun _ z => z), hK, hlen, rfl⟩
    (fun e ⟨done, rst, ks, l, b7, b8, q1, q2, q3, q4, q5, q6, q7, q8, q9, q10⟩ => by
      have hr : rst = [] := by simpa using q1.symm
      subst hr
      rw [List.append_nil] at q2
      refine ⟨ks, l, b7, b8, by rw [q3], ⟨q4.nd, q4.rg, q4.rc, q4.st, q4.sb, fun x hx hxl hxr a y ha hj => ?_⟩, q7, q8, q9, q10⟩
      by_cases hxh : x = here
      · subst hxh
        refine q6 a ?_ ha y hj
        rw [← q2, mem_legsAt]
        obtain ⟨h0, h1⟩ := hl a ha
        obtain ⟨ll, hll, _⟩ := at_map lgD h0 h1
        exact ⟨ll, h0, hll, (jn_hasE h0 hll hj).1⟩
      · exact q4.cl x hx hxl (fun z => z.elim hxh hxr) a y ha hj)
    (fun d ds e ⟨done, rst, ks, l, b7, b8, q1, q2, q3, q4, q5, q6, q7, q8, q9, q10⟩ => by
      cases rst with
      | nil => simp at q1
      | cons a rst =>
        simp only [List.map_cons, List.cons.injEq] at q1
        obtain ⟨rfl, rfl⟩ := q1
        have ha : a ∈ legsAt here ls := by rw [q2]; simp
        obtain ⟨ll, ha0, hll, hE⟩ := mem_legsAt.mp ha
        have ha1 : a < ls.length := by
          have := (List.getElem?_eq_some_iff.mp hll).1
          omega
        obtain ⟨ll', hll', hat⟩ := at_map lgD ha0 ha1
        rw [hll] at hll'; cases hll'
        have fe := far_end_ok (k := k) (l := ll) (st := here)
        have hj := hasE_jn ha0 hll hE
        generalize hth : (if ll.2.1 = here then ll.2.2 else ll.2.1) = there at fe hj
        have only : ∀ y, Jn (ls.map en) a here y → y = there := fun y hy => by rw [(jn_hasE ha0 hll hy).2, hth]
        have m1 := mem_ti a lot
        have m2 := khas_dk there ks
        obtain ⟨sg, hsg⟩ := sense_ok (k := k) (t := t) (n := n) (st := here) ha0 ha1
        obtain ⟨v, hv, hvm⟩ := dix_ok q5
        have hkl : ks.length ≤ 1000 := by have := q4.len hn; simpa using this
        have hvl := q8.len _ hvm
        have z1 : lenOk (v.length + 1) = true := lenOk_of (by simp at hvl; omega)
        have z2 : (dk ks).length ≤ 16777215 := by simp [dk]; omega
        have z3 : l.length ≤ 16777215 := by omega
        subst q3
        have step : ∀ ks' l' b7' b8', (∀ x ∈ ks.map (·.1), x ∈ ks'.map (·.1)) → (a ∈ lot → ∀ y, Jn (ls.map en) a here y → y ∈ ks'.map (·.1)) → RInv (ls.map en) n s lot (ks'.map (·.1)) l' (fun x => x = here ∨ x ∈ rest) → KInv ks' → l'.length ≤ ks'.length → ks'.length + l0.length = ks0.length + l'.length →
            ∃ done rst' ks l b7 b8, rst.map PyData.int = rst'.map .int ∧ legsAt here ls = done ++ rst' ∧ wEnv t n ls s lot ks' s4 (.own 0 (l'.map .int)) (.val (.int here)) b7' b8' = wEnv t n ls s lot ks s4 (.own 0 (l.map .int)) (.val (.int here)) b7 b8 ∧ RInv (ls.map en) n s lot (ks.map (·.1)) l (fun x => x = here ∨ x ∈ rest) ∧ here ∈ ks.map (·.1) ∧
              (∀ a ∈ done, a ∈ lot → ∀ y, Jn (ls.map en) a here y → y ∈ ks.map (·.1)) ∧ (∀ x ∈ ks0.map (·.1), x ∈ ks.map (·.1)) ∧ KInv ks ∧ l.length ≤ ks.length ∧ ks.length + l0.length = ks0.length + l.length :=
          fun ks' l' b7' b8' s1 s2 s3 s4 s5 s6 => ⟨done ++ [a], rst, ks', l', _, _, rfl, by rw [q2]; simp, rfl, s3, s1 _ q5, fun b hb hbl y hj' => by
            rcases List.mem_append.mp hb with hb | hb
            · exact s1 _ (q6 b hb hbl y hj')
            · simp at hb; subst hb; exact s2 hbl y hj', fun x hx => s1 _ (q7 x hx), s4, s5, s6⟩
        by_cases c1 : a ∈ lot
        · by_cases c2 : there ∈ ks.map (·.1)
          · rw [decide_eq_true c2] at m2
            refine ⟨_, .nx (wEnv t n ls s lot ks s4 (.own 0 (l.map .int)) (.val (.int here)) (.val (.int a)) (.val (.int there))), (by simp [evSs, evS, evE, evA, evP, evO, evD, evI, asgT, asgTs, rdp, rds, rdsAll, frzd, frzE, thaw, callO, arsOf, arOf, iosOf, distinct, backOut, rvO, pick, bltV, cmpV, eqii, eqbb, eqstr, binV, negV, ixt, ixl, at0, at1, at2, at3, at4, at5, ix20, ix21, lk0, lk1, lk2, lk3, lk4, lk5, lk6, putv, slotOf, finF, rvOf, outsOf, runF, slOf, setAt, tyIs, isNon, seqV, Nat.blt, mulOk2, wEnv]; rfl), ?_, step ks l _ _ (fun _ h => h) (fun _ y h => by rw [only y h]; exact c2) q4 q8 q9 q10⟩
            simp [evSs, evS, evE, evA, evP, evO, evD, evI, asgT, asgTs, rdp, rds, rdsAll, frzd, frzE, thaw, callO, arsOf, arOf, iosOf, distinct, backOut, rvO, pick, bltV, cmpV, eqii, eqbb, eqstr, binV, negV, ixt, ixl, at0, at1, at2, at3, at4, at5, ix20, ix21, lk0, lk1, lk2, lk3, lk4, lk5, lk6, putv, slotOf, finF, rvOf, outsOf, runF, slOf, setAt, tyIs, isNon, seqV, Nat.blt, mulOk2, l_ways_by_1, wEnv, sv3, hat, fe, m1, c1, isKey_i, m2]
          · rw [decide_eq_false c2] at m2
            have kp := kput_dk (v ++ [.tuple [.int a, .int sg]]) c2
            refine ⟨_, .nx (wEnv t n ls s lot (ks ++ [(there, v ++ [.tuple [.int a, .int sg]])]) s4 (.own 0 ((l ++ [there]).map .int)) (.val (.int here)) (.val (.int a)) (.val (.int there))), (by simp [evSs, evS, evE, evA, evP, evO, evD, evI, asgT, asgTs, rdp, rds, rdsAll, frzd, frzE, thaw, callO, arsOf, arOf, iosOf, distinct, backOut, rvO, pick, bltV, cmpV, eqii, eqbb, eqstr, binV, negV, ixt, ixl, at0, at1, at2, at3, at4, at5, ix20, ix21, lk0, lk1, lk2, lk3, lk4, lk5, lk6, putv, slotOf, finF, rvOf, outsOf, runF, slOf, setAt, tyIs, isNon, seqV, Nat.blt, mulOk2, wEnv]; rfl), ?_, step _ _ _ _ (fun x h => by simp only [List.map_append, List.mem_append]; exact .inl h) (fun _ y h => by rw [only y h]; simp) ?_ ⟨fun p hp => ?_⟩ ?_ ?_⟩
            · skip
              simp [evSs, evS, evE, evA, evP, evO, evD, evI, asgT, asgTs, rdp, rds, rdsAll, frzd, frzE, thaw, callO, arsOf, arOf, iosOf, distinct, backOut, rvO, pick, bltV, cmpV, eqii, eqbb, eqstr, binV, negV, ixt, ixl, at0, at1, at2, at3, at4, at5, ix20, ix21, lk0, lk1, lk2, lk3, lk4, lk5, lk6, putv, slotOf, finF, rvOf, outsOf, runF, slOf, setAt, tyIs, isNon, seqV, Nat.blt, mulOk2, l_ways_by_1, wEnv, sv3, hat, fe, m1, c1, isKey_i, m2, hv, hsg, z1, z2, kp, mthV, z3]
            · rw [List.map_append]
              simp only [List.map_cons, List.map_nil]
              refine ⟨?_, fun x hx => ?_, fun x hx => ?_, List.mem_append_left _ q4.st, fun x hx => ?_, fun x hx hxl hxh b y hb hjb => ?_⟩
              · rw [List.nodup_append]
                exact ⟨q4.nd, by simp, by intro x hx y hy e; simp at hy; subst hy; subst e; exact c2 hx⟩
              · rcases List.mem_append.mp hx with h | h
                · exact q4.rg x h
                · simp at h; subst h; exact jn_rg hes hj
              · rcases List.mem_append.mp hx with h | h
                · exact q4.rc x h
                · simp at h; subst h; exact .step (q4.rc _ q5) c1 hj
              · rcases List.mem_append.mp hx with h | h
                · exact List.mem_append_left _ (q4.sb x h)
                · exact List.mem_append_right _ h
              · have hx' : x ∈ ks.map (·.1) := by
                  rcases List.mem_append.mp hx with h | h
                  · exact h
                  · exact absurd (List.mem_append_right _ h) hxl
                exact List.mem_append_left _ (q4.cl x hx' (fun z => hxl (List.mem_append_left _ z)) hxh b y hb hjb)
            · rcases List.mem_append.mp hp with h | h
              · have := q8.len p h; simp; omega
              · simp at h; subst h; simp at hvl ⊢; omega
            · simp; omega
            · simp; omega
        · refine ⟨_, .nx (wEnv t n ls s lot ks s4 (.own 0 (l.map .int)) (.val (.int here)) (.val (.int a)) (.val (.int there))), (by simp [evSs, evS, evE, evA, evP, evO, evD, evI, asgT, asgTs, rdp, rds, rdsAll, frzd, frzE, thaw, callO, arsOf, arOf, iosOf, distinct, backOut, rvO, pick, bltV, cmpV, eqii, eqbb, eqstr, binV, negV, ixt, ixl, at0, at1, at2, at3, at4, at5, ix20, ix21, lk0, lk1, lk2, lk3, lk4, lk5, lk6, putv, slotOf, finF, rvOf, outsOf, runF, slOf, setAt, tyIs, isNon, seqV, Nat.blt, mulOk2, wEnv]; rfl), ?_, step ks l _ _ (fun _ h => h) (fun z => absurd z c1) q4 q8 q9 q10⟩
          simp [evSs, evS, evE, evA, evP, evO, evD, evI, asgT, asgTs, rdp, rds, rdsAll, frzd, frzE, thaw, callO, arsOf, arOf, iosOf, distinct, backOut, rvO, pick, bltV, cmpV, eqii, eqbb, eqstr, binV, negV, ixt, ixl, at0, at1, at2, at3, at4, at5, ix20, ix21, lk0, lk1, lk2, lk3, lk4, lk5, lk6, putv, slotOf, finF, rvOf, outsOf, runF, slOf, setAt, tyIs, isNon, seqV, Nat.blt, mulOk2, l_ways_by_1, wEnv, sv3, hat, fe, m1, c1])
  exact ⟨ks, l, b7, b8, h1, h2⟩
theorem ways_row (h : okS n ls) (hl : ∀ a ∈ lot, 0 ≤ a ∧ a < ls.length) {ks0 : List (Int × List D)} {last : List Int} {a6 a7 a8 : Sl} (hi : RInv (ls.map en) n s lot (ks0.map (·.1)) [] (fun x => x ∈ last)) (hsub : ∀ x ∈ last, x ∈ ks0.map (·.1)) (hK : KInv ks0) :
    ∃ ks l b6 b7 b8, evS (G (k + 1)) C0 s_ways_by_4 (wEnv t n ls s lot ks0 (.val (.list (last.map .int))) (.own 0 []) a6 a7 a8) = some (.nx (wEnv t n ls s lot ks (.val (.list (last.map .int))) (.own 0 (l.map .int)) b6 b7 b8)) ∧
      RInv (ls.map en) n s lot (ks.map (·.1)) l (fun _ => False) ∧ KInv ks ∧ ks.length = ks0.length + l.length := by
  obtain ⟨fl, h1, ks, l, b6, b7, b8, rfl, h2⟩ := foE (F := G (k + 1)) (C := C0) (t := .nm 6) (it := .it (.var 4)) (b := l_ways_by_3) (env := wEnv t n ls s lot ks0 (.val (.list (last.map .int))) (.own 0 []) a6 a7 a8)
    (e1 := wEnv t n ls s lot ks0 (.val (.list (last.map .int))) (.own 0 []) a6 a7 a8) (ds := last.map .int)
    (fun ds e => ∃ rst ks l b6 b7 b8, ds = rst.map .int ∧ (∀ x ∈ rst, x ∈ last) ∧ e = wEnv t n ls s lot ks (.val (.list (last.map .int))) (.own 0 (l.map .int)) b6 b7 b8 ∧ RInv (ls.map en) n s lot (ks.map (·.1)) l (fun x => x ∈ rst) ∧ (∀ x ∈ ks0.map (·.1), x ∈ ks.map (·.1)) ∧ KInv ks ∧ l.length ≤ ks.length ∧ ks.length = ks0.length + l.length)
    (fun fl => ∃ ks l b6 b7 b8, fl = .nx (wEnv t n ls s lot ks (.val (.list (last.map .int))) (.own 0 (l.map .int)) b6 b7 b8) ∧ RInv (ls.map en) n s lot (ks.map (·.1)) l (fun _ => False) ∧ KInv ks ∧ ks.length = ks0.length + l.length)
    rfl (by simp [evSs, evS, evE, evA, evP, evO, evD, evI, asgT, asgTs, rdp, rds, rdsAll, frzd, frzE, thaw, callO, arsOf, arOf, iosOf, distinct, backOut, rvO, pick, bltV, cmpV, eqii, eqbb, eqstr, binV, negV, ixt, ixl, at0, at1, at2, at3, at4, at5, ix20, ix21, lk0, lk1, lk2, lk3, lk4, lk5, lk6, putv, slotOf, finF, rvOf, outsOf, runF, slOf, setAt, tyIs, isNon, seqV, Nat.blt, mulOk2, wEnv]) ⟨last, ks0, [], a6, a7, a8, rfl, fun _ z => z, rfl, hi, fun _ z => z, hK, by simp, by simp⟩
    (fun e ⟨rst, ks, l, b6, b7, b8, q1, q2, q3, q4, q5, q6, q7, q8⟩ => by
      have hr : rst = [] := by simpa using q1.symm
      subst hr
      exact ⟨ks, l, b6, b7, b8, by rw [q3], ⟨q4.nd, q4.rg, q4.rc, q4.st, q4.sb, fun x hx hxl _ a y ha hj => q4.cl x hx hxl (by simp) a y ha hj⟩, q6, q8⟩)
    (fun d ds e ⟨rst, ks, l, b6, b7, b8, q1, q2, q3, q4, q5, q6, q7, q8⟩ => by
      cases rst with
      | nil => simp at q1
      | cons here rst =>
        simp only [List.map_cons, List.cons.injEq] at q1
        obtain ⟨rfl, rfl⟩ := q1
        have hh : here ∈ ks.map (·.1) := q5 _ (hsub _ (q2 here List.mem_cons_self))
        obtain ⟨ks', l', c7, c8, r1, r2, r3, r4, r5, r6⟩ := ways_leg (t := t) (k := k) h hl (here := here) (ks0 := ks) (l0 := l) (rest := rst) (s4 := .val (.list (last.map .int))) (a7 := b7) (a8 := b8)
          ⟨q4.nd, q4.rg, q4.rc, q4.st, q4.sb, fun x hx hxl hxr a y ha hj => q4.cl x hx hxl (fun z => hxr (by rcases List.mem_cons.mp z with z | z; exact .inl z; exact .inr z)) a y ha hj⟩ hh q6 q7
        subst q3
        refine ⟨wEnv t n ls s lot ks (.val (.list (last.map .int))) (.own 0 (l.map .int)) (.val (.int here)) b7 b8, .nx (wEnv t n ls s lot ks' (.val (.list (last.map .int))) (.own 0 (l'.map .int)) (.val (.int here)) c7 c8), by simp [evSs, evS, evE, evA, evP, evO, evD, evI, asgT, asgTs, rdp, rds, rdsAll, frzd, frzE, thaw, callO, arsOf, arOf, iosOf, distinct, backOut, rvO, pick, bltV, cmpV, eqii, eqbb, eqstr, binV, negV, ixt, ixl, at0, at1, at2, at3, at4, at5, ix20, ix21, lk0, lk1, lk2, lk3, lk4, lk5, lk6, putv, slotOf, finF, rvOf, outsOf, runF, slOf, setAt, tyIs, isNon, seqV, Nat.blt, mulOk2, wEnv], ?_, rst, ks', l', _, c7, c8, rfl, fun x hx => q2 x (List.mem_cons_of_mem _ hx), rfl, r2, fun x hx => r3 x (q5 x hx), r4, r5, by omega⟩
        unfold l_ways_by_3
        rw [evSs, r1]
        dsimp only
        rw [evSs])
  exact ⟨ks, l, b6, b7, b8, h1, h2⟩
theorem ways_ok (h : okS n ls) (hl : ∀ a ∈ lot, 0 ≤ a ∧ a < ls.length) (s0 : 0 ≤ s) (s1 : s < n) :
    ∃ ks, G (k + 2) i_ways_by [.pu (sv t n ls), .pu (.int s), .pu (.tuple (lot.map .int))] = some (.pu (.dict (dk ks)), []) ∧ (∀ t, t ∈ ks.map (·.1) ↔ Rch (ls.map en) (· ∈ lot) s t) ∧ ∀ p ∈ ks, p.2.length ≤ 1000 := by
  have hn : n ≤ 1000 := by have := h.n2; omega
  obtain ⟨fl, h1, ks, b5, b6, b7, b8, rfl, h2, h3⟩ := whE (F := G (k + 1)) (C := C0) (c := .cmp .ne (.var 4) (.lst (.nil))) (b := l_ways_by_5) (env := wEnv t n ls s lot [(s, [])] (.val (.list [.int s])) .emp .emp .emp .emp)
    (fun m e => ∃ ks last b5 b6 b7 b8, e = wEnv t n ls s lot ks (.val (.list (last.map .int))) b5 b6 b7 b8 ∧ RInv (ls.map en) n s lot (ks.map (·.1)) [] (fun x => x ∈ last) ∧ (∀ x ∈ last, x ∈ ks.map (·.1)) ∧ KInv ks ∧ last.length ≤ ks.length ∧ last.length + 2 * 1000 ≤ m + 2 * ks.length)
    (fun fl => ∃ ks b5 b6 b7 b8, fl = .nx (wEnv t n ls s lot ks (.val (.list [])) b5 b6 b7 b8) ∧ RInv (ls.map en) n s lot (ks.map (·.1)) [] (fun _ => False) ∧ KInv ks)
    2000 (by decide) ⟨[(s, [])], [s], _, _, _, _, rfl, ⟨by simp, by simp; omega, by simp; exact .refl, by simp, by simp, by simp⟩, by simp, ⟨by simp⟩, by simp, by simp⟩
    (fun m e ⟨ks, last, b5, b6, b7, b8, q1, q2, q3, q4, q5, q6⟩ => by
      subst q1
      refine ⟨!decide (last = []), wEnv t n ls s lot ks (.val (.list (last.map .int))) b5 b6 b7 b8, by simp [evSs, evS, evE, evA, evP, evO, evD, evI, asgT, asgTs, rdp, rds, rdsAll, frzd, frzE, thaw, callO, arsOf, arOf, iosOf, distinct, backOut, rvO, pick, bltV, cmpV, eqii, eqbb, eqstr, binV, negV, ixt, ixl, at0, at1, at2, at3, at4, at5, ix20, ix21, lk0, lk1, lk2, lk3, lk4, lk5, lk6, putv, slotOf, finF, rvOf, outsOf, runF, slOf, setAt, tyIs, isNon, seqV, Nat.blt, mulOk2, wEnv, eq_nilI], fun hk => ?_, fun hk => ?_⟩
      · have : last = [] := by simpa using hk
        subst this
        exact ⟨ks, b5, b6, b7, b8, rfl, ⟨q2.nd, q2.rg, q2.rc, q2.st, q2.sb, fun x hx hxl _ a y ha hj => q2.cl x hx hxl (by simp) a y ha hj⟩, q4⟩
      · have ne : last ≠ [] := by simpa using hk
        have hp : 0 < last.length := List.length_pos_iff.mpr ne
        obtain ⟨ks', l', c6, c7, c8, r1, r2, r3, r4⟩ := ways_row (t := t) (k := k) (a6 := b6) (a7 := b7) (a8 := b8) h hl q2 q3 q4
        have hkl : ks'.length ≤ 1000 := by have := r2.len hn; simpa using this
        refine ⟨.nx (wEnv t n ls s lot ks' (.val (.list (l'.map .int))) (.val (.list (l'.map .int))) c6 c7 c8), ?_, m - 1, by omega, ks', l', _, c6, c7, c8, rfl, ⟨r2.nd, r2.rg, r2.rc, r2.st, by simp, fun x hx _ hxl a y ha hj => r2.cl x hx hxl id a y ha hj⟩, r2.sb, r3, by omega, by omega⟩
        have e1 : evS (G (k + 1)) C0 (.own 5 (.lst (.nil))) (wEnv t n ls s lot ks (.val (.list (last.map .int))) b5 b6 b7 b8) = some (.nx (wEnv t n ls s lot ks (.val (.list (last.map .int))) (.own 0 []) b6 b7 b8)) := by simp [evSs, evS, evE, evA, evP, evO, evD, evI, asgT, asgTs, rdp, rds, rdsAll, frzd, frzE, thaw, callO, arsOf, arOf, iosOf, distinct, backOut, rvO, pick, bltV, cmpV, eqii, eqbb, eqstr, binV, negV, ixt, ixl, at0, at1, at2, at3, at4, at5, ix20, ix21, lk0, lk1, lk2, lk3, lk4, lk5, lk6, putv, slotOf, finF, rvOf, outsOf, runF, slOf, setAt, tyIs, isNon, seqV, Nat.blt, mulOk2, wEnv]
        unfold l_ways_by_5
        rw [evSs, e1]
        dsimp only
        rw [evSs, r1]
        dsimp only
        simp [evSs, evS, evE, evA, evP, evO, evD, evI, asgT, asgTs, rdp, rds, rdsAll, frzd, frzE, thaw, callO, arsOf, arOf, iosOf, distinct, backOut, rvO, pick, bltV, cmpV, eqii, eqbb, eqstr, binV, negV, ixt, ixl, at0, at1, at2, at3, at4, at5, ix20, ix21, lk0, lk1, lk2, lk3, lk4, lk5, lk6, putv, slotOf, finF, rvOf, outsOf, runF, slOf, setAt, tyIs, isNon, seqV, Nat.blt, mulOk2, wEnv])
  have hw : evS (G (k + 1)) C0 s_ways_by_6 (wEnv t n ls s lot [(s, [])] (.val (.list [.int s])) .emp .emp .emp .emp) = some (.nx (wEnv t n ls s lot ks (.val (.list [])) b5 b6 b7 b8)) := h1
  have hkl : ks.length ≤ 1000 := by have := h2.len hn; simpa using this
  refine ⟨ks, ?_, fun t => ⟨fun ht => h2.rc t ht, fun z => z.closed h2.st fun x hx a y ha hj => h2.cl x hx (by simp) id a y ha hj⟩, fun p hp => Nat.le_trans (h3.len p hp) hkl⟩
  rw [one (fn := ⟨3, 9, b_ways_by⟩) rfl]
  have e1 : evS (G (k + 1)) C0 (.par2 3 4 true false (.ds1 (.var 1) (.lst (.nil))) (.lst (.cons (.var 1) (.nil)))) [.val (sv t n ls), .val (.int s), .val (.tuple (lot.map .int)), .emp, .emp, .emp, .emp, .emp, .emp] = some (.nx (wEnv t n ls s lot [(s, [])] (.val (.list [.int s])) .emp .emp .emp .emp)) := by
    simp [evSs, evS, evE, evA, evP, evO, evD, evI, asgT, asgTs, rdp, rds, rdsAll, frzd, frzE, thaw, callO, arsOf, arOf, iosOf, distinct, backOut, rvO, pick, bltV, cmpV, eqii, eqbb, eqstr, binV, negV, ixt, ixl, at0, at1, at2, at3, at4, at5, ix20, ix21, lk0, lk1, lk2, lk3, lk4, lk5, lk6, putv, slotOf, finF, rvOf, outsOf, runF, slOf, setAt, tyIs, isNon, seqV, Nat.blt, mulOk2, wEnv, isKey_i, dk]
  have e : evSs (G (k + 1)) C0 b_ways_by [.val (sv t n ls), .val (.int s), .val (.tuple (lot.map .int)), .emp, .emp, .emp, .emp, .emp, .emp] = some (.rt (.pu (.dict (dk ks))) [.val (sv t n ls), .val (.int s), .val (.tuple (lot.map .int)), .val (.dict (dk ks)), .val (.list []), b5, b6, b7, b8]) := by
    unfold b_ways_by
    rw [evSs, e1]
    dsimp only
    rw [evSs, hw]
    dsimp only
    simp [evSs, evS, evE, evA, evP, evO, evD, evI, asgT, asgTs, rdp, rds, rdsAll, frzd, frzE, thaw, callO, arsOf, arOf, iosOf, distinct, backOut, rvO, pick, bltV, cmpV, eqii, eqbb, eqstr, binV, negV, ixt, ixl, at0, at1, at2, at3, at4, at5, ix20, ix21, lk0, lk1, lk2, lk3, lk4, lk5, lk6, putv, slotOf, finF, rvOf, outsOf, runF, slOf, setAt, tyIs, isNon, seqV, Nat.blt, mulOk2, wEnv]
  exact runE rfl rfl e (by simp [evSs, evS, evE, evA, evP, evO, evD, evI, asgT, asgTs, rdp, rds, rdsAll, frzd, frzE, thaw, callO, arsOf, arOf, iosOf, distinct, backOut, rvO, pick, bltV, cmpV, eqii, eqbb, eqstr, binV, negV, ixt, ixl, at0, at1, at2, at3, at4, at5, ix20, ix21, lk0, lk1, lk2, lk3, lk4, lk5, lk6, putv, slotOf, finF, rvOf, outsOf, runF, slOf, setAt, tyIs, isNon, seqV, Nat.blt, mulOk2])
def wout (lot : List Int) (leg : Int) : List Int := lot.filter fun x => !decide (x = leg)
theorem mem_wout {leg a : Int} : a ∈ wout lot leg ↔ a ∈ lot ∧ a ≠ leg := by simp [wout]
theorem without_ok {leg : Int} (hz : lot.length ≤ 1000) : G (k + 1) i_without [.pu (.tuple (lot.map .int)), .pu (.int leg)] = some (.pu (.tuple ((wout lot leg).map .int)), []) := by
  rw [one (fn := ⟨2, 3, b_without⟩) rfl]
  have c : evE (G k) C0 e_without_1 [.val (.tuple (lot.map .int)), .val (.int leg), .emp] = some (.fr ((wout lot leg).map .int), [.val (.tuple (lot.map .int)), .val (.int leg), .emp]) := by
    refine (lcE (e1 := [.val (.tuple (lot.map .int)), .val (.int leg), .emp]) (ds := lot.map .int) (fun d => match d with | .int i => if (!decide (i = leg)) then some (.int i) else none | _ => none) ?_ ?_ ?_).trans ?_
    · simp [evSs, evS, evE, evA, evP, evO, evD, evI, asgT, asgTs, rdp, rds, rdsAll, frzd, frzE, thaw, callO, arsOf, arOf, iosOf, distinct, backOut, rvO, pick, bltV, cmpV, eqii, eqbb, eqstr, binV, negV, ixt, ixl, at0, at1, at2, at3, at4, at5, ix20, ix21, lk0, lk1, lk2, lk3, lk4, lk5, lk6, putv, slotOf, finF, rvOf, outsOf, runF, slOf, setAt, tyIs, isNon, seqV, Nat.blt, mulOk2]
    · simp; omega
    · intro d hd
      obtain ⟨i, hi, rfl⟩ := List.mem_map.mp hd
      refine ⟨[.val (.tuple (lot.map .int)), .val (.int leg), .val (.int i)], !decide (i = leg), [.val (.tuple (lot.map .int)), .val (.int leg), .val (.int i)], ?_, ?_, fun hb => ⟨by simp [wipeE], ?_⟩, fun hb => ⟨.int i, [.val (.tuple (lot.map .int)), .val (.int leg), .val (.int i)], ?_, by simp [wipeE], ?_⟩⟩
      · simp [evSs, evS, evE, evA, evP, evO, evD, evI, asgT, asgTs, rdp, rds, rdsAll, frzd, frzE, thaw, callO, arsOf, arOf, iosOf, distinct, backOut, rvO, pick, bltV, cmpV, eqii, eqbb, eqstr, binV, negV, ixt, ixl, at0, at1, at2, at3, at4, at5, ix20, ix21, lk0, lk1, lk2, lk3, lk4, lk5, lk6, putv, slotOf, finF, rvOf, outsOf, runF, slOf, setAt, tyIs, isNon, seqV, Nat.blt, mulOk2, wipeE]
      · simp [evSs, evS, evE, evA, evP, evO, evD, evI, asgT, asgTs, rdp, rds, rdsAll, frzd, frzE, thaw, callO, arsOf, arOf, iosOf, distinct, backOut, rvO, pick, bltV, cmpV, eqii, eqbb, eqstr, binV, negV, ixt, ixl, at0, at1, at2, at3, at4, at5, ix20, ix21, lk0, lk1, lk2, lk3, lk4, lk5, lk6, putv, slotOf, finF, rvOf, outsOf, runF, slOf, setAt, tyIs, isNon, seqV, Nat.blt, mulOk2]
      · simp at hb; simp [hb]
      · simp [evSs, evS, evE, evA, evP, evO, evD, evI, asgT, asgTs, rdp, rds, rdsAll, frzd, frzE, thaw, callO, arsOf, arOf, iosOf, distinct, backOut, rvO, pick, bltV, cmpV, eqii, eqbb, eqstr, binV, negV, ixt, ixl, at0, at1, at2, at3, at4, at5, ix20, ix21, lk0, lk1, lk2, lk3, lk4, lk5, lk6, putv, slotOf, finF, rvOf, outsOf, runF, slOf, setAt, tyIs, isNon, seqV, Nat.blt, mulOk2]
      · simp at hb; simp [hb]
    · rw [fmap_filter PyData.int _ (fun i => !decide (i = leg)) PyData.int _ (fun p _ => rfl)]
      simp [backE, wipeE, valOnly, wout]
  simp [evSs, evS, evE, evA, evP, evO, evD, evI, asgT, asgTs, rdp, rds, rdsAll, frzd, frzE, thaw, callO, arsOf, arOf, iosOf, distinct, backOut, rvO, pick, bltV, cmpV, eqii, eqbb, eqstr, binV, negV, ixt, ixl, at0, at1, at2, at3, at4, at5, ix20, ix21, lk0, lk1, lk2, lk3, lk4, lk5, lk6, putv, slotOf, finF, rvOf, outsOf, runF, slOf, setAt, tyIs, isNon, seqV, Nat.blt, mulOk2, b_without, c]
end
end K94

set_option Elab.async false
set_option linter.all false
set_option maxRecDepth 100000
set_option maxHeartbeats 4000000
namespace K94
open PySem Rf
section
variable {k : Nat} {t : Str} {n s : Int} {ls : List Lg} {lot : List Int}
/-- is there a loop with a leg? -/
def Brg (es : List (Int × Int)) (leg : Int) : Prop := ∃ e, es[leg.toNat]? = some e ∧ ¬ Rch es (fun a => a ∈ iot es.length ∧ a ≠ leg) e.1 e.2
theorem loop_with_ok {leg : Int} (h : okS n ls) (h0 : 0 ≤ leg) (h1 : leg < ls.length) : ∃ d, G (k + 3) i_loop_with [.pu (sv t n ls), .pu (.int leg)] = some (d, []) ∧ ((d = .pu .none ∧ Brg (ls.map en) leg) ∨ ((∃ xs, d = .fr xs) ∧ ¬ Brg (ls.map en) leg)) := by
  obtain ⟨l, hl, hat⟩ := at_map lgD h0 h1
  obtain ⟨g1, g2, g3, g4, g5, g6, g7⟩ := h.lg l (List.mem_of_getElem? hl)
  have al := all_legs_ok (t := t) (k := k + 1) h
  have wo := without_ok (k := k + 1) (lot := iot ls.length) (leg := leg) (by rw [iot_len]; have := h.ln; omega)
  obtain ⟨ks, hw, hm, hlen⟩ := ways_ok (t := t) (k := k) (lot := wout (iot ls.length) leg) (s := l.2.2) h (fun a ha => by
    have := mem_iot.mp (mem_wout.mp ha).1; omega) g5 g6
  have hrch : Rch (ls.map en) (· ∈ wout (iot ls.length) leg) l.2.2 l.2.1 ↔ Rch (ls.map en) (fun a => a ∈ iot (ls.map en).length ∧ a ≠ leg) (en l).1 (en l).2 :=
    ⟨fun z => (z.mono fun a ha => by simpa using mem_wout.mp ha).symm, fun z => (z.mono fun a ha => mem_wout.mpr (by simpa using ha)).symm⟩
  have hen : (ls.map en)[leg.toNat]? = some (en l) := by rw [List.getElem?_map, hl]; rfl
  rw [one (fn := ⟨2, 4, b_loop_with⟩) rfl]
  have hat' : L2.atI (ls.map lgD) leg = some (.tuple [.int l.1, .int l.2.1, .int l.2.2, .tuple [.tuple [.int 0, .int 1]], .tuple [.tuple [.int 0, .int 1]], .tuple [.int 1, .int 1]]) := hat
  obtain ⟨sg, hsg⟩ := sense_ok (k := k + 1) (t := t) (n := n) (st := l.2.1) h0 h1
  (first | (change G (k + 2) _ _ = _ at al) | skip); (first | (change G (k + 2) _ _ = _ at wo) | skip); (first | (change G (k + 2) _ _ = _ at hw) | skip); (first | (change G (k + 2) _ _ = _ at hsg) | skip); generalize G (k + 2) = FF at al wo hw hsg ⊢
  rcases kget_dk l.2.1 ks with ⟨q1, q2⟩ | ⟨v, q1, q2⟩
  · refine ⟨.pu .none, ?_, .inl ⟨rfl, en l, hen, fun z => q2 ((hm _).mpr (hrch.mpr z))⟩⟩
    exact runX rfl rfl ⟨_, by (simp [evSs, evS, evE, evA, evP, evO, evD, evI, asgT, asgTs, rdp, rds, rdsAll, frzd, frzE, thaw, callO, arsOf, arOf, iosOf, distinct, backOut, rvO, pick, bltV, cmpV, eqii, eqbb, eqstr, binV, negV, ixt, ixl, at0, at1, at2, at3, at4, at5, ix20, ix21, lk0, lk1, lk2, lk3, lk4, lk5, lk6, putv, slotOf, finF, rvOf, outsOf, runF, slOf, setAt, tyIs, isNon, seqV, Nat.blt, mulOk2, b_loop_with, sv3, hat', al, wo, hw, isKey_i, q1]; rfl), by simp [evSs, evS, evE, evA, evP, evO, evD, evI, asgT, asgTs, rdp, rds, rdsAll, frzd, frzE, thaw, callO, arsOf, arOf, iosOf, distinct, backOut, rvO, pick, bltV, cmpV, eqii, eqbb, eqstr, binV, negV, ixt, ixl, at0, at1, at2, at3, at4, at5, ix20, ix21, lk0, lk1, lk2, lk3, lk4, lk5, lk6, putv, slotOf, finF, rvOf, outsOf, runF, slOf, setAt, tyIs, isNon, seqV, Nat.blt, mulOk2]⟩
  · have z1 : lenOk (v.length + 1) = true := lenOk_of (by have := hlen _ q2; simp at this; omega)
    have z2 : lenOk (1 + v.length) = true := lenOk_of (by have := hlen _ q2; simp at this; omega)
    refine ⟨.fr (.tuple [.int leg, .int sg] :: v), ?_, .inr ⟨⟨_, rfl⟩, fun ⟨e, he, hn⟩ => ?_⟩⟩
    · exact runX rfl rfl ⟨_, by (simp [evSs, evS, evE, evA, evP, evO, evD, evI, asgT, asgTs, rdp, rds, rdsAll, frzd, frzE, thaw, callO, arsOf, arOf, iosOf, distinct, backOut, rvO, pick, bltV, cmpV, eqii, eqbb, eqstr, binV, negV, ixt, ixl, at0, at1, at2, at3, at4, at5, ix20, ix21, lk0, lk1, lk2, lk3, lk4, lk5, lk6, putv, slotOf, finF, rvOf, outsOf, runF, slOf, setAt, tyIs, isNon, seqV, Nat.blt, mulOk2, b_loop_with, sv3, hat', al, wo, hw, isKey_i, q1, hsg, z1, z2]; rfl), by simp [evSs, evS, evE, evA, evP, evO, evD, evI, asgT, asgTs, rdp, rds, rdsAll, frzd, frzE, thaw, callO, arsOf, arOf, iosOf, distinct, backOut, rvO, pick, bltV, cmpV, eqii, eqbb, eqstr, binV, negV, ixt, ixl, at0, at1, at2, at3, at4, at5, ix20, ix21, lk0, lk1, lk2, lk3, lk4, lk5, lk6, putv, slotOf, finF, rvOf, outsOf, runF, slOf, setAt, tyIs, isNon, seqV, Nat.blt, mulOk2]⟩
    · rw [hen] at he; cases he
      exact hn (hrch.mp ((hm _).mp (List.mem_map.mpr ⟨_, q2, rfl⟩)))
end
end K94

set_option Elab.async false
set_option linter.all false
set_option maxRecDepth 100000
set_option maxHeartbeats 4000000
namespace K94
open PySem Rf
section
variable {k : Nat} {t : Str} {n s : Int} {ls : List Lg} {lot : List Int} {es : List (Int × Int)}
def isNoneR : Option Rt → Bool
  | some (.pu .none, []) => true
  | _ => false
theorem bridges_of_ok (h : okS n ls) : ∃ bs : List Int, G (k + 4) i_bridges_of [.pu (sv t n ls)] = some (.pu (.tuple (bs.map .int)), []) ∧ ∀ b, b ∈ bs ↔ b ∈ iot ls.length ∧ Brg (ls.map en) b := by
  have al := all_legs_ok (t := t) (k := k + 2) h
  have c : evE (G (k + 3)) C0 e_bridges_of_1 [.val (sv t n ls), .emp] = some (.fr (((iot ls.length).filter fun i => isNoneR (G (k + 3) i_loop_with [.pu (sv t n ls), .pu (.int i)])).map .int), [.val (sv t n ls), .emp]) := by
    refine (lcE (e1 := [.val (sv t n ls), .emp]) (ds := (iot ls.length).map .int) (fun d => match d with | .int i => if isNoneR (G (k + 3) i_loop_with [.pu (sv t n ls), .pu (.int i)]) then some (.int i) else none | _ => none) ?_ ?_ ?_).trans ?_
    · simp [evSs, evS, evE, evA, evP, evO, evD, evI, asgT, asgTs, rdp, rds, rdsAll, frzd, frzE, thaw, callO, arsOf, arOf, iosOf, distinct, backOut, rvO, pick, bltV, cmpV, eqii, eqbb, eqstr, binV, negV, ixt, ixl, at0, at1, at2, at3, at4, at5, ix20, ix21, lk0, lk1, lk2, lk3, lk4, lk5, lk6, putv, slotOf, finF, rvOf, outsOf, runF, slOf, setAt, tyIs, isNon, seqV, Nat.blt, mulOk2, al]
    · rw [List.length_map, iot_len]; have := h.ln; omega
    · intro d hd
      obtain ⟨i, hi, rfl⟩ := List.mem_map.mp hd
      have hi' := mem_iot.mp hi
      obtain ⟨r, h1, h2⟩ := loop_with_ok (k := k) (t := t) h hi'.1 hi'.2
      dsimp only
      rw [h1]
      refine ⟨[.val (sv t n ls), .val (.int i)], isNoneR (some (r, [])), [.val (sv t n ls), .val (.int i)], ?_, ?_, fun hb => ⟨by simp [wipeE], by simp [hb]⟩, fun hb => ⟨.int i, [.val (sv t n ls), .val (.int i)], ?_, by simp [wipeE], by simp [hb]⟩⟩
      · simp [evSs, evS, evE, evA, evP, evO, evD, evI, asgT, asgTs, rdp, rds, rdsAll, frzd, frzE, thaw, callO, arsOf, arOf, iosOf, distinct, backOut, rvO, pick, bltV, cmpV, eqii, eqbb, eqstr, binV, negV, ixt, ixl, at0, at1, at2, at3, at4, at5, ix20, ix21, lk0, lk1, lk2, lk3, lk4, lk5, lk6, putv, slotOf, finF, rvOf, outsOf, runF, slOf, setAt, tyIs, isNon, seqV, Nat.blt, mulOk2, wipeE]
      · rcases h2 with ⟨rfl, _⟩ | ⟨⟨xs, rfl⟩, _⟩ <;> simp [evSs, evS, evE, evA, evP, evO, evD, evI, asgT, asgTs, rdp, rds, rdsAll, frzd, frzE, thaw, callO, arsOf, arOf, iosOf, distinct, backOut, rvO, pick, bltV, cmpV, eqii, eqbb, eqstr, binV, negV, ixt, ixl, at0, at1, at2, at3, at4, at5, ix20, ix21, lk0, lk1, lk2, lk3, lk4, lk5, lk6, putv, slotOf, finF, rvOf, outsOf, runF, slOf, setAt, tyIs, isNon, seqV, Nat.blt, mulOk2, h1, isNoneR]
      · simp [evSs, evS, evE, evA, evP, evO, evD, evI, asgT, asgTs, rdp, rds, rdsAll, frzd, frzE, thaw, callO, arsOf, arOf, iosOf, distinct, backOut, rvO, pick, bltV, cmpV, eqii, eqbb, eqstr, binV, negV, ixt, ixl, at0, at1, at2, at3, at4, at5, ix20, ix21, lk0, lk1, lk2, lk3, lk4, lk5, lk6, putv, slotOf, finF, rvOf, outsOf, runF, slOf, setAt, tyIs, isNon, seqV, Nat.blt, mulOk2]
    · rw [fmap_filter PyData.int _ (fun i => isNoneR (G (k + 3) i_loop_with [.pu (sv t n ls), .pu (.int i)])) PyData.int _ (fun p _ => rfl)]
      simp [backE, wipeE, valOnly]
  refine ⟨(iot ls.length).filter fun i => isNoneR (G (k + 3) i_loop_with [.pu (sv t n ls), .pu (.int i)]), ?_, fun b => ?_⟩
  · rw [one (fn := ⟨1, 2, b_bridges_of⟩) rfl]
    refine runX rfl rfl ⟨.rt (.pu (.tuple (((iot ls.length).filter fun i => isNoneR (G (k + 3) i_loop_with [.pu (sv t n ls), .pu (.int i)])).map .int))) [.val (sv t n ls), .emp], ?_, by simp [evSs, evS, evE, evA, evP, evO, evD, evI, asgT, asgTs, rdp, rds, rdsAll, frzd, frzE, thaw, callO, arsOf, arOf, iosOf, distinct, backOut, rvO, pick, bltV, cmpV, eqii, eqbb, eqstr, binV, negV, ixt, ixl, at0, at1, at2, at3, at4, at5, ix20, ix21, lk0, lk1, lk2, lk3, lk4, lk5, lk6, putv, slotOf, finF, rvOf, outsOf, runF, slOf, setAt, tyIs, isNon, seqV, Nat.blt, mulOk2]⟩
    simp [evSs, evS, evE, evA, evP, evO, evD, evI, asgT, asgTs, rdp, rds, rdsAll, frzd, frzE, thaw, callO, arsOf, arOf, iosOf, distinct, backOut, rvO, pick, bltV, cmpV, eqii, eqbb, eqstr, binV, negV, ixt, ixl, at0, at1, at2, at3, at4, at5, ix20, ix21, lk0, lk1, lk2, lk3, lk4, lk5, lk6, putv, slotOf, finF, rvOf, outsOf, runF, slOf, setAt, tyIs, isNon, seqV, Nat.blt, mulOk2, b_bridges_of, c]
  · rw [List.mem_filter]
    constructor
    · rintro ⟨h1, h2⟩
      have h1' := mem_iot.mp h1
      obtain ⟨r, q1, q2⟩ := loop_with_ok (k := k) (t := t) h h1'.1 h1'.2
      rw [q1] at h2
      refine ⟨h1, ?_⟩
      rcases q2 with ⟨_, q2⟩ | ⟨⟨xs, rfl⟩, _⟩
      · exact q2
      · simp [isNoneR] at h2
    · rintro ⟨h1, h2⟩
      have h1' := mem_iot.mp h1
      obtain ⟨r, q1, q2⟩ := loop_with_ok (k := k) (t := t) h h1'.1 h1'.2
      refine ⟨h1, ?_⟩
      rw [q1]
      rcases q2 with ⟨rfl, q2⟩ | ⟨_, q2⟩
      · rfl
      · exact absurd h2 q2
/-! ### the law's own -/
theorem ends_of_ok (hz : ls.length ≤ 1000) : G (k + 1) i__law_ends_of [.pu (sv t n ls)] = some (.fr ((ls.map en).map prD), []) := by
  rw [one (fn := ⟨1, 2, b__law_ends_of⟩) rfl]
  have c : evE (G k) C0 e__law_ends_of_1 [.val (sv t n ls), .emp] = some (.fr ((ls.map en).map prD), [.val (sv t n ls), .emp]) := by
    refine (lcE (e1 := [.val (sv t n ls), .emp]) (ds := ls.map lgD) (fun d => match d with | .tuple [_, .int a, .int b, _, _, _] => some (.tuple [.int a, .int b]) | _ => none) ?_ ?_ ?_).trans ?_
    · simp [evSs, evS, evE, evA, evP, evO, evD, evI, asgT, asgTs, rdp, rds, rdsAll, frzd, frzE, thaw, callO, arsOf, arOf, iosOf, distinct, backOut, rvO, pick, bltV, cmpV, eqii, eqbb, eqstr, binV, negV, ixt, ixl, at0, at1, at2, at3, at4, at5, ix20, ix21, lk0, lk1, lk2, lk3, lk4, lk5, lk6, putv, slotOf, finF, rvOf, outsOf, runF, slOf, setAt, tyIs, isNon, seqV, Nat.blt, mulOk2, sv3]
    · simp; omega
    · intro d hd
      obtain ⟨l, hl, rfl⟩ := List.mem_map.mp hd
      refine ⟨[.val (sv t n ls), .val (lgD l)], true, [.val (sv t n ls), .val (lgD l)], ?_, ?_, by simp, fun _ => ⟨.tuple [.int l.2.1, .int l.2.2], [.val (sv t n ls), .val (lgD l)], ?_, by simp [wipeE], rfl⟩⟩
      · simp [evSs, evS, evE, evA, evP, evO, evD, evI, asgT, asgTs, rdp, rds, rdsAll, frzd, frzE, thaw, callO, arsOf, arOf, iosOf, distinct, backOut, rvO, pick, bltV, cmpV, eqii, eqbb, eqstr, binV, negV, ixt, ixl, at0, at1, at2, at3, at4, at5, ix20, ix21, lk0, lk1, lk2, lk3, lk4, lk5, lk6, putv, slotOf, finF, rvOf, outsOf, runF, slOf, setAt, tyIs, isNon, seqV, Nat.blt, mulOk2, wipeE]
      · simp [evSs, evS, evE, evA, evP, evO, evD, evI, asgT, asgTs, rdp, rds, rdsAll, frzd, frzE, thaw, callO, arsOf, arOf, iosOf, distinct, backOut, rvO, pick, bltV, cmpV, eqii, eqbb, eqstr, binV, negV, ixt, ixl, at0, at1, at2, at3, at4, at5, ix20, ix21, lk0, lk1, lk2, lk3, lk4, lk5, lk6, putv, slotOf, finF, rvOf, outsOf, runF, slOf, setAt, tyIs, isNon, seqV, Nat.blt, mulOk2]
      · simp [evSs, evS, evE, evA, evP, evO, evD, evI, asgT, asgTs, rdp, rds, rdsAll, frzd, frzE, thaw, callO, arsOf, arOf, iosOf, distinct, backOut, rvO, pick, bltV, cmpV, eqii, eqbb, eqstr, binV, negV, ixt, ixl, at0, at1, at2, at3, at4, at5, ix20, ix21, lk0, lk1, lk2, lk3, lk4, lk5, lk6, putv, slotOf, finF, rvOf, outsOf, runF, slOf, setAt, tyIs, isNon, seqV, Nat.blt, mulOk2, lgD, slcV, cutL, HT.sIx]
    · rw [fmap_some lgD _ (fun l => (.tuple [.int l.2.1, .int l.2.2] : D)) ls (fun _ _ => rfl), List.map_map]
      simp [backE, wipeE, valOnly, prD, en, Function.comp_def]
  refine runX rfl rfl ⟨.rt (.fr ((ls.map en).map prD)) [.val (sv t n ls), .emp], ?_, by simp [evSs, evS, evE, evA, evP, evO, evD, evI, asgT, asgTs, rdp, rds, rdsAll, frzd, frzE, thaw, callO, arsOf, arOf, iosOf, distinct, backOut, rvO, pick, bltV, cmpV, eqii, eqbb, eqstr, binV, negV, ixt, ixl, at0, at1, at2, at3, at4, at5, ix20, ix21, lk0, lk1, lk2, lk3, lk4, lk5, lk6, putv, slotOf, finF, rvOf, outsOf, runF, slOf, setAt, tyIs, isNon, seqV, Nat.blt, mulOk2]⟩
  simp [evSs, evS, evE, evA, evP, evO, evD, evI, asgT, asgTs, rdp, rds, rdsAll, frzd, frzE, thaw, callO, arsOf, arOf, iosOf, distinct, backOut, rvO, pick, bltV, cmpV, eqii, eqbb, eqstr, binV, negV, ixt, ixl, at0, at1, at2, at3, at4, at5, ix20, ix21, lk0, lk1, lk2, lk3, lk4, lk5, lk6, putv, slotOf, finF, rvOf, outsOf, runF, slOf, setAt, tyIs, isNon, seqV, Nat.blt, mulOk2, b__law_ends_of, c]
theorem law_bridges_ok (he : okE n es) (hn : n ≤ 1000) (hz : es.length ≤ 1000) : ∃ bs : List Int, G (k + 2) i__law_bridges [.pu (.list (es.map prD))] = some (.fr (bs.map .int), []) ∧ (∀ b, b ∈ bs ↔ b ∈ iot es.length ∧ Brg es b) ∧ bs.length ≤ es.length := by
  have r := rng_iot (n := (es.length : Int)) (by omega) (by omega)
  rw [Int.toNat_natCast] at r
  have e1 : evS (G (k + 1)) C0 (.asg (.nm 1) (.lrg (.cst (.int 0)) (.blt .len (.cons (.var 0) (.nil))))) [.val (.list (es.map prD)), .emp, .emp, .emp] = some (.nx [.val (.list (es.map prD)), .val (.list ((iot es.length).map .int)), .emp, .emp]) := by
    have t4 := lrgE (F := G (k + 1)) (C := C0) (lo := .cst (.int 0)) (hi := .blt .len (.cons (.var 0) (.nil))) (env := [.val (.list (es.map prD)), .emp, .emp, .emp]) (e1 := [.val (.list (es.map prD)), .emp, .emp, .emp]) (e2 := [.val (.list (es.map prD)), .emp, .emp, .emp]) (a := .int 0) (b := .int es.length) (by simp [evSs, evS, evE, evA, evP, evO, evD, evI, asgT, asgTs, rdp, rds, rdsAll, frzd, frzE, thaw, callO, arsOf, arOf, iosOf, distinct, backOut, rvO, pick, bltV, cmpV, eqii, eqbb, eqstr, binV, negV, ixt, ixl, at0, at1, at2, at3, at4, at5, ix20, ix21, lk0, lk1, lk2, lk3, lk4, lk5, lk6, putv, slotOf, finF, rvOf, outsOf, runF, slOf, setAt, tyIs, isNon, seqV, Nat.blt, mulOk2]) (by simp [evSs, evS, evE, evA, evP, evO, evD, evI, asgT, asgTs, rdp, rds, rdsAll, frzd, frzE, thaw, callO, arsOf, arOf, iosOf, distinct, backOut, rvO, pick, bltV, cmpV, eqii, eqbb, eqstr, binV, negV, ixt, ixl, at0, at1, at2, at3, at4, at5, ix20, ix21, lk0, lk1, lk2, lk3, lk4, lk5, lk6, putv, slotOf, finF, rvOf, outsOf, runF, slOf, setAt, tyIs, isNon, seqV, Nat.blt, mulOk2]) r (lenOk_of (by rw [List.length_map, iot_len]; omega))
    rw [evS, t4]
    simp [evSs, evS, evE, evA, evP, evO, evD, evI, asgT, asgTs, rdp, rds, rdsAll, frzd, frzE, thaw, callO, arsOf, arOf, iosOf, distinct, backOut, rvO, pick, bltV, cmpV, eqii, eqbb, eqstr, binV, negV, ixt, ixl, at0, at1, at2, at3, at4, at5, ix20, ix21, lk0, lk1, lk2, lk3, lk4, lk5, lk6, putv, slotOf, finF, rvOf, outsOf, runF, slOf, setAt, tyIs, isNon, seqV, Nat.blt, mulOk2]
  have at_ : ∀ i, i ∈ iot es.length → ∃ (e : Int × Int) (ms : List Int), es[i.toNat]? = some e ∧ L2.atI (es.map prD) i = some (prD e) ∧ G (k + 1) i__law_reached [.pu (.list (es.map prD)), .pu (.int e.1), .pu (.list ((wout (iot es.length) i).map .int))] = some (.fr (ms.map .int), []) ∧ (e.2 ∈ ms ↔ ¬ Brg es i) := fun i hi => by
    have hi' := mem_iot.mp hi
    obtain ⟨e, h1, h2⟩ := at_map prD hi'.1 hi'.2
    obtain ⟨g1, g2, g3, g4⟩ := he e (List.mem_of_getElem? h1)
    obtain ⟨ms, m1, m2, _⟩ := reached_ok (k := k) (s := e.1) (lot := wout (iot es.length) i) he hn (fun a ha => by
      have := mem_iot.mp (mem_wout.mp ha).1; omega) g1 g2
    refine ⟨e, ms, h1, h2, m1, ?_⟩
    rw [m2]
    constructor
    · rintro z ⟨e', q1, q2⟩
      rw [h1] at q1; cases q1
      exact q2 (z.mono fun a ha => mem_wout.mp ha)
    · intro z
      refine Classical.byContradiction fun y => z ⟨e, h1, fun q => y (q.mono fun a ha => mem_wout.mpr ha)⟩
  have inner : ∀ i, evE (G (k + 1)) C0 e__law_bridges_1 [.val (.list (es.map prD)), .val (.list ((iot es.length).map .int)), .val (.int i), .emp] = some (.fr ((wout (iot es.length) i).map .int), [.val (.list (es.map prD)), .val (.list ((iot es.length).map .int)), .val (.int i), .emp]) := fun leg => by
    refine (lcE (e1 := [.val (.list (es.map prD)), .val (.list ((iot es.length).map .int)), .val (.int leg), .emp]) (ds := (iot es.length).map .int) (fun d => match d with | .int i => if (!decide (i = leg)) then some (.int i) else none | _ => none) ?_ ?_ ?_).trans ?_
    · simp [evSs, evS, evE, evA, evP, evO, evD, evI, asgT, asgTs, rdp, rds, rdsAll, frzd, frzE, thaw, callO, arsOf, arOf, iosOf, distinct, backOut, rvO, pick, bltV, cmpV, eqii, eqbb, eqstr, binV, negV, ixt, ixl, at0, at1, at2, at3, at4, at5, ix20, ix21, lk0, lk1, lk2, lk3, lk4, lk5, lk6, putv, slotOf, finF, rvOf, outsOf, runF, slOf, setAt, tyIs, isNon, seqV, Nat.blt, mulOk2]
    · simp [iot_len]; omega
    · intro d hd
      obtain ⟨i, hi, rfl⟩ := List.mem_map.mp hd
      refine ⟨[.val (.list (es.map prD)), .val (.list ((iot es.length).map .int)), .val (.int leg), .val (.int i)], !decide (i = leg), [.val (.list (es.map prD)), .val (.list ((iot es.length).map .int)), .val (.int leg), .val (.int i)], ?_, ?_, fun hb => ⟨by simp [wipeE], ?_⟩, fun hb => ⟨.int i, [.val (.list (es.map prD)), .val (.list ((iot es.length).map .int)), .val (.int leg), .val (.int i)], ?_, by simp [wipeE], ?_⟩⟩
      · simp [evSs, evS, evE, evA, evP, evO, evD, evI, asgT, asgTs, rdp, rds, rdsAll, frzd, frzE, thaw, callO, arsOf, arOf, iosOf, distinct, backOut, rvO, pick, bltV, cmpV, eqii, eqbb, eqstr, binV, negV, ixt, ixl, at0, at1, at2, at3, at4, at5, ix20, ix21, lk0, lk1, lk2, lk3, lk4, lk5, lk6, putv, slotOf, finF, rvOf, outsOf, runF, slOf, setAt, tyIs, isNon, seqV, Nat.blt, mulOk2, wipeE]
      · simp [evSs, evS, evE, evA, evP, evO, evD, evI, asgT, asgTs, rdp, rds, rdsAll, frzd, frzE, thaw, callO, arsOf, arOf, iosOf, distinct, backOut, rvO, pick, bltV, cmpV, eqii, eqbb, eqstr, binV, negV, ixt, ixl, at0, at1, at2, at3, at4, at5, ix20, ix21, lk0, lk1, lk2, lk3, lk4, lk5, lk6, putv, slotOf, finF, rvOf, outsOf, runF, slOf, setAt, tyIs, isNon, seqV, Nat.blt, mulOk2]
      · simp at hb; simp [hb]
      · simp [evSs, evS, evE, evA, evP, evO, evD, evI, asgT, asgTs, rdp, rds, rdsAll, frzd, frzE, thaw, callO, arsOf, arOf, iosOf, distinct, backOut, rvO, pick, bltV, cmpV, eqii, eqbb, eqstr, binV, negV, ixt, ixl, at0, at1, at2, at3, at4, at5, ix20, ix21, lk0, lk1, lk2, lk3, lk4, lk5, lk6, putv, slotOf, finF, rvOf, outsOf, runF, slOf, setAt, tyIs, isNon, seqV, Nat.blt, mulOk2]
      · simp at hb; simp [hb]
    · rw [fmap_filter PyData.int _ (fun i => !decide (i = leg)) PyData.int _ (fun p _ => rfl)]
      simp [backE, wipeE, valOnly, wout]
  have c : evE (G (k + 1)) C0 e__law_bridges_2 [.val (.list (es.map prD)), .val (.list ((iot es.length).map .int)), .emp, .emp] = some (.fr (((iot es.length).filter fun i => @decide (Brg es i) (Classical.propDecidable _)).map .int), [.val (.list (es.map prD)), .val (.list ((iot es.length).map .int)), .emp, .emp]) := by
    refine (lcE (e1 := [.val (.list (es.map prD)), .val (.list ((iot es.length).map .int)), .emp, .emp]) (ds := (iot es.length).map .int) (fun d => match d with | .int i => if @decide (Brg es i) (Classical.propDecidable _) then some (.int i) else none | _ => none) ?_ ?_ ?_).trans ?_
    · simp [evSs, evS, evE, evA, evP, evO, evD, evI, asgT, asgTs, rdp, rds, rdsAll, frzd, frzE, thaw, callO, arsOf, arOf, iosOf, distinct, backOut, rvO, pick, bltV, cmpV, eqii, eqbb, eqstr, binV, negV, ixt, ixl, at0, at1, at2, at3, at4, at5, ix20, ix21, lk0, lk1, lk2, lk3, lk4, lk5, lk6, putv, slotOf, finF, rvOf, outsOf, runF, slOf, setAt, tyIs, isNon, seqV, Nat.blt, mulOk2]
    · simp [iot_len]; omega
    · intro d hd
      obtain ⟨i, hi, rfl⟩ := List.mem_map.mp hd
      obtain ⟨e, ms, h1, h2, h3, h4⟩ := at_ i hi
      have h2' : L2.atI (List.map prD es) i = some (.tuple [.int e.1, .int e.2]) := h2
      have inn := inner i
      have ml := mem_li e.2 ms
      have hdec : decide (e.2 ∈ ms) = !(@decide (Brg es i) (Classical.propDecidable _)) := by
        by_cases q : Brg es i
        · rw [decide_eq_false (fun z => h4.mp z q), @decide_eq_true _ (Classical.propDecidable _) q]; rfl
        · rw [decide_eq_true (h4.mpr q), @decide_eq_false _ (Classical.propDecidable _) q]; rfl
      rw [hdec] at ml
      generalize hB : @decide (Brg es i) (Classical.propDecidable _) = B at ml
      refine ⟨[.val (.list (es.map prD)), .val (.list ((iot es.length).map .int)), .val (.int i), .emp], B, [.val (.list (es.map prD)), .val (.list ((iot es.length).map .int)), .val (.int i), .emp], ?_, ?_, fun hb => ⟨by simp [wipeE], by simp [hb, hB]⟩, fun hb => ⟨.int i, [.val (.list (es.map prD)), .val (.list ((iot es.length).map .int)), .val (.int i), .emp], ?_, by simp [wipeE], by simp [hb, hB]⟩⟩
      · simp [evSs, evS, evE, evA, evP, evO, evD, evI, asgT, asgTs, rdp, rds, rdsAll, frzd, frzE, thaw, callO, arsOf, arOf, iosOf, distinct, backOut, rvO, pick, bltV, cmpV, eqii, eqbb, eqstr, binV, negV, ixt, ixl, at0, at1, at2, at3, at4, at5, ix20, ix21, lk0, lk1, lk2, lk3, lk4, lk5, lk6, putv, slotOf, finF, rvOf, outsOf, runF, slOf, setAt, tyIs, isNon, seqV, Nat.blt, mulOk2, wipeE]
      · simp [evSs, evS, evE, evA, evP, evO, evD, evI, asgT, asgTs, rdp, rds, rdsAll, frzd, frzE, thaw, callO, arsOf, arOf, iosOf, distinct, backOut, rvO, pick, bltV, cmpV, eqii, eqbb, eqstr, binV, negV, ixt, ixl, at0, at1, at2, at3, at4, at5, ix20, ix21, lk0, lk1, lk2, lk3, lk4, lk5, lk6, putv, slotOf, finF, rvOf, outsOf, runF, slOf, setAt, tyIs, isNon, seqV, Nat.blt, mulOk2, inn, h2', h3, ml]
      · simp [evSs, evS, evE, evA, evP, evO, evD, evI, asgT, asgTs, rdp, rds, rdsAll, frzd, frzE, thaw, callO, arsOf, arOf, iosOf, distinct, backOut, rvO, pick, bltV, cmpV, eqii, eqbb, eqstr, binV, negV, ixt, ixl, at0, at1, at2, at3, at4, at5, ix20, ix21, lk0, lk1, lk2, lk3, lk4, lk5, lk6, putv, slotOf, finF, rvOf, outsOf, runF, slOf, setAt, tyIs, isNon, seqV, Nat.blt, mulOk2]
    · rw [fmap_filter PyData.int _ (fun i => @decide (Brg es i) (Classical.propDecidable _)) PyData.int _ (fun p _ => rfl)]
      simp [backE, wipeE, valOnly]
  refine ⟨(iot es.length).filter fun i => @decide (Brg es i) (Classical.propDecidable _), ?_, fun b => ?_, Nat.le_trans (List.length_filter_le _ _) (by rw [iot_len]; exact Nat.le_refl _)⟩
  · rw [one (fn := ⟨1, 4, b__law_bridges⟩) rfl]
    refine runX rfl rfl ⟨.rt (.fr (((iot es.length).filter fun i => @decide (Brg es i) (Classical.propDecidable _)).map .int)) [.val (.list (es.map prD)), .val (.list ((iot es.length).map .int)), .emp, .emp], ?_, by simp [evSs, evS, evE, evA, evP, evO, evD, evI, asgT, asgTs, rdp, rds, rdsAll, frzd, frzE, thaw, callO, arsOf, arOf, iosOf, distinct, backOut, rvO, pick, bltV, cmpV, eqii, eqbb, eqstr, binV, negV, ixt, ixl, at0, at1, at2, at3, at4, at5, ix20, ix21, lk0, lk1, lk2, lk3, lk4, lk5, lk6, putv, slotOf, finF, rvOf, outsOf, runF, slOf, setAt, tyIs, isNon, seqV, Nat.blt, mulOk2]⟩
    unfold b__law_bridges
    show evSs (G (k + 1)) C0 (.cons _ _) [.val (.list (es.map prD)), .emp, .emp, .emp] = _
    rw [evSs, e1]
    dsimp only
    rw [evSs, evS, c]
  · rw [List.mem_filter]
    constructor
    · rintro ⟨h1, h2⟩; exact ⟨h1, @of_decide_eq_true _ (Classical.propDecidable _) h2⟩
    · rintro ⟨h1, h2⟩; exact ⟨h1, @decide_eq_true _ (Classical.propDecidable _) h2⟩
end
end K94

set_option Elab.async false
set_option linter.all false
set_option maxRecDepth 100000
set_option maxHeartbeats 4000000
namespace K94
open PySem Rf
def inN (n : Int) : D → Bool
  | .int i => decide (0 ≤ i) && decide (i < n)
  | _ => false
theorem inRg_inN (n : Int) (d : D) : inRg 0 (n - 1) d = inN n d := by
  cases d <;> simp [inRg, inN]
  rename_i i
  have : (i ≤ n - 1) = (i < n) := propext Int.le_sub_one_iff
  simp only [this]
theorem inN_int {n : Int} {d : D} (h : inN n d = true) : ∃ i, d = .int i ∧ 0 ≤ i ∧ i < n := by
  cases d <;> simp [inN] at h
  exact ⟨_, rfl, h⟩
theorem fmap_all {α : Type} (h : D → α) (ds : List D) : ds.filterMap (fun d => some (h d)) = ds.map h := by
  induction ds with
  | nil => rfl
  | cons a l ih => simp [ih]
def pairOk (n : Int) : D → Bool
  | .tuple [x, y] => inN n x && inN n y && (match x, y with | .int a, .int b => !decide (a = b) | _, _ => false)
  | _ => false
def prI : D → Option (Int × Int)
  | .tuple [.int a, .int b] => some (a, b)
  | _ => none
theorem pairOk_pr {n : Int} {d : D} (h : pairOk n d = true) : ∃ p : Int × Int, d = prD p ∧ prI d = some p ∧ 0 ≤ p.1 ∧ p.1 < n ∧ 0 ≤ p.2 ∧ p.2 < n ∧ p.1 ≠ p.2 := by
  unfold pairOk at h
  split at h
  · rename_i x y
    simp only [Bool.and_eq_true] at h
    obtain ⟨⟨h1, h2⟩, h3⟩ := h
    obtain ⟨a, rfl, a0, a1⟩ := inN_int h1
    obtain ⟨b, rfl, b0, b1⟩ := inN_int h2
    exact ⟨(a, b), rfl, rfl, a0, a1, b0, b1, by simpa using h3⟩
  · cases h
theorem prs_of {n : Int} : ∀ {xs : List D}, xs.all (pairOk n) = true → xs = (xs.filterMap prI).map prD ∧ (xs.filterMap prI).length = xs.length ∧ ∀ p ∈ xs.filterMap prI, 0 ≤ p.1 ∧ p.1 < n ∧ 0 ≤ p.2 ∧ p.2 < n ∧ p.1 ≠ p.2
  | [], _ => ⟨rfl, rfl, by simp⟩
  | d :: xs, h => by
    simp only [List.all_cons, Bool.and_eq_true] at h
    obtain ⟨p, h1, h2, h3⟩ := pairOk_pr h.1
    obtain ⟨i1, i2, i3⟩ := prs_of h.2
    simp only [List.filterMap_cons, h2]
    refine ⟨by rw [List.map_cons, ← i1, h1], by simp [i2], fun q hq => ?_⟩
    rcases List.mem_cons.mp hq with rfl | hq
    · exact h3
    · exact i3 q hq
theorem fmap_pr : ∀ ps : List (Int × Int), (ps.map prD).filterMap prI = ps
  | [] => rfl
  | p :: ps => by simp [prD, prI, fmap_pr ps]
noncomputable def planB (n : Int) (ls : List Lg) (v : D) : Bool := match seqV v with
  | some xs => decide (xs.length ≤ 24) && (xs.all (pairOk n) && @decide (∀ b ∈ iot (ls.map en ++ xs.filterMap prI).length, ¬ Brg (ls.map en ++ xs.filterMap prI) b) (Classical.propDecidable _))
  | none => false
theorem seqV_c {v : D} : seqV v = none ∨ ∃ xs, seqV v = some xs ∧ (v = .list xs ∨ v = .tuple xs) := by
  cases v <;> simp [seqV]
section
variable {k : Nat} {t : Str} {n s : Int} {ls : List Lg} {v : D} {xs : List D}
theorem lplan_all {d : D} {ds : List D} (hv : d = .list ds ∨ d = .tuple ds) (hz : ds.length ≤ 1000) : evE (G k) C0 e__law_is_plan_1 [.val (sv t n ls), .val v, .val d, .emp] = some (.fr (ds.map fun x => .bool (inN n x)), [.val (sv t n ls), .val v, .val d, .emp]) := by
  refine (lcE (e1 := [.val (sv t n ls), .val v, .val d, .emp]) (ds := ds) (fun x => some (.bool (inN n x))) ?_ (by omega) ?_).trans ?_
  · rcases hv with rfl | rfl <;> simp [evSs, evS, evE, evA, evP, evO, evD, evI, asgT, asgTs, rdp, rds, rdsAll, frzd, frzE, thaw, callO, arsOf, arOf, iosOf, distinct, backOut, rvO, pick, bltV, cmpV, eqii, eqbb, eqstr, binV, negV, ixt, ixl, at0, at1, at2, at3, at4, at5, ix20, ix21, lk0, lk1, lk2, lk3, lk4, lk5, lk6, putv, slotOf, finF, rvOf, outsOf, runF, slOf, setAt, tyIs, isNon, seqV, Nat.blt, mulOk2]
  · intro x hx
    refine ⟨[.val (sv t n ls), .val v, .val d, .val x], true, [.val (sv t n ls), .val v, .val d, .val x], ?_, ?_, by simp, fun _ => ⟨.bool (inN n x), [.val (sv t n ls), .val v, .val d, .val x], ?_, by simp [wipeE], rfl⟩⟩
    · simp [evSs, evS, evE, evA, evP, evO, evD, evI, asgT, asgTs, rdp, rds, rdsAll, frzd, frzE, thaw, callO, arsOf, arOf, iosOf, distinct, backOut, rvO, pick, bltV, cmpV, eqii, eqbb, eqstr, binV, negV, ixt, ixl, at0, at1, at2, at3, at4, at5, ix20, ix21, lk0, lk1, lk2, lk3, lk4, lk5, lk6, putv, slotOf, finF, rvOf, outsOf, runF, slOf, setAt, tyIs, isNon, seqV, Nat.blt, mulOk2, wipeE]
    · simp [evSs, evS, evE, evA, evP, evO, evD, evI, asgT, asgTs, rdp, rds, rdsAll, frzd, frzE, thaw, callO, arsOf, arOf, iosOf, distinct, backOut, rvO, pick, bltV, cmpV, eqii, eqbb, eqstr, binV, negV, ixt, ixl, at0, at1, at2, at3, at4, at5, ix20, ix21, lk0, lk1, lk2, lk3, lk4, lk5, lk6, putv, slotOf, finF, rvOf, outsOf, runF, slOf, setAt, tyIs, isNon, seqV, Nat.blt, mulOk2]
    · cases x <;> simp [evSs, evS, evE, evA, evP, evO, evD, evI, asgT, asgTs, rdp, rds, rdsAll, frzd, frzE, thaw, callO, arsOf, arOf, iosOf, distinct, backOut, rvO, pick, bltV, cmpV, eqii, eqbb, eqstr, binV, negV, ixt, ixl, at0, at1, at2, at3, at4, at5, ix20, ix21, lk0, lk1, lk2, lk3, lk4, lk5, lk6, putv, slotOf, finF, rvOf, outsOf, runF, slOf, setAt, tyIs, isNon, seqV, Nat.blt, mulOk2, sv2, inN]
      rename_i i
      by_cases q : 0 ≤ i <;> simp [evSs, evS, evE, evA, evP, evO, evD, evI, asgT, asgTs, rdp, rds, rdsAll, frzd, frzE, thaw, callO, arsOf, arOf, iosOf, distinct, backOut, rvO, pick, bltV, cmpV, eqii, eqbb, eqstr, binV, negV, ixt, ixl, at0, at1, at2, at3, at4, at5, ix20, ix21, lk0, lk1, lk2, lk3, lk4, lk5, lk6, putv, slotOf, finF, rvOf, outsOf, runF, slOf, setAt, tyIs, isNon, seqV, Nat.blt, mulOk2, sv2, q]
  · rw [fmap_all]; simp [backE, wipeE, valOnly]
theorem lplan_body {d : D} : ∃ fl, evSs (G k) C0 l__law_is_plan_2 [.val (sv t n ls), .val v, .val d, .emp] = some fl ∧ ((fl = .nx [.val (sv t n ls), .val v, .val d, .emp] ∧ pairOk n d = true) ∨ (∃ e, fl = .rt (.pu (.bool false)) e) ∧ pairOk n d = false) := by
  by_cases h : ∃ x y, d = .tuple [x, y]
  · obtain ⟨x, y, rfl⟩ := h
    have c := lplan_all (k := k) (t := t) (n := n) (ls := ls) (v := v) (d := .tuple [x, y]) (ds := [x, y]) (.inr rfl) (by simp)
    simp only [List.map_cons, List.map_nil] at c
    by_cases h1 : inN n x = true
    · by_cases h2 : inN n y = true
      · rw [h1, h2] at c
        obtain ⟨a, rfl, a0, a1⟩ := inN_int h1
        obtain ⟨b, rfl, b0, b1⟩ := inN_int h2
        by_cases e : a = b
        · subst e
          exact ⟨_, by (simp [evSs, evS, evE, evA, evP, evO, evD, evI, asgT, asgTs, rdp, rds, rdsAll, frzd, frzE, thaw, callO, arsOf, arOf, iosOf, distinct, backOut, rvO, pick, bltV, cmpV, eqii, eqbb, eqstr, binV, negV, ixt, ixl, at0, at1, at2, at3, at4, at5, ix20, ix21, lk0, lk1, lk2, lk3, lk4, lk5, lk6, putv, slotOf, finF, rvOf, outsOf, runF, slOf, setAt, tyIs, isNon, seqV, Nat.blt, mulOk2, l__law_is_plan_2, c, boolsOf]; rfl), .inr ⟨⟨_, rfl⟩, by simp [pairOk]⟩⟩
        · exact ⟨_, by (simp [evSs, evS, evE, evA, evP, evO, evD, evI, asgT, asgTs, rdp, rds, rdsAll, frzd, frzE, thaw, callO, arsOf, arOf, iosOf, distinct, backOut, rvO, pick, bltV, cmpV, eqii, eqbb, eqstr, binV, negV, ixt, ixl, at0, at1, at2, at3, at4, at5, ix20, ix21, lk0, lk1, lk2, lk3, lk4, lk5, lk6, putv, slotOf, finF, rvOf, outsOf, runF, slOf, setAt, tyIs, isNon, seqV, Nat.blt, mulOk2, l__law_is_plan_2, c, boolsOf, e] <;> rfl), .inl ⟨rfl, by simp [pairOk, e, h1, h2]⟩⟩
      · rw [Bool.not_eq_true] at h2
        rw [h1, h2] at c
        exact ⟨_, by (simp [evSs, evS, evE, evA, evP, evO, evD, evI, asgT, asgTs, rdp, rds, rdsAll, frzd, frzE, thaw, callO, arsOf, arOf, iosOf, distinct, backOut, rvO, pick, bltV, cmpV, eqii, eqbb, eqstr, binV, negV, ixt, ixl, at0, at1, at2, at3, at4, at5, ix20, ix21, lk0, lk1, lk2, lk3, lk4, lk5, lk6, putv, slotOf, finF, rvOf, outsOf, runF, slOf, setAt, tyIs, isNon, seqV, Nat.blt, mulOk2, l__law_is_plan_2, c, boolsOf]; rfl), .inr ⟨⟨_, rfl⟩, by simp [pairOk, h2]⟩⟩
    · rw [Bool.not_eq_true] at h1
      rw [h1] at c
      exact ⟨_, by (simp [evSs, evS, evE, evA, evP, evO, evD, evI, asgT, asgTs, rdp, rds, rdsAll, frzd, frzE, thaw, callO, arsOf, arOf, iosOf, distinct, backOut, rvO, pick, bltV, cmpV, eqii, eqbb, eqstr, binV, negV, ixt, ixl, at0, at1, at2, at3, at4, at5, ix20, ix21, lk0, lk1, lk2, lk3, lk4, lk5, lk6, putv, slotOf, finF, rvOf, outsOf, runF, slOf, setAt, tyIs, isNon, seqV, Nat.blt, mulOk2, l__law_is_plan_2, c, boolsOf]; rfl), .inr ⟨⟨_, rfl⟩, by simp [pairOk, h1]⟩⟩
  · have hp : pairOk n d = false := by
      unfold pairOk
      split
      · exact absurd ⟨_, _, rfl⟩ h
      · rfl
    refine ⟨.rt (.pu (.bool false)) [.val (sv t n ls), .val v, .val d, .emp], ?_, .inr ⟨⟨_, rfl⟩, hp⟩⟩
    cases d with
    | tuple ys =>
      match ys, h with
      | [], _ => simp [evSs, evS, evE, evA, evP, evO, evD, evI, asgT, asgTs, rdp, rds, rdsAll, frzd, frzE, thaw, callO, arsOf, arOf, iosOf, distinct, backOut, rvO, pick, bltV, cmpV, eqii, eqbb, eqstr, binV, negV, ixt, ixl, at0, at1, at2, at3, at4, at5, ix20, ix21, lk0, lk1, lk2, lk3, lk4, lk5, lk6, putv, slotOf, finF, rvOf, outsOf, runF, slOf, setAt, tyIs, isNon, seqV, Nat.blt, mulOk2, l__law_is_plan_2]
      | [x], _ => simp [evSs, evS, evE, evA, evP, evO, evD, evI, asgT, asgTs, rdp, rds, rdsAll, frzd, frzE, thaw, callO, arsOf, arOf, iosOf, distinct, backOut, rvO, pick, bltV, cmpV, eqii, eqbb, eqstr, binV, negV, ixt, ixl, at0, at1, at2, at3, at4, at5, ix20, ix21, lk0, lk1, lk2, lk3, lk4, lk5, lk6, putv, slotOf, finF, rvOf, outsOf, runF, slOf, setAt, tyIs, isNon, seqV, Nat.blt, mulOk2, l__law_is_plan_2]
      | [x, y], h => exact absurd ⟨x, y, rfl⟩ h
      | x :: y :: z :: r, _ =>
        have : ¬ ((r.length : Int) + 1 + 1 + 1 = 2) := by omega
        simp [evSs, evS, evE, evA, evP, evO, evD, evI, asgT, asgTs, rdp, rds, rdsAll, frzd, frzE, thaw, callO, arsOf, arOf, iosOf, distinct, backOut, rvO, pick, bltV, cmpV, eqii, eqbb, eqstr, binV, negV, ixt, ixl, at0, at1, at2, at3, at4, at5, ix20, ix21, lk0, lk1, lk2, lk3, lk4, lk5, lk6, putv, slotOf, finF, rvOf, outsOf, runF, slOf, setAt, tyIs, isNon, seqV, Nat.blt, mulOk2, l__law_is_plan_2, this]
    | _ => simp [evSs, evS, evE, evA, evP, evO, evD, evI, asgT, asgTs, rdp, rds, rdsAll, frzd, frzE, thaw, callO, arsOf, arOf, iosOf, distinct, backOut, rvO, pick, bltV, cmpV, eqii, eqbb, eqstr, binV, negV, ixt, ixl, at0, at1, at2, at3, at4, at5, ix20, ix21, lk0, lk1, lk2, lk3, lk4, lk5, lk6, putv, slotOf, finF, rvOf, outsOf, runF, slOf, setAt, tyIs, isNon, seqV, Nat.blt, mulOk2, l__law_is_plan_2]
theorem lplan_loop (hv : v = .list xs ∨ v = .tuple xs) : ∃ fl, evS (G k) C0 s__law_is_plan_3 [.val (sv t n ls), .val v, .emp, .emp] = some fl ∧ ((∃ s2, fl = .nx [.val (sv t n ls), .val v, s2, .emp] ∧ xs.all (pairOk n) = true) ∨ (∃ e, fl = .rt (.pu (.bool false)) e) ∧ xs.all (pairOk n) = false) := by
  refine foE (e1 := [.val (sv t n ls), .val v, .emp, .emp]) (ds := xs) (fun ds e => ∃ s2, e = [.val (sv t n ls), .val v, s2, .emp] ∧ xs.all (pairOk n) = ds.all (pairOk n)) _ rfl ?_ ⟨_, rfl, rfl⟩ ?_ ?_
  · rcases hv with rfl | rfl <;> simp [evSs, evS, evE, evA, evP, evO, evD, evI, asgT, asgTs, rdp, rds, rdsAll, frzd, frzE, thaw, callO, arsOf, arOf, iosOf, distinct, backOut, rvO, pick, bltV, cmpV, eqii, eqbb, eqstr, binV, negV, ixt, ixl, at0, at1, at2, at3, at4, at5, ix20, ix21, lk0, lk1, lk2, lk3, lk4, lk5, lk6, putv, slotOf, finF, rvOf, outsOf, runF, slOf, setAt, tyIs, isNon, seqV, Nat.blt, mulOk2]
  · rintro e ⟨s2, rfl, h⟩
    exact .inl ⟨s2, rfl, h⟩
  · rintro d ds e ⟨s2, rfl, h⟩
    obtain ⟨fl, h1, h2⟩ := lplan_body (k := k) (t := t) (n := n) (ls := ls) (v := v) (d := d)
    refine ⟨[.val (sv t n ls), .val v, .val d, .emp], fl, by simp [evSs, evS, evE, evA, evP, evO, evD, evI, asgT, asgTs, rdp, rds, rdsAll, frzd, frzE, thaw, callO, arsOf, arOf, iosOf, distinct, backOut, rvO, pick, bltV, cmpV, eqii, eqbb, eqstr, binV, negV, ixt, ixl, at0, at1, at2, at3, at4, at5, ix20, ix21, lk0, lk1, lk2, lk3, lk4, lk5, lk6, putv, slotOf, finF, rvOf, outsOf, runF, slOf, setAt, tyIs, isNon, seqV, Nat.blt, mulOk2], h1, ?_⟩
    rcases h2 with ⟨rfl, h2⟩ | ⟨⟨e, rfl⟩, h2⟩
    · exact ⟨_, rfl, by rw [h, List.all_cons, h2]; rfl⟩
    · exact .inr ⟨⟨e, rfl⟩, by rw [h, List.all_cons, h2]; rfl⟩
theorem lplan_r3 {FF : FT} {X : IE} {S v : D} {s2 : Sl} {AA BB : List D} {Q : Bool} (r2 : evE FF C0 X [.val S, .val v, s2, .emp] = some (.fr AA, [.val S, .val v, s2, .emp]))
  (b1 : FF i__law_bridges [.pu (.list AA)] = some (.fr BB, [])) (en0 : eqD (.list BB) (.list []) = some Q) : evS FF C0 (.ret (.cmp .eq (.call 4 (.cons X (.nil))) (.lst (.nil)))) [.val S, .val v, s2, .emp] = some (.rt (.pu (.bool Q)) [.val S, .val v, s2, .emp]) := by
  simp [evSs, evS, evE, evA, evP, evO, evD, evI, asgT, asgTs, rdp, rds, rdsAll, frzd, frzE, thaw, callO, arsOf, arOf, iosOf, distinct, backOut, rvO, pick, bltV, cmpV, eqii, eqbb, eqstr, binV, negV, ixt, ixl, at0, at1, at2, at3, at4, at5, ix20, ix21, lk0, lk1, lk2, lk3, lk4, lk5, lk6, putv, slotOf, finF, rvOf, outsOf, runF, slOf, setAt, tyIs, isNon, seqV, Nat.blt, mulOk2, r2, b1, en0]
theorem law_is_plan_ok (h : okS n ls) : G (k + 3) i__law_is_plan [.pu (sv t n ls), .pu v] = some (.pu (.bool (planB n ls v)), []) := by
  rw [one (fn := ⟨2, 4, b__law_is_plan⟩) rfl]
  rcases seqV_c (v := v) with h0 | ⟨xs, h0, hv⟩
  · have hp : planB n ls v = false := by unfold planB; rw [h0]
    rw [hp]
    generalize G (k + 2) = FF
    refine runX rfl rfl ⟨.rt (.pu (.bool false)) [.val (sv t n ls), .val v, .emp, .emp], ?_, by simp [evSs, evS, evE, evA, evP, evO, evD, evI, asgT, asgTs, rdp, rds, rdsAll, frzd, frzE, thaw, callO, arsOf, arOf, iosOf, distinct, backOut, rvO, pick, bltV, cmpV, eqii, eqbb, eqstr, binV, negV, ixt, ixl, at0, at1, at2, at3, at4, at5, ix20, ix21, lk0, lk1, lk2, lk3, lk4, lk5, lk6, putv, slotOf, finF, rvOf, outsOf, runF, slOf, setAt, tyIs, isNon, seqV, Nat.blt, mulOk2]⟩
    generalize sv t n ls = S
    cases v <;> simp [seqV] at h0 <;> simp [evSs, evS, evE, evA, evP, evO, evD, evI, asgT, asgTs, rdp, rds, rdsAll, frzd, frzE, thaw, callO, arsOf, arOf, iosOf, distinct, backOut, rvO, pick, bltV, cmpV, eqii, eqbb, eqstr, binV, negV, ixt, ixl, at0, at1, at2, at3, at4, at5, ix20, ix21, lk0, lk1, lk2, lk3, lk4, lk5, lk6, putv, slotOf, finF, rvOf, outsOf, runF, slOf, setAt, tyIs, isNon, seqV, Nat.blt, mulOk2, b__law_is_plan]
  · by_cases hz : xs.length ≤ 24
    · obtain ⟨fl, l1, l2⟩ := lplan_loop (k := k + 2) (t := t) (n := n) (ls := ls) hv
      have hz' : ¬ (24 < (xs.length : Int)) := by omega
      rcases l2 with ⟨s2, rfl, l2⟩ | ⟨⟨e, rfl⟩, l2⟩
      · obtain ⟨i1, i2, i3⟩ := prs_of l2
        generalize xs.filterMap prI = ps at i1 i2 i3
        have he : okE n (ls.map en ++ ps) := fun e he => by
          rcases List.mem_append.mp he with he | he
          · exact h.es e he
          · have := i3 e he; exact ⟨this.1, this.2.1, this.2.2.1, this.2.2.2.1⟩
        have hln := h.ln
        have hn2 := h.n2
        have eo := ends_of_ok (k := k + 1) (t := t) (n := n) (ls := ls) (by omega)
        obtain ⟨bs, b1, b2, _⟩ := law_bridges_ok (k := k) (n := n) he (by omega) (by simp; omega)
        rw [List.map_append, ← i1] at b1
        have z1 : lenOk (((ls.map en).map prD).length + xs.length) = true := lenOk_of (by simp; omega)
        change G (k + 2) _ _ = _ at eo
        generalize (ls.map en).map prD = AA at eo b1 z1
        obtain ⟨Q, en0, hQ⟩ : ∃ Q, eqD (.list (bs.map .int)) (.list []) = some Q ∧ (Q = true ↔ bs = []) := ⟨_, eq_nilI bs, decide_eq_true_iff⟩
        have hp : planB n ls v = Q := by
          have i4 : xs.filterMap prI = ps := by rw [i1]; exact (fmap_pr ps)
          have l3 : xs.all (pairOk n) = true := l2
          unfold planB
          rw [h0]
          dsimp only
          rw [i4, l3, decide_eq_true hz, Bool.true_and, Bool.true_and]
          by_cases q : bs = []
          · rw [hQ.mpr q]
            refine @decide_eq_true _ (Classical.propDecidable _) fun b hb hB => ?_
            have := (b2 b).mpr ⟨hb, hB⟩
            rw [q] at this; cases this
          · rw [Bool.eq_false_iff.mpr fun z => q (hQ.mp z)]
            refine @decide_eq_false _ (Classical.propDecidable _) fun hb => q ?_
            exact List.eq_nil_iff_forall_not_mem.mpr fun b hB => hb b ((b2 b).mp hB).1 ((b2 b).mp hB).2
        rw [hp]
        generalize sv t n ls = S at eo l1 ⊢
        generalize bs.map PyData.int = BB at b1 en0
        (first | (change G (k + 2) _ _ = _ at l1) | skip); (first | (change G (k + 2) _ _ = _ at eo) | skip); (first | (change G (k + 2) _ _ = _ at b1) | skip); generalize G (k + 2) = FF at l1 eo b1 ⊢
        have r1 : evS FF C0 (.ite (.or2 (.nt (.isi (.var 1) [.list, .tuple])) (.cmp .gt (.blt .len (.cons (.var 1) (.nil))) (.cst (.int 24)))) (.cons (.ret (.cst (.bool false))) (.nil)) (.nil)) [.val S, .val v, .emp, .emp] = some (.nx [.val S, .val v, .emp, .emp]) := by
          rcases hv with rfl | rfl <;> simp [evSs, evS, evE, evA, evP, evO, evD, evI, asgT, asgTs, rdp, rds, rdsAll, frzd, frzE, thaw, callO, arsOf, arOf, iosOf, distinct, backOut, rvO, pick, bltV, cmpV, eqii, eqbb, eqstr, binV, negV, ixt, ixl, at0, at1, at2, at3, at4, at5, ix20, ix21, lk0, lk1, lk2, lk3, lk4, lk5, lk6, putv, slotOf, finF, rvOf, outsOf, runF, slOf, setAt, tyIs, isNon, seqV, Nat.blt, mulOk2, hz']
        have r2 : evE FF C0 (.bin .add (.call 2 (.cons (.var 0) (.nil))) (.blt .list1 (.cons (.var 1) (.nil)))) [.val S, .val v, s2, .emp] = some (.fr (AA ++ xs), [.val S, .val v, s2, .emp]) := by
          rcases hv with rfl | rfl <;> simp [evSs, evS, evE, evA, evP, evO, evD, evI, asgT, asgTs, rdp, rds, rdsAll, frzd, frzE, thaw, callO, arsOf, arOf, iosOf, distinct, backOut, rvO, pick, bltV, cmpV, eqii, eqbb, eqstr, binV, negV, ixt, ixl, at0, at1, at2, at3, at4, at5, ix20, ix21, lk0, lk1, lk2, lk3, lk4, lk5, lk6, putv, slotOf, finF, rvOf, outsOf, runF, slOf, setAt, tyIs, isNon, seqV, Nat.blt, mulOk2, eo, z1]
        generalize hX : (IE.bin .add (.call 2 (.cons (.var 0) (.nil))) (.blt .list1 (.cons (.var 1) (.nil)))) = X at r2
        have r3 : evS FF C0 (.ret (.cmp .eq (.call 4 (.cons X (.nil))) (.lst (.nil)))) [.val S, .val v, s2, .emp] = some (.rt (.pu (.bool Q)) [.val S, .val v, s2, .emp]) := by
          exact lplan_r3 r2 b1 en0
        subst hX
        refine runX rfl rfl ⟨.rt (.pu (.bool Q)) [.val S, .val v, s2, .emp], ?_, by simp [evSs, evS, evE, evA, evP, evO, evD, evI, asgT, asgTs, rdp, rds, rdsAll, frzd, frzE, thaw, callO, arsOf, arOf, iosOf, distinct, backOut, rvO, pick, bltV, cmpV, eqii, eqbb, eqstr, binV, negV, ixt, ixl, at0, at1, at2, at3, at4, at5, ix20, ix21, lk0, lk1, lk2, lk3, lk4, lk5, lk6, putv, slotOf, finF, rvOf, outsOf, runF, slOf, setAt, tyIs, isNon, seqV, Nat.blt, mulOk2]⟩
        unfold b__law_is_plan
        show evSs FF C0 (.cons _ _) [.val S, .val v, .emp, .emp] = _
        rw [evSs, r1]
        dsimp only
        rw [evSs, l1]
        dsimp only
        rw [evSs, r3]
      · have hp : planB n ls v = false := by unfold planB; rw [h0]; simp [l2]
        rw [hp]
        (first | (change G (k + 2) _ _ = _ at l1) | skip); generalize G (k + 2) = FF at l1 ⊢
        refine runX rfl rfl ⟨.rt (.pu (.bool false)) e, ?_, by simp [evSs, evS, evE, evA, evP, evO, evD, evI, asgT, asgTs, rdp, rds, rdsAll, frzd, frzE, thaw, callO, arsOf, arOf, iosOf, distinct, backOut, rvO, pick, bltV, cmpV, eqii, eqbb, eqstr, binV, negV, ixt, ixl, at0, at1, at2, at3, at4, at5, ix20, ix21, lk0, lk1, lk2, lk3, lk4, lk5, lk6, putv, slotOf, finF, rvOf, outsOf, runF, slOf, setAt, tyIs, isNon, seqV, Nat.blt, mulOk2]⟩
        rcases hv with rfl | rfl <;> simp [evSs, evS, evE, evA, evP, evO, evD, evI, asgT, asgTs, rdp, rds, rdsAll, frzd, frzE, thaw, callO, arsOf, arOf, iosOf, distinct, backOut, rvO, pick, bltV, cmpV, eqii, eqbb, eqstr, binV, negV, ixt, ixl, at0, at1, at2, at3, at4, at5, ix20, ix21, lk0, lk1, lk2, lk3, lk4, lk5, lk6, putv, slotOf, finF, rvOf, outsOf, runF, slOf, setAt, tyIs, isNon, seqV, Nat.blt, mulOk2, b__law_is_plan, hz', l1]
    · have hp : planB n ls v = false := by unfold planB; rw [h0]; simp [hz]
      rw [hp]
      have hz' : 24 < (xs.length : Int) := by omega
      generalize G (k + 2) = FF
      generalize sv t n ls = S
      refine runX rfl rfl ⟨.rt (.pu (.bool false)) [.val S, .val v, .emp, .emp], ?_, by simp [evSs, evS, evE, evA, evP, evO, evD, evI, asgT, asgTs, rdp, rds, rdsAll, frzd, frzE, thaw, callO, arsOf, arOf, iosOf, distinct, backOut, rvO, pick, bltV, cmpV, eqii, eqbb, eqstr, binV, negV, ixt, ixl, at0, at1, at2, at3, at4, at5, ix20, ix21, lk0, lk1, lk2, lk3, lk4, lk5, lk6, putv, slotOf, finF, rvOf, outsOf, runF, slOf, setAt, tyIs, isNon, seqV, Nat.blt, mulOk2]⟩
      rcases hv with rfl | rfl <;> simp [evSs, evS, evE, evA, evP, evO, evD, evI, asgT, asgTs, rdp, rds, rdsAll, frzd, frzE, thaw, callO, arsOf, arOf, iosOf, distinct, backOut, rvO, pick, bltV, cmpV, eqii, eqbb, eqstr, binV, negV, ixt, ixl, at0, at1, at2, at3, at4, at5, ix20, ix21, lk0, lk1, lk2, lk3, lk4, lk5, lk6, putv, slotOf, finF, rvOf, outsOf, runF, slOf, setAt, tyIs, isNon, seqV, Nat.blt, mulOk2, b__law_is_plan, hz']
/-! ### the program's -/
theorem nought_ok : G (k + 1) i_nought [.pu (.int 1)] = some (.pu (.tuple [.tuple [.int 0, .int 1]]), []) := by
  rw [one (fn := ⟨1, 1, b_nought⟩) rfl]
  simp [evSs, evS, evE, evA, evP, evO, evD, evI, asgT, asgTs, rdp, rds, rdsAll, frzd, frzE, thaw, callO, arsOf, arOf, iosOf, distinct, backOut, rvO, pick, bltV, cmpV, eqii, eqbb, eqstr, binV, negV, ixt, ixl, at0, at1, at2, at3, at4, at5, ix20, ix21, lk0, lk1, lk2, lk3, lk4, lk5, lk6, putv, slotOf, finF, rvOf, outsOf, runF, slOf, setAt, tyIs, isNon, seqV, Nat.blt, mulOk2, b_nought, c0, consts]
theorem with_pairs_ok {ps : List (Int × Int)} (hv : v = .list (ps.map prD) ∨ v = .tuple (ps.map prD)) (hz : ls.length + ps.length ≤ 1000) : G (k + 2) i_with_pairs [.pu (sv t n ls), .pu v] = some (.pu (sv t n (ls ++ ps.map fun p => (0, p.1, p.2))), []) := by
  rw [one (fn := ⟨2, 6, b_with_pairs⟩) rfl]
  have no := nought_ok (k := k)
  have c : evE (G (k + 1)) C0 e_with_pairs_1 [.val (sv t n ls), .val v, .val (.tuple [.tuple [.int 0, .int 1]]), .emp, .emp, .emp] = some (.fr ((ps.map fun p => (0, p.1, p.2)).map lgD), [.val (sv t n ls), .val v, .val (.tuple [.tuple [.int 0, .int 1]]), .emp, .emp, .emp]) := by
    refine (lcE (e1 := [.val (sv t n ls), .val v, .val (.tuple [.tuple [.int 0, .int 1]]), .emp, .emp, .emp]) (ds := ps.map prD) (fun d => match d with | .tuple [.int a, .int b] => some (lgD (0, a, b)) | _ => none) ?_ (by simp; omega) ?_).trans ?_
    · rcases hv with rfl | rfl <;> simp [evSs, evS, evE, evA, evP, evO, evD, evI, asgT, asgTs, rdp, rds, rdsAll, frzd, frzE, thaw, callO, arsOf, arOf, iosOf, distinct, backOut, rvO, pick, bltV, cmpV, eqii, eqbb, eqstr, binV, negV, ixt, ixl, at0, at1, at2, at3, at4, at5, ix20, ix21, lk0, lk1, lk2, lk3, lk4, lk5, lk6, putv, slotOf, finF, rvOf, outsOf, runF, slOf, setAt, tyIs, isNon, seqV, Nat.blt, mulOk2]
    · intro x hx
      obtain ⟨p, hp, rfl⟩ := List.mem_map.mp hx
      refine ⟨[.val (sv t n ls), .val v, .val (.tuple [.tuple [.int 0, .int 1]]), .emp, .val (.int p.1), .val (.int p.2)], true, [.val (sv t n ls), .val v, .val (.tuple [.tuple [.int 0, .int 1]]), .emp, .val (.int p.1), .val (.int p.2)], ?_, ?_, by simp, fun _ => ⟨lgD (0, p.1, p.2), [.val (sv t n ls), .val v, .val (.tuple [.tuple [.int 0, .int 1]]), .emp, .val (.int p.1), .val (.int p.2)], ?_, by simp [wipeE], rfl⟩⟩
      · simp [evSs, evS, evE, evA, evP, evO, evD, evI, asgT, asgTs, rdp, rds, rdsAll, frzd, frzE, thaw, callO, arsOf, arOf, iosOf, distinct, backOut, rvO, pick, bltV, cmpV, eqii, eqbb, eqstr, binV, negV, ixt, ixl, at0, at1, at2, at3, at4, at5, ix20, ix21, lk0, lk1, lk2, lk3, lk4, lk5, lk6, putv, slotOf, finF, rvOf, outsOf, runF, slOf, setAt, tyIs, isNon, seqV, Nat.blt, mulOk2, wipeE, prD]
      · simp [evSs, evS, evE, evA, evP, evO, evD, evI, asgT, asgTs, rdp, rds, rdsAll, frzd, frzE, thaw, callO, arsOf, arOf, iosOf, distinct, backOut, rvO, pick, bltV, cmpV, eqii, eqbb, eqstr, binV, negV, ixt, ixl, at0, at1, at2, at3, at4, at5, ix20, ix21, lk0, lk1, lk2, lk3, lk4, lk5, lk6, putv, slotOf, finF, rvOf, outsOf, runF, slOf, setAt, tyIs, isNon, seqV, Nat.blt, mulOk2]
      · simp [evSs, evS, evE, evA, evP, evO, evD, evI, asgT, asgTs, rdp, rds, rdsAll, frzd, frzE, thaw, callO, arsOf, arOf, iosOf, distinct, backOut, rvO, pick, bltV, cmpV, eqii, eqbb, eqstr, binV, negV, ixt, ixl, at0, at1, at2, at3, at4, at5, ix20, ix21, lk0, lk1, lk2, lk3, lk4, lk5, lk6, putv, slotOf, finF, rvOf, outsOf, runF, slOf, setAt, tyIs, isNon, seqV, Nat.blt, mulOk2, lgD, c0, consts]
    · rw [fmap_some prD _ (fun p => lgD (0, p.1, p.2)) ps (fun _ _ => rfl), List.map_map]
      simp [backE, wipeE, valOnly, Function.comp_def]
  have z1 : lenOk ((ls.map lgD).length + ((ps.map fun p => ((0 : Int), p.1, p.2)).map lgD).length) = true := lenOk_of (by simp; omega)
  have e0 : sv t n (ls ++ ps.map fun p => (0, p.1, p.2)) = .tuple [.str t, .int 1, .int n, .tuple (ls.map lgD ++ (ps.map fun p => ((0 : Int), p.1, p.2)).map lgD)] := by rw [sv_eq, List.map_append]
  have s0 := sv0 (t := t) (n := n) (ls := ls)
  have s1 := sv1 (t := t) (n := n) (ls := ls)
  have s2 := sv2 (t := t) (n := n) (ls := ls)
  have s3 := sv3 (t := t) (n := n) (ls := ls)
  change G (k + 1) _ _ = _ at no
  rw [e0]
  generalize (ps.map fun p => ((0 : Int), p.1, p.2)).map lgD = AA at c z1 ⊢
  generalize ls.map lgD = BB at s3 z1 ⊢
  simp [evSs, evS, evE, evA, evP, evO, evD, evI, asgT, asgTs, rdp, rds, rdsAll, frzd, frzE, thaw, callO, arsOf, arOf, iosOf, distinct, backOut, rvO, pick, bltV, cmpV, eqii, eqbb, eqstr, binV, negV, ixt, ixl, at0, at1, at2, at3, at4, at5, ix20, ix21, lk0, lk1, lk2, lk3, lk4, lk5, lk6, putv, slotOf, finF, rvOf, outsOf, runF, slOf, setAt, tyIs, isNon, seqV, Nat.blt, mulOk2, b_with_pairs, s0, s1, s2, s3, no, c, z1]
theorem pairs_all1 (hv : v = .list xs ∨ v = .tuple xs) (hz : xs.length ≤ 1000) : evE (G (k + 1)) C0 e_are_pairs_4 [.val (sv t n ls), .val v, .emp, .emp] = some (.fr (xs.map fun x => .bool (isTup 2 x)), [.val (sv t n ls), .val v, .emp, .emp]) := by
  refine (lcE (e1 := [.val (sv t n ls), .val v, .emp, .emp]) (ds := xs) (fun x => some (.bool (isTup 2 x))) ?_ (by omega) ?_).trans ?_
  · rcases hv with rfl | rfl <;> simp [evSs, evS, evE, evA, evP, evO, evD, evI, asgT, asgTs, rdp, rds, rdsAll, frzd, frzE, thaw, callO, arsOf, arOf, iosOf, distinct, backOut, rvO, pick, bltV, cmpV, eqii, eqbb, eqstr, binV, negV, ixt, ixl, at0, at1, at2, at3, at4, at5, ix20, ix21, lk0, lk1, lk2, lk3, lk4, lk5, lk6, putv, slotOf, finF, rvOf, outsOf, runF, slOf, setAt, tyIs, isNon, seqV, Nat.blt, mulOk2]
  · intro x hx
    have it := is_tuple_ok (k := k) (d := x) (n := 2)
    refine ⟨[.val (sv t n ls), .val v, .val x, .emp], true, [.val (sv t n ls), .val v, .val x, .emp], ?_, ?_, by simp, fun _ => ⟨.bool (isTup 2 x), [.val (sv t n ls), .val v, .val x, .emp], ?_, by simp [wipeE], rfl⟩⟩
    · simp [evSs, evS, evE, evA, evP, evO, evD, evI, asgT, asgTs, rdp, rds, rdsAll, frzd, frzE, thaw, callO, arsOf, arOf, iosOf, distinct, backOut, rvO, pick, bltV, cmpV, eqii, eqbb, eqstr, binV, negV, ixt, ixl, at0, at1, at2, at3, at4, at5, ix20, ix21, lk0, lk1, lk2, lk3, lk4, lk5, lk6, putv, slotOf, finF, rvOf, outsOf, runF, slOf, setAt, tyIs, isNon, seqV, Nat.blt, mulOk2, wipeE]
    · simp [evSs, evS, evE, evA, evP, evO, evD, evI, asgT, asgTs, rdp, rds, rdsAll, frzd, frzE, thaw, callO, arsOf, arOf, iosOf, distinct, backOut, rvO, pick, bltV, cmpV, eqii, eqbb, eqstr, binV, negV, ixt, ixl, at0, at1, at2, at3, at4, at5, ix20, ix21, lk0, lk1, lk2, lk3, lk4, lk5, lk6, putv, slotOf, finF, rvOf, outsOf, runF, slOf, setAt, tyIs, isNon, seqV, Nat.blt, mulOk2]
    · simp [evSs, evS, evE, evA, evP, evO, evD, evI, asgT, asgTs, rdp, rds, rdsAll, frzd, frzE, thaw, callO, arsOf, arOf, iosOf, distinct, backOut, rvO, pick, bltV, cmpV, eqii, eqbb, eqstr, binV, negV, ixt, ixl, at0, at1, at2, at3, at4, at5, ix20, ix21, lk0, lk1, lk2, lk3, lk4, lk5, lk6, putv, slotOf, finF, rvOf, outsOf, runF, slOf, setAt, tyIs, isNon, seqV, Nat.blt, mulOk2, it]
  · rw [fmap_all]; simp [backE, wipeE, valOnly]
theorem pairs_all2 {d : D} {ds : List D} (hv : d = .list ds ∨ d = .tuple ds) (hz : ds.length ≤ 1000) : evE (G (k + 2)) C0 e_are_pairs_1 [.val (sv t n ls), .val v, .val d, .emp] = some (.fr (ds.map fun x => .bool (inN n x)), [.val (sv t n ls), .val v, .val d, .emp]) := by
  refine (lcE (e1 := [.val (sv t n ls), .val v, .val d, .emp]) (ds := ds) (fun x => some (.bool (inN n x))) ?_ (by omega) ?_).trans ?_
  · rcases hv with rfl | rfl <;> simp [evSs, evS, evE, evA, evP, evO, evD, evI, asgT, asgTs, rdp, rds, rdsAll, frzd, frzE, thaw, callO, arsOf, arOf, iosOf, distinct, backOut, rvO, pick, bltV, cmpV, eqii, eqbb, eqstr, binV, negV, ixt, ixl, at0, at1, at2, at3, at4, at5, ix20, ix21, lk0, lk1, lk2, lk3, lk4, lk5, lk6, putv, slotOf, finF, rvOf, outsOf, runF, slOf, setAt, tyIs, isNon, seqV, Nat.blt, mulOk2]
  · intro x hx
    have w := is_within_ok (k := k) (d := x) (lo := 0) (hi := n - 1)
    rw [inRg_inN] at w
    refine ⟨[.val (sv t n ls), .val v, .val d, .val x], true, [.val (sv t n ls), .val v, .val d, .val x], ?_, ?_, by simp, fun _ => ⟨.bool (inN n x), [.val (sv t n ls), .val v, .val d, .val x], ?_, by simp [wipeE], rfl⟩⟩
    · simp [evSs, evS, evE, evA, evP, evO, evD, evI, asgT, asgTs, rdp, rds, rdsAll, frzd, frzE, thaw, callO, arsOf, arOf, iosOf, distinct, backOut, rvO, pick, bltV, cmpV, eqii, eqbb, eqstr, binV, negV, ixt, ixl, at0, at1, at2, at3, at4, at5, ix20, ix21, lk0, lk1, lk2, lk3, lk4, lk5, lk6, putv, slotOf, finF, rvOf, outsOf, runF, slOf, setAt, tyIs, isNon, seqV, Nat.blt, mulOk2, wipeE]
    · simp [evSs, evS, evE, evA, evP, evO, evD, evI, asgT, asgTs, rdp, rds, rdsAll, frzd, frzE, thaw, callO, arsOf, arOf, iosOf, distinct, backOut, rvO, pick, bltV, cmpV, eqii, eqbb, eqstr, binV, negV, ixt, ixl, at0, at1, at2, at3, at4, at5, ix20, ix21, lk0, lk1, lk2, lk3, lk4, lk5, lk6, putv, slotOf, finF, rvOf, outsOf, runF, slOf, setAt, tyIs, isNon, seqV, Nat.blt, mulOk2]
    · simp [evSs, evS, evE, evA, evP, evO, evD, evI, asgT, asgTs, rdp, rds, rdsAll, frzd, frzE, thaw, callO, arsOf, arOf, iosOf, distinct, backOut, rvO, pick, bltV, cmpV, eqii, eqbb, eqstr, binV, negV, ixt, ixl, at0, at1, at2, at3, at4, at5, ix20, ix21, lk0, lk1, lk2, lk3, lk4, lk5, lk6, putv, slotOf, finF, rvOf, outsOf, runF, slOf, setAt, tyIs, isNon, seqV, Nat.blt, mulOk2, sv2, w]
  · rw [fmap_all]; simp [backE, wipeE, valOnly]
theorem pairs_body {d : D} (ht : isTup 2 d = true) : ∃ fl, evSs (G (k + 2)) C0 l_are_pairs_2 [.val (sv t n ls), .val v, .val d, .emp] = some fl ∧ ((fl = .nx [.val (sv t n ls), .val v, .val d, .emp] ∧ pairOk n d = true) ∨ (∃ e, fl = .rt (.pu (.bool false)) e) ∧ pairOk n d = false) := by
  obtain ⟨x, y, rfl⟩ : ∃ x y, d = .tuple [x, y] := by
    cases d <;> simp [isTup] at ht
    rename_i ys
    match ys, ht with
    | [x, y], _ => exact ⟨x, y, rfl⟩
    | x :: y :: z :: r, h => simp at h; omega
  have c := pairs_all2 (k := k) (t := t) (n := n) (ls := ls) (v := v) (d := .tuple [x, y]) (ds := [x, y]) (.inr rfl) (by simp)
  simp only [List.map_cons, List.map_nil] at c
  by_cases h1 : inN n x = true
  · by_cases h2 : inN n y = true
    · rw [h1, h2] at c
      obtain ⟨a, rfl, a0, a1⟩ := inN_int h1
      obtain ⟨b, rfl, b0, b1⟩ := inN_int h2
      by_cases e : a = b
      · subst e
        exact ⟨_, by (simp [evSs, evS, evE, evA, evP, evO, evD, evI, asgT, asgTs, rdp, rds, rdsAll, frzd, frzE, thaw, callO, arsOf, arOf, iosOf, distinct, backOut, rvO, pick, bltV, cmpV, eqii, eqbb, eqstr, binV, negV, ixt, ixl, at0, at1, at2, at3, at4, at5, ix20, ix21, lk0, lk1, lk2, lk3, lk4, lk5, lk6, putv, slotOf, finF, rvOf, outsOf, runF, slOf, setAt, tyIs, isNon, seqV, Nat.blt, mulOk2, l_are_pairs_2, c, boolsOf] <;> rfl), .inr ⟨⟨_, rfl⟩, by simp [pairOk]⟩⟩
      · exact ⟨_, by (simp [evSs, evS, evE, evA, evP, evO, evD, evI, asgT, asgTs, rdp, rds, rdsAll, frzd, frzE, thaw, callO, arsOf, arOf, iosOf, distinct, backOut, rvO, pick, bltV, cmpV, eqii, eqbb, eqstr, binV, negV, ixt, ixl, at0, at1, at2, at3, at4, at5, ix20, ix21, lk0, lk1, lk2, lk3, lk4, lk5, lk6, putv, slotOf, finF, rvOf, outsOf, runF, slOf, setAt, tyIs, isNon, seqV, Nat.blt, mulOk2, l_are_pairs_2, c, boolsOf, e] <;> rfl), .inl ⟨rfl, by simp [pairOk, e, h1, h2]⟩⟩
    · rw [Bool.not_eq_true] at h2
      rw [h1, h2] at c
      exact ⟨_, by (simp [evSs, evS, evE, evA, evP, evO, evD, evI, asgT, asgTs, rdp, rds, rdsAll, frzd, frzE, thaw, callO, arsOf, arOf, iosOf, distinct, backOut, rvO, pick, bltV, cmpV, eqii, eqbb, eqstr, binV, negV, ixt, ixl, at0, at1, at2, at3, at4, at5, ix20, ix21, lk0, lk1, lk2, lk3, lk4, lk5, lk6, putv, slotOf, finF, rvOf, outsOf, runF, slOf, setAt, tyIs, isNon, seqV, Nat.blt, mulOk2, l_are_pairs_2, c, boolsOf] <;> rfl), .inr ⟨⟨_, rfl⟩, by simp [pairOk, h2]⟩⟩
  · rw [Bool.not_eq_true] at h1
    rw [h1] at c
    exact ⟨_, by (simp [evSs, evS, evE, evA, evP, evO, evD, evI, asgT, asgTs, rdp, rds, rdsAll, frzd, frzE, thaw, callO, arsOf, arOf, iosOf, distinct, backOut, rvO, pick, bltV, cmpV, eqii, eqbb, eqstr, binV, negV, ixt, ixl, at0, at1, at2, at3, at4, at5, ix20, ix21, lk0, lk1, lk2, lk3, lk4, lk5, lk6, putv, slotOf, finF, rvOf, outsOf, runF, slOf, setAt, tyIs, isNon, seqV, Nat.blt, mulOk2, l_are_pairs_2, c, boolsOf] <;> rfl), .inr ⟨⟨_, rfl⟩, by simp [pairOk, h1]⟩⟩
theorem pairs_loop (hv : v = .list xs ∨ v = .tuple xs) (ht : xs.all (isTup 2) = true) : ∃ fl, evS (G (k + 2)) C0 s_are_pairs_3 [.val (sv t n ls), .val v, .emp, .emp] = some fl ∧ ((∃ s2, fl = .nx [.val (sv t n ls), .val v, s2, .emp] ∧ xs.all (pairOk n) = true) ∨ (∃ e, fl = .rt (.pu (.bool false)) e) ∧ xs.all (pairOk n) = false) := by
  refine foE (e1 := [.val (sv t n ls), .val v, .emp, .emp]) (ds := xs) (fun ds e => ∃ s2, e = [.val (sv t n ls), .val v, s2, .emp] ∧ xs.all (pairOk n) = ds.all (pairOk n) ∧ ds.all (isTup 2) = true) _ rfl ?_ ⟨_, rfl, rfl, ht⟩ ?_ ?_
  · rcases hv with rfl | rfl <;> simp [evSs, evS, evE, evA, evP, evO, evD, evI, asgT, asgTs, rdp, rds, rdsAll, frzd, frzE, thaw, callO, arsOf, arOf, iosOf, distinct, backOut, rvO, pick, bltV, cmpV, eqii, eqbb, eqstr, binV, negV, ixt, ixl, at0, at1, at2, at3, at4, at5, ix20, ix21, lk0, lk1, lk2, lk3, lk4, lk5, lk6, putv, slotOf, finF, rvOf, outsOf, runF, slOf, setAt, tyIs, isNon, seqV, Nat.blt, mulOk2]
  · rintro e ⟨s2, rfl, h, _⟩
    exact .inl ⟨s2, rfl, h⟩
  · rintro d ds e ⟨s2, rfl, h, ht⟩
    simp only [List.all_cons, Bool.and_eq_true] at ht
    obtain ⟨fl, h1, h2⟩ := pairs_body (k := k) (t := t) (n := n) (ls := ls) (v := v) (d := d) ht.1
    refine ⟨[.val (sv t n ls), .val v, .val d, .emp], fl, by simp [evSs, evS, evE, evA, evP, evO, evD, evI, asgT, asgTs, rdp, rds, rdsAll, frzd, frzE, thaw, callO, arsOf, arOf, iosOf, distinct, backOut, rvO, pick, bltV, cmpV, eqii, eqbb, eqstr, binV, negV, ixt, ixl, at0, at1, at2, at3, at4, at5, ix20, ix21, lk0, lk1, lk2, lk3, lk4, lk5, lk6, putv, slotOf, finF, rvOf, outsOf, runF, slOf, setAt, tyIs, isNon, seqV, Nat.blt, mulOk2], h1, ?_⟩
    rcases h2 with ⟨rfl, h2⟩ | ⟨⟨e, rfl⟩, h2⟩
    · exact ⟨_, rfl, by rw [h, List.all_cons, h2]; rfl, ht.2⟩
    · exact .inr ⟨⟨e, rfl⟩, by rw [h, List.all_cons, h2]; rfl⟩
def pairsB (n : Int) (v : D) : Bool := match seqV v with
  | some xs => decide (xs.length ≤ 24) && xs.all (pairOk n)
  | none => false
theorem tup_of_pair {xs : List D} (h : xs.all (isTup 2) = false) : xs.all (pairOk n) = false := by
  rw [Bool.eq_false_iff] at h ⊢
  intro q
  refine h (List.all_eq_true.mpr fun x hx => ?_)
  obtain ⟨p, rfl, _⟩ := pairOk_pr (List.all_eq_true.mp q x hx)
  rfl
theorem are_pairs_ok : G (k + 3) i_are_pairs [.pu (sv t n ls), .pu v] = some (.pu (.bool (pairsB n v)), []) := by
  rw [one (fn := ⟨2, 4, b_are_pairs⟩) rfl]
  have il := is_list_ok (k := k + 1) (d := v)
  rcases seqV_c (v := v) with h0 | ⟨xs, h0, hv⟩
  · have hp : pairsB n v = false := by unfold pairsB; rw [h0]
    have hl : isLst v = false := by cases v <;> simp [seqV] at h0 <;> rfl
    rw [hp]
    rw [hl] at il
    refine runX rfl rfl ⟨.rt (.pu (.bool false)) [.val (sv t n ls), .val v, .emp, .emp], ?_, by simp [evSs, evS, evE, evA, evP, evO, evD, evI, asgT, asgTs, rdp, rds, rdsAll, frzd, frzE, thaw, callO, arsOf, arOf, iosOf, distinct, backOut, rvO, pick, bltV, cmpV, eqii, eqbb, eqstr, binV, negV, ixt, ixl, at0, at1, at2, at3, at4, at5, ix20, ix21, lk0, lk1, lk2, lk3, lk4, lk5, lk6, putv, slotOf, finF, rvOf, outsOf, runF, slOf, setAt, tyIs, isNon, seqV, Nat.blt, mulOk2]⟩
    simp [evSs, evS, evE, evA, evP, evO, evD, evI, asgT, asgTs, rdp, rds, rdsAll, frzd, frzE, thaw, callO, arsOf, arOf, iosOf, distinct, backOut, rvO, pick, bltV, cmpV, eqii, eqbb, eqstr, binV, negV, ixt, ixl, at0, at1, at2, at3, at4, at5, ix20, ix21, lk0, lk1, lk2, lk3, lk4, lk5, lk6, putv, slotOf, finF, rvOf, outsOf, runF, slOf, setAt, tyIs, isNon, seqV, Nat.blt, mulOk2, b_are_pairs, il]
  · have hl : isLst v = true := by rcases hv with rfl | rfl <;> rfl
    rw [hl] at il
    by_cases hz : xs.length ≤ 24
    · have hz' : ¬ (24 < (xs.length : Int)) := by omega
      have c1 := pairs_all1 (k := k + 1) (t := t) (n := n) (ls := ls) hv (by omega)
      have bm := bools_map (isTup 2) xs
      have ai := all_id (isTup 2) xs
      cases ht : xs.all (isTup 2) with
      | false =>
        have hp : pairsB n v = false := by unfold pairsB; rw [h0]; simp [tup_of_pair ht]
        rw [hp]
        rw [ht] at ai
        refine runX rfl rfl ⟨.rt (.pu (.bool false)) [.val (sv t n ls), .val v, .emp, .emp], ?_, by simp [evSs, evS, evE, evA, evP, evO, evD, evI, asgT, asgTs, rdp, rds, rdsAll, frzd, frzE, thaw, callO, arsOf, arOf, iosOf, distinct, backOut, rvO, pick, bltV, cmpV, eqii, eqbb, eqstr, binV, negV, ixt, ixl, at0, at1, at2, at3, at4, at5, ix20, ix21, lk0, lk1, lk2, lk3, lk4, lk5, lk6, putv, slotOf, finF, rvOf, outsOf, runF, slOf, setAt, tyIs, isNon, seqV, Nat.blt, mulOk2]⟩
        generalize hA : xs.map (isTup 2) = AA at bm ai
        generalize hB : (xs.map fun x => PyData.bool (isTup 2 x)) = BB at bm c1
        rcases hv with rfl | rfl <;> simp [evSs, evS, evE, evA, evP, evO, evD, evI, asgT, asgTs, rdp, rds, rdsAll, frzd, frzE, thaw, callO, arsOf, arOf, iosOf, distinct, backOut, rvO, pick, bltV, cmpV, eqii, eqbb, eqstr, binV, negV, ixt, ixl, at0, at1, at2, at3, at4, at5, ix20, ix21, lk0, lk1, lk2, lk3, lk4, lk5, lk6, putv, slotOf, finF, rvOf, outsOf, runF, slOf, setAt, tyIs, isNon, seqV, Nat.blt, mulOk2, b_are_pairs, il, hz', c1, bm, ai]
      | true =>
        rw [ht] at ai
        generalize hA : xs.map (isTup 2) = AA at bm ai
        generalize hB : (xs.map fun x => PyData.bool (isTup 2 x)) = BB at bm c1
        obtain ⟨fl, l1, l2⟩ := pairs_loop (k := k) (t := t) (n := n) (ls := ls) hv ht
        rcases l2 with ⟨s2, rfl, l2⟩ | ⟨⟨e, rfl⟩, l2⟩
        · have hp : pairsB n v = true := by unfold pairsB; rw [h0]; simp only [l2, decide_eq_true hz]; rfl
          rw [hp]
          refine runX rfl rfl ⟨.rt (.pu (.bool true)) [.val (sv t n ls), .val v, s2, .emp], ?_, by simp [evSs, evS, evE, evA, evP, evO, evD, evI, asgT, asgTs, rdp, rds, rdsAll, frzd, frzE, thaw, callO, arsOf, arOf, iosOf, distinct, backOut, rvO, pick, bltV, cmpV, eqii, eqbb, eqstr, binV, negV, ixt, ixl, at0, at1, at2, at3, at4, at5, ix20, ix21, lk0, lk1, lk2, lk3, lk4, lk5, lk6, putv, slotOf, finF, rvOf, outsOf, runF, slOf, setAt, tyIs, isNon, seqV, Nat.blt, mulOk2]⟩
          rcases hv with rfl | rfl <;> simp [evSs, evS, evE, evA, evP, evO, evD, evI, asgT, asgTs, rdp, rds, rdsAll, frzd, frzE, thaw, callO, arsOf, arOf, iosOf, distinct, backOut, rvO, pick, bltV, cmpV, eqii, eqbb, eqstr, binV, negV, ixt, ixl, at0, at1, at2, at3, at4, at5, ix20, ix21, lk0, lk1, lk2, lk3, lk4, lk5, lk6, putv, slotOf, finF, rvOf, outsOf, runF, slOf, setAt, tyIs, isNon, seqV, Nat.blt, mulOk2, b_are_pairs, il, hz', c1, bm, ai, l1]
        · have hp : pairsB n v = false := by unfold pairsB; rw [h0]; simp only [l2, Bool.and_false]
          rw [hp]
          refine runX rfl rfl ⟨.rt (.pu (.bool false)) e, ?_, by simp [evSs, evS, evE, evA, evP, evO, evD, evI, asgT, asgTs, rdp, rds, rdsAll, frzd, frzE, thaw, callO, arsOf, arOf, iosOf, distinct, backOut, rvO, pick, bltV, cmpV, eqii, eqbb, eqstr, binV, negV, ixt, ixl, at0, at1, at2, at3, at4, at5, ix20, ix21, lk0, lk1, lk2, lk3, lk4, lk5, lk6, putv, slotOf, finF, rvOf, outsOf, runF, slOf, setAt, tyIs, isNon, seqV, Nat.blt, mulOk2]⟩
          rcases hv with rfl | rfl <;> simp [evSs, evS, evE, evA, evP, evO, evD, evI, asgT, asgTs, rdp, rds, rdsAll, frzd, frzE, thaw, callO, arsOf, arOf, iosOf, distinct, backOut, rvO, pick, bltV, cmpV, eqii, eqbb, eqstr, binV, negV, ixt, ixl, at0, at1, at2, at3, at4, at5, ix20, ix21, lk0, lk1, lk2, lk3, lk4, lk5, lk6, putv, slotOf, finF, rvOf, outsOf, runF, slOf, setAt, tyIs, isNon, seqV, Nat.blt, mulOk2, b_are_pairs, il, hz', c1, bm, ai, l1]
    · have hp : pairsB n v = false := by unfold pairsB; rw [h0]; simp [hz]
      rw [hp]
      have hz' : 24 < (xs.length : Int) := by omega
      refine runX rfl rfl ⟨.rt (.pu (.bool false)) [.val (sv t n ls), .val v, .emp, .emp], ?_, by simp [evSs, evS, evE, evA, evP, evO, evD, evI, asgT, asgTs, rdp, rds, rdsAll, frzd, frzE, thaw, callO, arsOf, arOf, iosOf, distinct, backOut, rvO, pick, bltV, cmpV, eqii, eqbb, eqstr, binV, negV, ixt, ixl, at0, at1, at2, at3, at4, at5, ix20, ix21, lk0, lk1, lk2, lk3, lk4, lk5, lk6, putv, slotOf, finF, rvOf, outsOf, runF, slOf, setAt, tyIs, isNon, seqV, Nat.blt, mulOk2]⟩
      rcases hv with rfl | rfl <;> simp [evSs, evS, evE, evA, evP, evO, evD, evI, asgT, asgTs, rdp, rds, rdsAll, frzd, frzE, thaw, callO, arsOf, arOf, iosOf, distinct, backOut, rvO, pick, bltV, cmpV, eqii, eqbb, eqstr, binV, negV, ixt, ixl, at0, at1, at2, at3, at4, at5, ix20, ix21, lk0, lk1, lk2, lk3, lk4, lk5, lk6, putv, slotOf, finF, rvOf, outsOf, runF, slOf, setAt, tyIs, isNon, seqV, Nat.blt, mulOk2, b_are_pairs, il, hz']
theorem is_plan_ok (ht : t = "survey") (h : okS n ls) (hl : ls.length ≤ 30) : G (k + 8) i_is_plan [.pu (sv t n ls), .pu v] = some (.pu (.bool (planB n ls v)), []) := by
  rw [one (fn := ⟨2, 2, b_is_plan⟩) rfl]
  have ws := want_survey_ok (k := k) ht h
  have ap := are_pairs_ok (k := k + 4) (t := t) (n := n) (ls := ls) (v := v)
  change G (k + 7) _ _ = _ at ap
  rcases seqV_c (v := v) with h0 | ⟨xs, h0, hv⟩
  · have hp : planB n ls v = false := by unfold planB; rw [h0]
    have hq : pairsB n v = false := by unfold pairsB; rw [h0]
    rw [hp]
    rw [hq] at ap
    simp [evSs, evS, evE, evA, evP, evO, evD, evI, asgT, asgTs, rdp, rds, rdsAll, frzd, frzE, thaw, callO, arsOf, arOf, iosOf, distinct, backOut, rvO, pick, bltV, cmpV, eqii, eqbb, eqstr, binV, negV, ixt, ixl, at0, at1, at2, at3, at4, at5, ix20, ix21, lk0, lk1, lk2, lk3, lk4, lk5, lk6, putv, slotOf, finF, rvOf, outsOf, runF, slOf, setAt, tyIs, isNon, seqV, Nat.blt, mulOk2, b_is_plan, ws, ap]
  · cases hq : pairsB n v with
    | false =>
      have hp : planB n ls v = false := by
        unfold pairsB at hq; rw [h0] at hq
        unfold planB; rw [h0]
        dsimp only at hq ⊢
        rw [← Bool.and_assoc, hq, Bool.false_and]
      rw [hp]
      rw [hq] at ap
      simp [evSs, evS, evE, evA, evP, evO, evD, evI, asgT, asgTs, rdp, rds, rdsAll, frzd, frzE, thaw, callO, arsOf, arOf, iosOf, distinct, backOut, rvO, pick, bltV, cmpV, eqii, eqbb, eqstr, binV, negV, ixt, ixl, at0, at1, at2, at3, at4, at5, ix20, ix21, lk0, lk1, lk2, lk3, lk4, lk5, lk6, putv, slotOf, finF, rvOf, outsOf, runF, slOf, setAt, tyIs, isNon, seqV, Nat.blt, mulOk2, b_is_plan, ws, ap]
    | true =>
      rw [hq] at ap
      unfold pairsB at hq; rw [h0] at hq
      simp only [Bool.and_eq_true, decide_eq_true_eq] at hq
      obtain ⟨hz, l2⟩ := hq
      obtain ⟨i1, i2, i3⟩ := prs_of l2
      have i4 : xs.filterMap prI = xs.filterMap prI := rfl
      generalize hps : xs.filterMap prI = ps at i1 i2 i3 i4
      have hv' : v = .list (ps.map prD) ∨ v = .tuple (ps.map prD) := by rw [← i1]; exact hv
      have wp := with_pairs_ok (k := k + 5) (t := t) (n := n) (ls := ls) hv' (by omega)
      have hS : okS n (ls ++ ps.map fun p => ((0 : Int), p.1, p.2)) := ⟨h.n1, h.n2, by simp; omega, fun l hl => by
        rcases List.mem_append.mp hl with hl | hl
        · exact h.lg l hl
        · obtain ⟨p, hp, rfl⟩ := List.mem_map.mp hl
          obtain ⟨q1, q2, q3, q4, q5⟩ := i3 p hp
          exact ⟨by simp, by simp, q1, q2, q3, q4, q5⟩⟩
      obtain ⟨bs, b1, b2⟩ := bridges_of_ok (k := k + 3) (t := t) hS
      have hen : (ls ++ ps.map fun p => ((0 : Int), p.1, p.2)).map en = ls.map en ++ ps := by
        rw [List.map_append, List.map_map]
        congr 1
        simp [en, Function.comp_def]
      have hlen : (ls ++ ps.map fun p => ((0 : Int), p.1, p.2)).length = (ls.map en ++ ps).length := by simp
      rw [hen, hlen] at b2
      change G (k + 7) _ _ = _ at b1 wp
      have hp : planB n ls v = decide (bs = []) := by
        unfold planB
        rw [h0]
        dsimp only
        rw [hps, l2, decide_eq_true hz, Bool.true_and, Bool.true_and]
        by_cases q : bs = []
        · rw [decide_eq_true q]
          refine @decide_eq_true _ (Classical.propDecidable _) fun b hb hB => ?_
          have := (b2 b).mpr ⟨hb, hB⟩
          rw [q] at this; cases this
        · rw [decide_eq_false q]
          refine @decide_eq_false _ (Classical.propDecidable _) fun hb => q ?_
          exact List.eq_nil_iff_forall_not_mem.mpr fun b hB => hb b ((b2 b).mp hB).1 ((b2 b).mp hB).2
      rw [hp]
      have en0 := eq_ti bs []
      simp only [List.map_nil] at en0
      generalize sv t n (ls ++ ps.map fun p => ((0 : Int), p.1, p.2)) = S2 at wp b1
      generalize bs.map PyData.int = BB at b1 en0
      simp [evSs, evS, evE, evA, evP, evO, evD, evI, asgT, asgTs, rdp, rds, rdsAll, frzd, frzE, thaw, callO, arsOf, arOf, iosOf, distinct, backOut, rvO, pick, bltV, cmpV, eqii, eqbb, eqstr, binV, negV, ixt, ixl, at0, at1, at2, at3, at4, at5, ix20, ix21, lk0, lk1, lk2, lk3, lk4, lk5, lk6, putv, slotOf, finF, rvOf, outsOf, runF, slOf, setAt, tyIs, isNon, seqV, Nat.blt, mulOk2, b_is_plan, ws, ap, wp, b1, en0]
end
end K94

set_option Elab.async false
set_option linter.all false
set_option maxRecDepth 100000
set_option maxHeartbeats 4000000
namespace K94
open PySem Rf
/-! ### lots -/
def dI : D → Int
  | .int i => i
  | _ => 0
def pz : List Int → List (Int × Int)
  | a :: b :: r => (a, b) :: pz (b :: r)
  | _ => []
def rise (is : List Int) : Bool := (pz is).all fun p => decide (p.1 < p.2)
theorem cut1 (a : D) (r : List D) : cutL (a :: r) (some 1) none = r := by
  simp [cutL, HT.sIx]
theorem zip_pz : ∀ (a : Int) (r : List Int), zipL ((a :: r).map .int) (r.map .int) = (pz (a :: r)).map prD
  | a, [] => rfl
  | a, b :: r => by
    have := zip_pz b r
    simp only [List.map_cons] at this ⊢
    simp only [zipL, pz, List.map_cons, this]
    rfl
theorem zip_cut (is : List Int) : zipL (is.map .int) (cutL (is.map .int) (some 1) none) = (pz is).map prD := by
  cases is with
  | nil => rfl
  | cons a r => rw [List.map_cons, cut1, ← List.map_cons, zip_pz]
theorem pz_len : ∀ is : List Int, (pz is).length ≤ is.length
  | [] => Nat.zero_le _
  | [_] => Nat.zero_le _
  | a :: b :: r => by have := pz_len (b :: r); simp only [pz, List.length_cons] at this ⊢; omega
theorem rise_pw : ∀ {is : List Int}, rise is = true → is.Pairwise (· < ·)
  | [], _ => List.Pairwise.nil
  | [a], _ => by simp
  | a :: b :: r, h => by
    simp only [rise, pz, List.all_cons, Bool.and_eq_true, decide_eq_true_eq] at h
    have ih := rise_pw (is := b :: r) h.2
    refine List.Pairwise.cons (fun x hx => ?_) ih
    rcases List.mem_cons.mp hx with rfl | hx
    · exact h.1
    · exact Int.lt_trans h.1 ((List.pairwise_cons.mp ih).1 x hx)
theorem rise_nd {is : List Int} (h : rise is = true) : is.Nodup := by
  rw [List.nodup_iff_pairwise_ne]
  exact (rise_pw h).imp fun hab e => by subst e; exact Int.lt_irrefl _ hab
theorem ints_in {n : Int} : ∀ {xs : List D}, xs.all (inN n) = true → xs = (xs.map dI).map .int ∧ ∀ i ∈ xs.map dI, 0 ≤ i ∧ i < n
  | [], _ => ⟨rfl, by simp⟩
  | d :: xs, h => by
    simp only [List.all_cons, Bool.and_eq_true] at h
    obtain ⟨i, rfl, h1⟩ := inN_int h.1
    obtain ⟨g1, g2⟩ := ints_in h.2
    refine ⟨by rw [List.map_cons, List.map_cons, ← g1]; rfl, fun j hj => ?_⟩
    rw [List.map_cons] at hj
    rcases List.mem_cons.mp hj with rfl | hj
    · exact h1
    · exact g2 j hj
def lotI (d : D) : List Int := match seqV d with
  | some xs => xs.map dI
  | none => []
def isLotB (n : Int) (d : D) : Bool := match seqV d with
  | some xs => !decide (xs.length = 0) && (xs.all (inN n) && rise (xs.map dI))
  | none => false
def Lt (d : D) (is : List Int) : Prop := d = .list (is.map .int) ∨ d = .tuple (is.map .int)
theorem isLot_of {n : Int} {d : D} (h : isLotB n d = true) : Lt d (lotI d) ∧ (lotI d).Nodup ∧ (∀ i ∈ lotI d, 0 ≤ i ∧ i < n) := by
  unfold isLotB at h
  unfold lotI
  rcases seqV_c (v := d) with h0 | ⟨xs, h0, hv⟩
  · rw [h0] at h; cases h
  · rw [h0] at h ⊢
    simp only [Bool.and_eq_true] at h ⊢
    obtain ⟨_, h2, h3⟩ := h
    obtain ⟨g1, g2⟩ := ints_in h2
    refine ⟨?_, rise_nd h3, g2⟩
    unfold Lt
    rw [← g1]; exact hv
def sm1 (d : D) : Prop := ∀ xs, seqV d = some xs → xs.length ≤ 100
section
variable {k : Nat} {t : Str} {n s : Int} {ls : List Lg} {v d : D} {xs : List D} {is : List Int} {es : List (Int × Int)}
theorem llot_all (hv : v = .list xs ∨ v = .tuple xs) (hz : xs.length ≤ 100) : evE (G k) C0 e__law_is_lot_2 [.val (sv t n ls), .val v, .emp, .emp, .emp] = some (.fr (xs.map fun x => .bool (inN n x)), [.val (sv t n ls), .val v, .emp, .emp, .emp]) := by
  refine (lcE (e1 := [.val (sv t n ls), .val v, .emp, .emp, .emp]) (ds := xs) (fun x => some (.bool (inN n x))) ?_ (by omega) ?_).trans ?_
  · rcases hv with rfl | rfl <;> simp [evSs, evS, evE, evA, evP, evO, evD, evI, asgT, asgTs, rdp, rds, rdsAll, frzd, frzE, thaw, callO, arsOf, arOf, iosOf, distinct, backOut, rvO, pick, bltV, cmpV, eqii, eqbb, eqstr, binV, negV, ixt, ixl, at0, at1, at2, at3, at4, at5, ix20, ix21, lk0, lk1, lk2, lk3, lk4, lk5, lk6, putv, slotOf, finF, rvOf, outsOf, runF, slOf, setAt, tyIs, isNon, seqV, Nat.blt, mulOk2]
  · intro x hx
    refine ⟨[.val (sv t n ls), .val v, .val x, .emp, .emp], true, [.val (sv t n ls), .val v, .val x, .emp, .emp], ?_, ?_, by simp, fun _ => ⟨.bool (inN n x), [.val (sv t n ls), .val v, .val x, .emp, .emp], ?_, by simp [wipeE], rfl⟩⟩
    · simp [evSs, evS, evE, evA, evP, evO, evD, evI, asgT, asgTs, rdp, rds, rdsAll, frzd, frzE, thaw, callO, arsOf, arOf, iosOf, distinct, backOut, rvO, pick, bltV, cmpV, eqii, eqbb, eqstr, binV, negV, ixt, ixl, at0, at1, at2, at3, at4, at5, ix20, ix21, lk0, lk1, lk2, lk3, lk4, lk5, lk6, putv, slotOf, finF, rvOf, outsOf, runF, slOf, setAt, tyIs, isNon, seqV, Nat.blt, mulOk2, wipeE]
    · simp [evSs, evS, evE, evA, evP, evO, evD, evI, asgT, asgTs, rdp, rds, rdsAll, frzd, frzE, thaw, callO, arsOf, arOf, iosOf, distinct, backOut, rvO, pick, bltV, cmpV, eqii, eqbb, eqstr, binV, negV, ixt, ixl, at0, at1, at2, at3, at4, at5, ix20, ix21, lk0, lk1, lk2, lk3, lk4, lk5, lk6, putv, slotOf, finF, rvOf, outsOf, runF, slOf, setAt, tyIs, isNon, seqV, Nat.blt, mulOk2]
    · cases x <;> simp [evSs, evS, evE, evA, evP, evO, evD, evI, asgT, asgTs, rdp, rds, rdsAll, frzd, frzE, thaw, callO, arsOf, arOf, iosOf, distinct, backOut, rvO, pick, bltV, cmpV, eqii, eqbb, eqstr, binV, negV, ixt, ixl, at0, at1, at2, at3, at4, at5, ix20, ix21, lk0, lk1, lk2, lk3, lk4, lk5, lk6, putv, slotOf, finF, rvOf, outsOf, runF, slOf, setAt, tyIs, isNon, seqV, Nat.blt, mulOk2, sv2, inN]
      rename_i i
      by_cases q : 0 ≤ i <;> simp [evSs, evS, evE, evA, evP, evO, evD, evI, asgT, asgTs, rdp, rds, rdsAll, frzd, frzE, thaw, callO, arsOf, arOf, iosOf, distinct, backOut, rvO, pick, bltV, cmpV, eqii, eqbb, eqstr, binV, negV, ixt, ixl, at0, at1, at2, at3, at4, at5, ix20, ix21, lk0, lk1, lk2, lk3, lk4, lk5, lk6, putv, slotOf, finF, rvOf, outsOf, runF, slOf, setAt, tyIs, isNon, seqV, Nat.blt, mulOk2, sv2, q]
  · rw [fmap_all]; simp [backE, wipeE, valOnly]
theorem plot_all (hv : v = .list xs ∨ v = .tuple xs) (hz : xs.length ≤ 100) : evE (G (k + 2)) C0 e_are_stations_2 [.val (sv t n ls), .val v, .emp, .emp, .emp] = some (.fr (xs.map fun x => .bool (inN n x)), [.val (sv t n ls), .val v, .emp, .emp, .emp]) := by
  refine (lcE (e1 := [.val (sv t n ls), .val v, .emp, .emp, .emp]) (ds := xs) (fun x => some (.bool (inN n x))) ?_ (by omega) ?_).trans ?_
  · rcases hv with rfl | rfl <;> simp [evSs, evS, evE, evA, evP, evO, evD, evI, asgT, asgTs, rdp, rds, rdsAll, frzd, frzE, thaw, callO, arsOf, arOf, iosOf, distinct, backOut, rvO, pick, bltV, cmpV, eqii, eqbb, eqstr, binV, negV, ixt, ixl, at0, at1, at2, at3, at4, at5, ix20, ix21, lk0, lk1, lk2, lk3, lk4, lk5, lk6, putv, slotOf, finF, rvOf, outsOf, runF, slOf, setAt, tyIs, isNon, seqV, Nat.blt, mulOk2]
  · intro x hx
    have w := is_within_ok (k := k) (d := x) (lo := 0) (hi := n - 1)
    rw [inRg_inN] at w
    refine ⟨[.val (sv t n ls), .val v, .emp, .emp, .val x], true, [.val (sv t n ls), .val v, .emp, .emp, .val x], ?_, ?_, by simp, fun _ => ⟨.bool (inN n x), [.val (sv t n ls), .val v, .emp, .emp, .val x], ?_, by simp [wipeE], rfl⟩⟩
    · simp [evSs, evS, evE, evA, evP, evO, evD, evI, asgT, asgTs, rdp, rds, rdsAll, frzd, frzE, thaw, callO, arsOf, arOf, iosOf, distinct, backOut, rvO, pick, bltV, cmpV, eqii, eqbb, eqstr, binV, negV, ixt, ixl, at0, at1, at2, at3, at4, at5, ix20, ix21, lk0, lk1, lk2, lk3, lk4, lk5, lk6, putv, slotOf, finF, rvOf, outsOf, runF, slOf, setAt, tyIs, isNon, seqV, Nat.blt, mulOk2, wipeE]
    · simp [evSs, evS, evE, evA, evP, evO, evD, evI, asgT, asgTs, rdp, rds, rdsAll, frzd, frzE, thaw, callO, arsOf, arOf, iosOf, distinct, backOut, rvO, pick, bltV, cmpV, eqii, eqbb, eqstr, binV, negV, ixt, ixl, at0, at1, at2, at3, at4, at5, ix20, ix21, lk0, lk1, lk2, lk3, lk4, lk5, lk6, putv, slotOf, finF, rvOf, outsOf, runF, slOf, setAt, tyIs, isNon, seqV, Nat.blt, mulOk2]
    · simp [evSs, evS, evE, evA, evP, evO, evD, evI, asgT, asgTs, rdp, rds, rdsAll, frzd, frzE, thaw, callO, arsOf, arOf, iosOf, distinct, backOut, rvO, pick, bltV, cmpV, eqii, eqbb, eqstr, binV, negV, ixt, ixl, at0, at1, at2, at3, at4, at5, ix20, ix21, lk0, lk1, lk2, lk3, lk4, lk5, lk6, putv, slotOf, finF, rvOf, outsOf, runF, slOf, setAt, tyIs, isNon, seqV, Nat.blt, mulOk2, sv2, w]
  · rw [fmap_all]; simp [backE, wipeE, valOnly]
theorem llot_rise {S : D} (hv : Lt v is) (hz : is.length ≤ 100) : evE (G k) C0 e__law_is_lot_1 [.val S, .val v, .emp, .emp, .emp] = some (.fr ((pz is).map fun p => .bool (decide (p.1 < p.2))), [.val S, .val v, .emp, .emp, .emp]) := by
  have zc := zip_cut is
  refine (lcE (e1 := [.val S, .val v, .emp, .emp, .emp]) (ds := (pz is).map prD) (fun d => match d with | .tuple [.int a, .int b] => some (.bool (decide (a < b))) | _ => none) ?_ (by have := pz_len is; simp; omega) ?_).trans ?_
  · rcases hv with rfl | rfl <;> (generalize is.map PyData.int = ys at zc ⊢) <;> simp [evSs, evS, evE, evA, evP, evO, evD, evI, asgT, asgTs, rdp, rds, rdsAll, frzd, frzE, thaw, callO, arsOf, arOf, iosOf, distinct, backOut, rvO, pick, bltV, cmpV, eqii, eqbb, eqstr, binV, negV, ixt, ixl, at0, at1, at2, at3, at4, at5, ix20, ix21, lk0, lk1, lk2, lk3, lk4, lk5, lk6, putv, slotOf, finF, rvOf, outsOf, runF, slOf, setAt, tyIs, isNon, seqV, Nat.blt, mulOk2, slcV, zipV, zc]
  · intro x hx
    obtain ⟨p, hp, rfl⟩ := List.mem_map.mp hx
    refine ⟨[.val S, .val v, .emp, .val (.int p.1), .val (.int p.2)], true, [.val S, .val v, .emp, .val (.int p.1), .val (.int p.2)], ?_, ?_, by simp, fun _ => ⟨.bool (decide (p.1 < p.2)), [.val S, .val v, .emp, .val (.int p.1), .val (.int p.2)], ?_, by simp [wipeE], rfl⟩⟩
    · simp [evSs, evS, evE, evA, evP, evO, evD, evI, asgT, asgTs, rdp, rds, rdsAll, frzd, frzE, thaw, callO, arsOf, arOf, iosOf, distinct, backOut, rvO, pick, bltV, cmpV, eqii, eqbb, eqstr, binV, negV, ixt, ixl, at0, at1, at2, at3, at4, at5, ix20, ix21, lk0, lk1, lk2, lk3, lk4, lk5, lk6, putv, slotOf, finF, rvOf, outsOf, runF, slOf, setAt, tyIs, isNon, seqV, Nat.blt, mulOk2, wipeE, prD]
    · simp [evSs, evS, evE, evA, evP, evO, evD, evI, asgT, asgTs, rdp, rds, rdsAll, frzd, frzE, thaw, callO, arsOf, arOf, iosOf, distinct, backOut, rvO, pick, bltV, cmpV, eqii, eqbb, eqstr, binV, negV, ixt, ixl, at0, at1, at2, at3, at4, at5, ix20, ix21, lk0, lk1, lk2, lk3, lk4, lk5, lk6, putv, slotOf, finF, rvOf, outsOf, runF, slOf, setAt, tyIs, isNon, seqV, Nat.blt, mulOk2]
    · simp [evSs, evS, evE, evA, evP, evO, evD, evI, asgT, asgTs, rdp, rds, rdsAll, frzd, frzE, thaw, callO, arsOf, arOf, iosOf, distinct, backOut, rvO, pick, bltV, cmpV, eqii, eqbb, eqstr, binV, negV, ixt, ixl, at0, at1, at2, at3, at4, at5, ix20, ix21, lk0, lk1, lk2, lk3, lk4, lk5, lk6, putv, slotOf, finF, rvOf, outsOf, runF, slOf, setAt, tyIs, isNon, seqV, Nat.blt, mulOk2]
  · rw [fmap_some prD _ (fun p => .bool (decide (p.1 < p.2))) (pz is) (fun _ _ => rfl)]
    simp [backE, wipeE, valOnly]
theorem plot_rise {S : D} (hv : Lt v is) (hz : is.length ≤ 100) : evE (G k) C0 e_are_stations_1 [.val S, .val v, .emp, .emp, .emp] = some (.fr ((pz is).map fun p => .bool (decide (p.1 < p.2))), [.val S, .val v, .emp, .emp, .emp]) := by
  have zc := zip_cut is
  refine (lcE (e1 := [.val S, .val v, .emp, .emp, .emp]) (ds := (pz is).map prD) (fun d => match d with | .tuple [.int a, .int b] => some (.bool (decide (a < b))) | _ => none) ?_ (by have := pz_len is; simp; omega) ?_).trans ?_
  · rcases hv with rfl | rfl <;> (generalize is.map PyData.int = ys at zc ⊢) <;> simp [evSs, evS, evE, evA, evP, evO, evD, evI, asgT, asgTs, rdp, rds, rdsAll, frzd, frzE, thaw, callO, arsOf, arOf, iosOf, distinct, backOut, rvO, pick, bltV, cmpV, eqii, eqbb, eqstr, binV, negV, ixt, ixl, at0, at1, at2, at3, at4, at5, ix20, ix21, lk0, lk1, lk2, lk3, lk4, lk5, lk6, putv, slotOf, finF, rvOf, outsOf, runF, slOf, setAt, tyIs, isNon, seqV, Nat.blt, mulOk2, slcV, zipV, zc]
  · intro x hx
    obtain ⟨p, hp, rfl⟩ := List.mem_map.mp hx
    refine ⟨[.val S, .val v, .val (.int p.1), .val (.int p.2), .emp], true, [.val S, .val v, .val (.int p.1), .val (.int p.2), .emp], ?_, ?_, by simp, fun _ => ⟨.bool (decide (p.1 < p.2)), [.val S, .val v, .val (.int p.1), .val (.int p.2), .emp], ?_, by simp [wipeE], rfl⟩⟩
    · simp [evSs, evS, evE, evA, evP, evO, evD, evI, asgT, asgTs, rdp, rds, rdsAll, frzd, frzE, thaw, callO, arsOf, arOf, iosOf, distinct, backOut, rvO, pick, bltV, cmpV, eqii, eqbb, eqstr, binV, negV, ixt, ixl, at0, at1, at2, at3, at4, at5, ix20, ix21, lk0, lk1, lk2, lk3, lk4, lk5, lk6, putv, slotOf, finF, rvOf, outsOf, runF, slOf, setAt, tyIs, isNon, seqV, Nat.blt, mulOk2, wipeE, prD]
    · simp [evSs, evS, evE, evA, evP, evO, evD, evI, asgT, asgTs, rdp, rds, rdsAll, frzd, frzE, thaw, callO, arsOf, arOf, iosOf, distinct, backOut, rvO, pick, bltV, cmpV, eqii, eqbb, eqstr, binV, negV, ixt, ixl, at0, at1, at2, at3, at4, at5, ix20, ix21, lk0, lk1, lk2, lk3, lk4, lk5, lk6, putv, slotOf, finF, rvOf, outsOf, runF, slOf, setAt, tyIs, isNon, seqV, Nat.blt, mulOk2]
    · simp [evSs, evS, evE, evA, evP, evO, evD, evI, asgT, asgTs, rdp, rds, rdsAll, frzd, frzE, thaw, callO, arsOf, arOf, iosOf, distinct, backOut, rvO, pick, bltV, cmpV, eqii, eqbb, eqstr, binV, negV, ixt, ixl, at0, at1, at2, at3, at4, at5, ix20, ix21, lk0, lk1, lk2, lk3, lk4, lk5, lk6, putv, slotOf, finF, rvOf, outsOf, runF, slOf, setAt, tyIs, isNon, seqV, Nat.blt, mulOk2]
  · rw [fmap_some prD _ (fun p => .bool (decide (p.1 < p.2))) (pz is) (fun _ _ => rfl)]
    simp [backE, wipeE, valOnly]
theorem law_is_lot_ok (hs : sm1 v) : G (k + 1) i__law_is_lot [.pu (sv t n ls), .pu v] = some (.pu (.bool (isLotB n v)), []) := by
  rw [one (fn := ⟨2, 5, b__law_is_lot⟩) rfl]
  rcases seqV_c (v := v) with h0 | ⟨xs, h0, hv⟩
  · have hp : isLotB n v = false := by unfold isLotB; rw [h0]
    rw [hp]
    generalize G k = FF
    generalize sv t n ls = S
    cases v <;> simp [seqV] at h0 <;> simp [evSs, evS, evE, evA, evP, evO, evD, evI, asgT, asgTs, rdp, rds, rdsAll, frzd, frzE, thaw, callO, arsOf, arOf, iosOf, distinct, backOut, rvO, pick, bltV, cmpV, eqii, eqbb, eqstr, binV, negV, ixt, ixl, at0, at1, at2, at3, at4, at5, ix20, ix21, lk0, lk1, lk2, lk3, lk4, lk5, lk6, putv, slotOf, finF, rvOf, outsOf, runF, slOf, setAt, tyIs, isNon, seqV, Nat.blt, mulOk2, b__law_is_lot]
  · have hz := hs xs h0
    have c1 := llot_all (k := k) (t := t) (n := n) (ls := ls) hv hz
    have bm := bools_map (inN n) xs
    have ai := all_id (inN n) xs
    by_cases h1 : xs.length = 0
    · have hp : isLotB n v = false := by unfold isLotB; rw [h0]; simp [h1]
      have h1' : xs = [] := List.length_eq_zero_iff.mp h1
      subst h1'
      rw [hp]
      generalize sv t n ls = S
      clear c1
      generalize G k = FF
      rcases hv with rfl | rfl <;> simp [evSs, evS, evE, evA, evP, evO, evD, evI, asgT, asgTs, rdp, rds, rdsAll, frzd, frzE, thaw, callO, arsOf, arOf, iosOf, distinct, backOut, rvO, pick, bltV, cmpV, eqii, eqbb, eqstr, binV, negV, ixt, ixl, at0, at1, at2, at3, at4, at5, ix20, ix21, lk0, lk1, lk2, lk3, lk4, lk5, lk6, putv, slotOf, finF, rvOf, outsOf, runF, slOf, setAt, tyIs, isNon, seqV, Nat.blt, mulOk2, b__law_is_lot]
    · cases h2 : xs.all (inN n) with
      | false =>
        have hp : isLotB n v = false := by unfold isLotB; rw [h0]; simp only [h2, Bool.false_and, Bool.and_false]
        rw [hp]
        rw [h2] at ai
        have h1' : ¬ (xs = []) := fun e => h1 (by rw [e]; rfl)
        generalize xs.map (inN n) = AA at bm ai
        generalize (xs.map fun x => PyData.bool (inN n x)) = BB at bm c1
        generalize sv t n ls = S at c1 ⊢
        (first | (change G (k) _ _ = _ at c1) | skip); generalize G (k) = FF at c1 ⊢
        rcases hv with rfl | rfl <;> simp [evSs, evS, evE, evA, evP, evO, evD, evI, asgT, asgTs, rdp, rds, rdsAll, frzd, frzE, thaw, callO, arsOf, arOf, iosOf, distinct, backOut, rvO, pick, bltV, cmpV, eqii, eqbb, eqstr, binV, negV, ixt, ixl, at0, at1, at2, at3, at4, at5, ix20, ix21, lk0, lk1, lk2, lk3, lk4, lk5, lk6, putv, slotOf, finF, rvOf, outsOf, runF, slOf, setAt, tyIs, isNon, seqV, Nat.blt, mulOk2, b__law_is_lot, h1, h1', c1, bm, ai]
      | true =>
        rw [h2] at ai
        obtain ⟨g1, g2⟩ := ints_in h2
        have hp : isLotB n v = rise (xs.map dI) := by unfold isLotB; rw [h0]; simp only [h2, decide_eq_false h1]; rfl
        rw [hp]
        have c2 := llot_rise (k := k) (S := sv t n ls) (v := v) (is := xs.map dI) (by unfold Lt; rw [← g1]; exact hv) (by simpa using hz)
        have bm2 := bools_map (fun p : Int × Int => decide (p.1 < p.2)) (pz (xs.map dI))
        have ai2 := all_id (fun p : Int × Int => decide (p.1 < p.2)) (pz (xs.map dI))
        change _ = rise (xs.map dI) at ai2
        have h1' : ¬ (xs = []) := fun e => h1 (by rw [e]; rfl)
        generalize rise (xs.map dI) = R at ai2 ⊢
        generalize xs.map (inN n) = AA at bm ai
        generalize (xs.map fun x => PyData.bool (inN n x)) = BB at bm c1
        generalize ((pz (xs.map dI)).map fun p => decide (p.1 < p.2)) = AA2 at bm2 ai2
        generalize ((pz (xs.map dI)).map fun p => PyData.bool (decide (p.1 < p.2))) = BB2 at bm2 c2
        generalize sv t n ls = S at c1 c2 ⊢
        (first | (change G (k) _ _ = _ at c1) | skip); (first | (change G (k) _ _ = _ at c2) | skip); generalize G (k) = FF at c1 c2 ⊢
        rcases hv with rfl | rfl <;> simp [evSs, evS, evE, evA, evP, evO, evD, evI, asgT, asgTs, rdp, rds, rdsAll, frzd, frzE, thaw, callO, arsOf, arOf, iosOf, distinct, backOut, rvO, pick, bltV, cmpV, eqii, eqbb, eqstr, binV, negV, ixt, ixl, at0, at1, at2, at3, at4, at5, ix20, ix21, lk0, lk1, lk2, lk3, lk4, lk5, lk6, putv, slotOf, finF, rvOf, outsOf, runF, slOf, setAt, tyIs, isNon, seqV, Nat.blt, mulOk2, b__law_is_lot, h1, h1', c1, bm, ai, c2, bm2, ai2]
theorem are_stations_ok (hs : sm1 v) : G (k + 3) i_are_stations [.pu (sv t n ls), .pu v] = some (.pu (.bool (isLotB n v)), []) := by
  rw [one (fn := ⟨2, 5, b_are_stations⟩) rfl]
  have il := is_list_ok (k := k + 1) (d := v)
  change G (k + 2) _ _ = _ at il
  rcases seqV_c (v := v) with h0 | ⟨xs, h0, hv⟩
  · have hp : isLotB n v = false := by unfold isLotB; rw [h0]
    have hl : isLst v = false := by cases v <;> simp [seqV] at h0 <;> rfl
    rw [hp]
    rw [hl] at il
    generalize sv t n ls = S
    (first | (change G (k + 2) _ _ = _ at il) | skip); generalize G (k + 2) = FF at il ⊢
    simp [evSs, evS, evE, evA, evP, evO, evD, evI, asgT, asgTs, rdp, rds, rdsAll, frzd, frzE, thaw, callO, arsOf, arOf, iosOf, distinct, backOut, rvO, pick, bltV, cmpV, eqii, eqbb, eqstr, binV, negV, ixt, ixl, at0, at1, at2, at3, at4, at5, ix20, ix21, lk0, lk1, lk2, lk3, lk4, lk5, lk6, putv, slotOf, finF, rvOf, outsOf, runF, slOf, setAt, tyIs, isNon, seqV, Nat.blt, mulOk2, b_are_stations, il]
  · have hz := hs xs h0
    have hl : isLst v = true := by rcases hv with rfl | rfl <;> rfl
    rw [hl] at il
    have c1 := plot_all (k := k) (t := t) (n := n) (ls := ls) hv hz
    have bm := bools_map (inN n) xs
    have ai := all_id (inN n) xs
    by_cases h1 : xs.length = 0
    · have hp : isLotB n v = false := by unfold isLotB; rw [h0]; simp [h1]
      have h1' : xs = [] := List.length_eq_zero_iff.mp h1
      subst h1'
      rw [hp]
      generalize sv t n ls = S
      clear c1
      (first | (change G (k + 2) _ _ = _ at il) | skip); generalize G (k + 2) = FF at il ⊢
      rcases hv with rfl | rfl <;> simp [evSs, evS, evE, evA, evP, evO, evD, evI, asgT, asgTs, rdp, rds, rdsAll, frzd, frzE, thaw, callO, arsOf, arOf, iosOf, distinct, backOut, rvO, pick, bltV, cmpV, eqii, eqbb, eqstr, binV, negV, ixt, ixl, at0, at1, at2, at3, at4, at5, ix20, ix21, lk0, lk1, lk2, lk3, lk4, lk5, lk6, putv, slotOf, finF, rvOf, outsOf, runF, slOf, setAt, tyIs, isNon, seqV, Nat.blt, mulOk2, b_are_stations, il]
    · cases h2 : xs.all (inN n) with
      | false =>
        have hp : isLotB n v = false := by unfold isLotB; rw [h0]; simp only [h2, Bool.false_and, Bool.and_false]
        rw [hp]
        rw [h2] at ai
        have h1' : ¬ (xs = []) := fun e => h1 (by rw [e]; rfl)
        generalize xs.map (inN n) = AA at bm ai
        generalize (xs.map fun x => PyData.bool (inN n x)) = BB at bm c1
        generalize sv t n ls = S at c1 ⊢
        (first | (change G (k + 2) _ _ = _ at il) | skip); (first | (change G (k + 2) _ _ = _ at c1) | skip); generalize G (k + 2) = FF at il c1 ⊢
        rcases hv with rfl | rfl <;> simp [evSs, evS, evE, evA, evP, evO, evD, evI, asgT, asgTs, rdp, rds, rdsAll, frzd, frzE, thaw, callO, arsOf, arOf, iosOf, distinct, backOut, rvO, pick, bltV, cmpV, eqii, eqbb, eqstr, binV, negV, ixt, ixl, at0, at1, at2, at3, at4, at5, ix20, ix21, lk0, lk1, lk2, lk3, lk4, lk5, lk6, putv, slotOf, finF, rvOf, outsOf, runF, slOf, setAt, tyIs, isNon, seqV, Nat.blt, mulOk2, b_are_stations, il, h1, h1', c1, bm, ai]
      | true =>
        rw [h2] at ai
        obtain ⟨g1, g2⟩ := ints_in h2
        have hp : isLotB n v = rise (xs.map dI) := by unfold isLotB; rw [h0]; simp only [h2, decide_eq_false h1]; rfl
        rw [hp]
        have c2 := plot_rise (k := k + 2) (S := sv t n ls) (v := v) (is := xs.map dI) (by unfold Lt; rw [← g1]; exact hv) (by simpa using hz)
        have bm2 := bools_map (fun p : Int × Int => decide (p.1 < p.2)) (pz (xs.map dI))
        have ai2 := all_id (fun p : Int × Int => decide (p.1 < p.2)) (pz (xs.map dI))
        change _ = rise (xs.map dI) at ai2
        have h1' : ¬ (xs = []) := fun e => h1 (by rw [e]; rfl)
        generalize rise (xs.map dI) = R at ai2 ⊢
        generalize xs.map (inN n) = AA at bm ai
        generalize (xs.map fun x => PyData.bool (inN n x)) = BB at bm c1
        generalize ((pz (xs.map dI)).map fun p => decide (p.1 < p.2)) = AA2 at bm2 ai2
        generalize ((pz (xs.map dI)).map fun p => PyData.bool (decide (p.1 < p.2))) = BB2 at bm2 c2
        generalize sv t n ls = S at c1 c2 ⊢
        (first | (change G (k + 2) _ _ = _ at il) | skip); (first | (change G (k + 2) _ _ = _ at c1) | skip); (first | (change G (k + 2) _ _ = _ at c2) | skip); generalize G (k + 2) = FF at il c1 c2 ⊢
        rcases hv with rfl | rfl <;> simp [evSs, evS, evE, evA, evP, evO, evD, evI, asgT, asgTs, rdp, rds, rdsAll, frzd, frzE, thaw, callO, arsOf, arOf, iosOf, distinct, backOut, rvO, pick, bltV, cmpV, eqii, eqbb, eqstr, binV, negV, ixt, ixl, at0, at1, at2, at3, at4, at5, ix20, ix21, lk0, lk1, lk2, lk3, lk4, lk5, lk6, putv, slotOf, finF, rvOf, outsOf, runF, slOf, setAt, tyIs, isNon, seqV, Nat.blt, mulOk2, b_are_stations, il, h1, h1', c1, bm, ai, c2, bm2, ai2]
/-! ### leaving -/
def lvB (is : List Int) (p : (Int × Int) × Nat) : Bool := !decide (decide (p.1.1 ∈ is) = decide (p.1.2 ∈ is))
def lv (es : List (Int × Int)) (is : List Int) : List Int := (es.zipIdx.filter (lvB is)).map fun p => (p.2 : Int)
theorem law_leaving_ok (hv : Lt d is) (hz : es.length ≤ 1000) : G (k + 1) i__law_leaving [.pu (.list (es.map prD)), .pu d] = some (.fr ((lv es is).map .int), []) := by
  have c : evE (G k) C0 e__law_leaving_1 [.val (.list (es.map prD)), .val d, .emp, .emp] = some (.fr ((lv es is).map .int), [.val (.list (es.map prD)), .val d, .emp, .emp]) := by
    refine (lcE (e1 := [.val (.list (es.map prD)), .val d, .emp, .emp]) (ds := es.zipIdx.map fun p => .tuple [.int p.2, prD p.1]) (fun d => match d with | .tuple [.int i, .tuple [.int a, .int b]] => if (!decide (decide (a ∈ is) = decide (b ∈ is))) then some (.int i) else none | _ => none) ?_ ?_ ?_).trans ?_
    · simp [evSs, evS, evE, evA, evP, evO, evD, evI, asgT, asgTs, rdp, rds, rdsAll, frzd, frzE, thaw, callO, arsOf, arOf, iosOf, distinct, backOut, rvO, pick, bltV, cmpV, eqii, eqbb, eqstr, binV, negV, ixt, ixl, at0, at1, at2, at3, at4, at5, ix20, ix21, lk0, lk1, lk2, lk3, lk4, lk5, lk6, putv, slotOf, finF, rvOf, outsOf, runF, slOf, setAt, tyIs, isNon, seqV, Nat.blt, mulOk2, enu_map]
    · simp; omega
    · intro x hx
      obtain ⟨p, hp, rfl⟩ := List.mem_map.mp hx
      have m1 : memD (.int p.1.1) d = some (decide (p.1.1 ∈ is)) := by rcases hv with rfl | rfl; exact mem_li _ _; exact mem_ti _ _
      have m2 : memD (.int p.1.2) d = some (decide (p.1.2 ∈ is)) := by rcases hv with rfl | rfl; exact mem_li _ _; exact mem_ti _ _
      refine ⟨[.val (.list (es.map prD)), .val d, .val (.int p.2), .val (prD p.1)], lvB is p, [.val (.list (es.map prD)), .val d, .val (.int p.2), .val (prD p.1)], ?_, ?_, fun hb => ⟨by simp [wipeE], ?_⟩, fun hb => ⟨.int p.2, [.val (.list (es.map prD)), .val d, .val (.int p.2), .val (prD p.1)], ?_, by simp [wipeE], ?_⟩⟩
      · simp [evSs, evS, evE, evA, evP, evO, evD, evI, asgT, asgTs, rdp, rds, rdsAll, frzd, frzE, thaw, callO, arsOf, arOf, iosOf, distinct, backOut, rvO, pick, bltV, cmpV, eqii, eqbb, eqstr, binV, negV, ixt, ixl, at0, at1, at2, at3, at4, at5, ix20, ix21, lk0, lk1, lk2, lk3, lk4, lk5, lk6, putv, slotOf, finF, rvOf, outsOf, runF, slOf, setAt, tyIs, isNon, seqV, Nat.blt, mulOk2, wipeE]
      · have e0 : lvB is p = !decide (decide (p.1.1 ∈ is) = decide (p.1.2 ∈ is)) := rfl
        generalize decide (p.1.1 ∈ is) = B1 at m1 e0
        generalize decide (p.1.2 ∈ is) = B2 at m2 e0
        simp [evSs, evS, evE, evA, evP, evO, evD, evI, asgT, asgTs, rdp, rds, rdsAll, frzd, frzE, thaw, callO, arsOf, arOf, iosOf, distinct, backOut, rvO, pick, bltV, cmpV, eqii, eqbb, eqstr, binV, negV, ixt, ixl, at0, at1, at2, at3, at4, at5, ix20, ix21, lk0, lk1, lk2, lk3, lk4, lk5, lk6, putv, slotOf, finF, rvOf, outsOf, runF, slOf, setAt, tyIs, isNon, seqV, Nat.blt, mulOk2, prD, m1, m2, e0]
      · have hb' := hb
        unfold lvB at hb'
        simp only [prD, hb']; rfl
      · simp [evSs, evS, evE, evA, evP, evO, evD, evI, asgT, asgTs, rdp, rds, rdsAll, frzd, frzE, thaw, callO, arsOf, arOf, iosOf, distinct, backOut, rvO, pick, bltV, cmpV, eqii, eqbb, eqstr, binV, negV, ixt, ixl, at0, at1, at2, at3, at4, at5, ix20, ix21, lk0, lk1, lk2, lk3, lk4, lk5, lk6, putv, slotOf, finF, rvOf, outsOf, runF, slOf, setAt, tyIs, isNon, seqV, Nat.blt, mulOk2]
      · have hb' := hb
        unfold lvB at hb'
        simp only [prD, hb']; rfl
    · rw [fmap_filter (fun p : (Int × Int) × Nat => (.tuple [.int p.2, prD p.1] : D)) _ (lvB is) (fun p => .int p.2) _ (fun p _ => rfl)]
      simp [backE, wipeE, valOnly, lv]
  rw [one (fn := ⟨2, 4, b__law_leaving⟩) rfl]
  generalize es.map prD = EE at c ⊢
  generalize (lv es is).map PyData.int = LL at c ⊢
  (first | (change G (k) _ _ = _ at c) | skip); generalize G (k) = FF at c ⊢
  simp [evSs, evS, evE, evA, evP, evO, evD, evI, asgT, asgTs, rdp, rds, rdsAll, frzd, frzE, thaw, callO, arsOf, arOf, iosOf, distinct, backOut, rvO, pick, bltV, cmpV, eqii, eqbb, eqstr, binV, negV, ixt, ixl, at0, at1, at2, at3, at4, at5, ix20, ix21, lk0, lk1, lk2, lk3, lk4, lk5, lk6, putv, slotOf, finF, rvOf, outsOf, runF, slOf, setAt, tyIs, isNon, seqV, Nat.blt, mulOk2, b__law_leaving, c]
theorem zipIdx_en (l : List Lg) (j : Nat) : (l.map en).zipIdx j = (l.zipIdx j).map fun p => (en p.1, p.2) := by
  induction l generalizing j with
  | nil => rfl
  | cons a l ih => simp [List.zipIdx_cons, ih]
theorem lv_en (ls : List Lg) (is : List Int) : lv (ls.map en) is = (ls.zipIdx.filter fun p => lvB is (en p.1, p.2)).map fun p => (p.2 : Int) := by
  unfold lv
  rw [zipIdx_en, List.filter_map, List.map_map]
  rfl
theorem leaving_ok (hv : Lt d is) (hz : ls.length ≤ 1000) : G (k + 1) i_leaving [.pu (sv t n ls), .pu d] = some (.pu (.tuple ((lv (ls.map en) is).map .int)), []) := by
  have c : evE (G k) C0 e_leaving_1 [.val (sv t n ls), .val d, .emp, .emp] = some (.fr ((lv (ls.map en) is).map .int), [.val (sv t n ls), .val d, .emp, .emp]) := by
    refine (lcE (e1 := [.val (sv t n ls), .val d, .emp, .emp]) (ds := ls.zipIdx.map fun p => .tuple [.int p.2, lgD p.1]) (fun d => match d with | .tuple [.int i, .tuple [_, .int a, .int b, _, _, _]] => if (!decide (decide (a ∈ is) = decide (b ∈ is))) then some (.int i) else none | _ => none) ?_ ?_ ?_).trans ?_
    · simp [evSs, evS, evE, evA, evP, evO, evD, evI, asgT, asgTs, rdp, rds, rdsAll, frzd, frzE, thaw, callO, arsOf, arOf, iosOf, distinct, backOut, rvO, pick, bltV, cmpV, eqii, eqbb, eqstr, binV, negV, ixt, ixl, at0, at1, at2, at3, at4, at5, ix20, ix21, lk0, lk1, lk2, lk3, lk4, lk5, lk6, putv, slotOf, finF, rvOf, outsOf, runF, slOf, setAt, tyIs, isNon, seqV, Nat.blt, mulOk2, sv3, enu_map]
    · simp; omega
    · intro x hx
      obtain ⟨p, hp, rfl⟩ := List.mem_map.mp hx
      have m1 : memD (.int p.1.2.1) d = some (decide (p.1.2.1 ∈ is)) := by rcases hv with rfl | rfl; exact mem_li _ _; exact mem_ti _ _
      have m2 : memD (.int p.1.2.2) d = some (decide (p.1.2.2 ∈ is)) := by rcases hv with rfl | rfl; exact mem_li _ _; exact mem_ti _ _
      refine ⟨[.val (sv t n ls), .val d, .val (.int p.2), .val (lgD p.1)], lvB is (en p.1, p.2), [.val (sv t n ls), .val d, .val (.int p.2), .val (lgD p.1)], ?_, ?_, fun hb => ⟨by simp [wipeE], ?_⟩, fun hb => ⟨.int p.2, [.val (sv t n ls), .val d, .val (.int p.2), .val (lgD p.1)], ?_, by simp [wipeE], ?_⟩⟩
      · simp [evSs, evS, evE, evA, evP, evO, evD, evI, asgT, asgTs, rdp, rds, rdsAll, frzd, frzE, thaw, callO, arsOf, arOf, iosOf, distinct, backOut, rvO, pick, bltV, cmpV, eqii, eqbb, eqstr, binV, negV, ixt, ixl, at0, at1, at2, at3, at4, at5, ix20, ix21, lk0, lk1, lk2, lk3, lk4, lk5, lk6, putv, slotOf, finF, rvOf, outsOf, runF, slOf, setAt, tyIs, isNon, seqV, Nat.blt, mulOk2, wipeE]
      · have e0 : lvB is (en p.1, p.2) = !decide (decide (p.1.2.1 ∈ is) = decide (p.1.2.2 ∈ is)) := rfl
        generalize decide (p.1.2.1 ∈ is) = B1 at m1 e0
        generalize decide (p.1.2.2 ∈ is) = B2 at m2 e0
        simp [evSs, evS, evE, evA, evP, evO, evD, evI, asgT, asgTs, rdp, rds, rdsAll, frzd, frzE, thaw, callO, arsOf, arOf, iosOf, distinct, backOut, rvO, pick, bltV, cmpV, eqii, eqbb, eqstr, binV, negV, ixt, ixl, at0, at1, at2, at3, at4, at5, ix20, ix21, lk0, lk1, lk2, lk3, lk4, lk5, lk6, putv, slotOf, finF, rvOf, outsOf, runF, slOf, setAt, tyIs, isNon, seqV, Nat.blt, mulOk2, lgD, m1, m2, e0]
      · have hb' := hb
        unfold lvB en at hb'
        simp only [lgD, hb']; rfl
      · simp [evSs, evS, evE, evA, evP, evO, evD, evI, asgT, asgTs, rdp, rds, rdsAll, frzd, frzE, thaw, callO, arsOf, arOf, iosOf, distinct, backOut, rvO, pick, bltV, cmpV, eqii, eqbb, eqstr, binV, negV, ixt, ixl, at0, at1, at2, at3, at4, at5, ix20, ix21, lk0, lk1, lk2, lk3, lk4, lk5, lk6, putv, slotOf, finF, rvOf, outsOf, runF, slOf, setAt, tyIs, isNon, seqV, Nat.blt, mulOk2]
      · have hb' := hb
        unfold lvB en at hb'
        simp only [lgD, hb']; rfl
    · rw [fmap_filter (fun p : Lg × Nat => (.tuple [.int p.2, lgD p.1] : D)) _ (fun p => lvB is (en p.1, p.2)) (fun p => .int p.2) _ (fun p _ => rfl)]
      simp [backE, wipeE, valOnly, lv_en]
  rw [one (fn := ⟨2, 4, b_leaving⟩) rfl]
  generalize sv t n ls = S at c ⊢
  generalize (lv (ls.map en) is).map PyData.int = LL at c ⊢
  (first | (change G (k) _ _ = _ at c) | skip); generalize G (k) = FF at c ⊢
  simp [evSs, evS, evE, evA, evP, evO, evD, evI, asgT, asgTs, rdp, rds, rdsAll, frzd, frzE, thaw, callO, arsOf, arOf, iosOf, distinct, backOut, rvO, pick, bltV, cmpV, eqii, eqbb, eqstr, binV, negV, ixt, ixl, at0, at1, at2, at3, at4, at5, ix20, ix21, lk0, lk1, lk2, lk3, lk4, lk5, lk6, putv, slotOf, finF, rvOf, outsOf, runF, slOf, setAt, tyIs, isNon, seqV, Nat.blt, mulOk2, b_leaving, c]
end
end K94

set_option Elab.async false
set_option linter.all false
set_option maxRecDepth 100000
set_option maxHeartbeats 4000000
namespace K94
open PySem Rf
theorem dedup_le : ∀ (ns acc : List Int), (dedup acc ns).length ≤ acc.length + ns.length
  | [], acc => by simp [dedup]
  | n :: ns, acc => by
    simp only [dedup]
    have h := dedup_le ns (if acc.any (· == n) then acc else acc ++ [n])
    split at h
    · rename_i q; rw [if_pos q]; simp at h ⊢; omega
    · rename_i q; rw [if_neg q]; simp at h ⊢; omega
theorem dedup_nd : ∀ (ns acc : List Int), acc.Nodup → ((dedup acc ns).length = acc.length + ns.length ↔ (acc ++ ns).Nodup)
  | [], acc, h => by simp [dedup, h]
  | n :: ns, acc, h => by
    simp only [dedup]
    by_cases q : n ∈ acc
    · have qa : acc.any (· == n) = true := List.any_eq_true.mpr ⟨n, q, by simp⟩
      rw [if_pos qa]
      have := dedup_le ns acc
      constructor
      · intro e; simp at e; omega
      · intro e
        rw [List.nodup_append] at e
        exact absurd rfl (e.2.2 n q n List.mem_cons_self)
    · have qa : ¬ (acc.any (· == n) = true) := fun z => by
        obtain ⟨x, hx, e⟩ := List.any_eq_true.mp z
        simp at e; subst e; exact q hx
      rw [if_neg qa]
      have ih := dedup_nd ns (acc ++ [n]) (by
        rw [List.nodup_append]
        exact ⟨h, by simp, by intro x hx y hy e; simp at hy; subst hy; subst e; exact q hx⟩)
      rw [List.append_assoc, List.singleton_append] at ih
      rw [← ih]
      simp; omega
/-! ### need papers -/
def okV (n : Int) (es : List (Int × Int)) (d : D) : Bool := decide ((lv es (lotI d)).length = 1)
def needRest (es : List (Int × Int)) : List D → List Int → Bool
  | [], _ => true
  | d :: r, seen => decide ((lv es (lotI d)).length = 1) && (!(lotI d).any (fun i => decide (i ∈ seen)) && needRest es r (seen ++ lotI d))
def joined (xs : List D) : List Int := xs.flatMap lotI
theorem needRest_eq {n : Int} {es : List (Int × Int)} : ∀ (xs : List D) (seen : List Int), seen.Nodup → xs.all (isLotB n) = true →
    needRest es xs seen = (xs.all (fun d => decide ((lv es (lotI d)).length = 1)) && decide ((seen ++ joined xs).Nodup))
  | [], seen, h, _ => by simp [needRest, joined, h]
  | d :: xs, seen, h, hl => by
    simp only [List.all_cons, Bool.and_eq_true] at hl
    obtain ⟨_, nd, _⟩ := isLot_of hl.1
    simp only [needRest, List.all_cons]
    cases h1 : decide ((lv es (lotI d)).length = 1) with
    | false => rfl
    | true =>
      rw [Bool.true_and, Bool.true_and]
      cases h2 : (lotI d).any (fun i => decide (i ∈ seen)) with
      | true =>
        obtain ⟨i, hi, hs⟩ := List.any_eq_true.mp h2
        have hs' : i ∈ seen := by simpa using hs
        have : ¬ (seen ++ joined (d :: xs)).Nodup := fun z => by
          rw [List.nodup_append] at z
          exact z.2.2 i hs' i (List.mem_flatMap.mpr ⟨d, List.mem_cons_self, hi⟩) rfl
        rw [decide_eq_false this, Bool.and_false]; rfl
      | false =>
        have hd : (seen ++ lotI d).Nodup := by
          rw [List.nodup_append]
          refine ⟨h, nd, fun x hx y hy e => ?_⟩
          subst e
          have := List.any_eq_false.mp h2 x hy
          simp at this; exact this hx
        rw [needRest_eq xs _ hd hl.2]
        have e : seen ++ joined (d :: xs) = seen ++ lotI d ++ joined xs := by simp [joined]
        rw [e]; simp
noncomputable def needB (n : Int) (es : List (Int × Int)) (m : Int) (v : D) : Bool := match seqV v with
  | some xs => !decide ((xs.length : Int) ≤ 2 * m) && (xs.all (isLotB n) && (xs.all (fun d => decide ((lv es (lotI d)).length = 1)) && decide ((joined xs).Nodup)))
  | none => false
/-- of bounded lengths -/
def sm2 (d : D) : Prop := ∀ xs, seqV d = some xs → xs.length ≤ 100 ∧ ∀ x ∈ xs, sm1 x
section
variable {k : Nat} {t : Str} {n s m : Int} {ls : List Lg} {v d : D} {xs : List D} {is : List Int} {es : List (Int × Int)}
theorem lneed_all (hv : v = .list xs ∨ v = .tuple xs) (hz : xs.length ≤ 100) (hs : ∀ x ∈ xs, sm1 x) : evE (G (k + 1)) C0 e__law_is_need_4 [.val (sv t n ls), .val (.int m), .val v, .emp, .emp, .emp, .emp] = some (.fr (xs.map fun x => .bool (isLotB n x)), [.val (sv t n ls), .val (.int m), .val v, .emp, .emp, .emp, .emp]) := by
  refine (lcE (e1 := [.val (sv t n ls), .val (.int m), .val v, .emp, .emp, .emp, .emp]) (ds := xs) (fun x => some (.bool (isLotB n x))) ?_ (by omega) ?_).trans ?_
  · rcases hv with rfl | rfl <;> simp [evSs, evS, evE, evA, evP, evO, evD, evI, asgT, asgTs, rdp, rds, rdsAll, frzd, frzE, thaw, callO, arsOf, arOf, iosOf, distinct, backOut, rvO, pick, bltV, cmpV, eqii, eqbb, eqstr, binV, negV, ixt, ixl, at0, at1, at2, at3, at4, at5, ix20, ix21, lk0, lk1, lk2, lk3, lk4, lk5, lk6, putv, slotOf, finF, rvOf, outsOf, runF, slOf, setAt, tyIs, isNon, seqV, Nat.blt, mulOk2]
  · intro x hx
    have c := law_is_lot_ok (k := k) (t := t) (n := n) (ls := ls) (hs x hx)
    refine ⟨[.val (sv t n ls), .val (.int m), .val v, .val x, .emp, .emp, .emp], true, [.val (sv t n ls), .val (.int m), .val v, .val x, .emp, .emp, .emp], ?_, ?_, by simp, fun _ => ⟨.bool (isLotB n x), [.val (sv t n ls), .val (.int m), .val v, .val x, .emp, .emp, .emp], ?_, by simp [wipeE], rfl⟩⟩
    · simp [evSs, evS, evE, evA, evP, evO, evD, evI, asgT, asgTs, rdp, rds, rdsAll, frzd, frzE, thaw, callO, arsOf, arOf, iosOf, distinct, backOut, rvO, pick, bltV, cmpV, eqii, eqbb, eqstr, binV, negV, ixt, ixl, at0, at1, at2, at3, at4, at5, ix20, ix21, lk0, lk1, lk2, lk3, lk4, lk5, lk6, putv, slotOf, finF, rvOf, outsOf, runF, slOf, setAt, tyIs, isNon, seqV, Nat.blt, mulOk2, wipeE]
    · simp [evSs, evS, evE, evA, evP, evO, evD, evI, asgT, asgTs, rdp, rds, rdsAll, frzd, frzE, thaw, callO, arsOf, arOf, iosOf, distinct, backOut, rvO, pick, bltV, cmpV, eqii, eqbb, eqstr, binV, negV, ixt, ixl, at0, at1, at2, at3, at4, at5, ix20, ix21, lk0, lk1, lk2, lk3, lk4, lk5, lk6, putv, slotOf, finF, rvOf, outsOf, runF, slOf, setAt, tyIs, isNon, seqV, Nat.blt, mulOk2]
    · simp [evSs, evS, evE, evA, evP, evO, evD, evI, asgT, asgTs, rdp, rds, rdsAll, frzd, frzE, thaw, callO, arsOf, arOf, iosOf, distinct, backOut, rvO, pick, bltV, cmpV, eqii, eqbb, eqstr, binV, negV, ixt, ixl, at0, at1, at2, at3, at4, at5, ix20, ix21, lk0, lk1, lk2, lk3, lk4, lk5, lk6, putv, slotOf, finF, rvOf, outsOf, runF, slOf, setAt, tyIs, isNon, seqV, Nat.blt, mulOk2, c]
  · rw [fmap_all]; simp [backE, wipeE, valOnly]
theorem lneed_any {S M E v : D} {seen : List Int} (hv : Lt d is) (hz : is.length ≤ 100) : evE (G k) C0 e__law_is_need_1 [.val S, .val M, .val v, .val d, .val E, .val (.list (seen.map .int)), .emp] = some (.fr (is.map fun i => .bool (decide (i ∈ seen))), [.val S, .val M, .val v, .val d, .val E, .val (.list (seen.map .int)), .emp]) := by
  refine (lcE (e1 := [.val S, .val M, .val v, .val d, .val E, .val (.list (seen.map .int)), .emp]) (ds := is.map .int) (fun x => match x with | .int i => some (.bool (decide (i ∈ seen))) | _ => none) ?_ (by simp; omega) ?_).trans ?_
  · rcases hv with rfl | rfl <;> simp [evSs, evS, evE, evA, evP, evO, evD, evI, asgT, asgTs, rdp, rds, rdsAll, frzd, frzE, thaw, callO, arsOf, arOf, iosOf, distinct, backOut, rvO, pick, bltV, cmpV, eqii, eqbb, eqstr, binV, negV, ixt, ixl, at0, at1, at2, at3, at4, at5, ix20, ix21, lk0, lk1, lk2, lk3, lk4, lk5, lk6, putv, slotOf, finF, rvOf, outsOf, runF, slOf, setAt, tyIs, isNon, seqV, Nat.blt, mulOk2]
  · intro x hx
    obtain ⟨i, hi, rfl⟩ := List.mem_map.mp hx
    have ml := mem_li i seen
    refine ⟨[.val S, .val M, .val v, .val d, .val E, .val (.list (seen.map .int)), .val (.int i)], true, [.val S, .val M, .val v, .val d, .val E, .val (.list (seen.map .int)), .val (.int i)], ?_, ?_, by simp, fun _ => ⟨.bool (decide (i ∈ seen)), [.val S, .val M, .val v, .val d, .val E, .val (.list (seen.map .int)), .val (.int i)], ?_, by simp [wipeE], rfl⟩⟩
    · simp [evSs, evS, evE, evA, evP, evO, evD, evI, asgT, asgTs, rdp, rds, rdsAll, frzd, frzE, thaw, callO, arsOf, arOf, iosOf, distinct, backOut, rvO, pick, bltV, cmpV, eqii, eqbb, eqstr, binV, negV, ixt, ixl, at0, at1, at2, at3, at4, at5, ix20, ix21, lk0, lk1, lk2, lk3, lk4, lk5, lk6, putv, slotOf, finF, rvOf, outsOf, runF, slOf, setAt, tyIs, isNon, seqV, Nat.blt, mulOk2, wipeE]
    · simp [evSs, evS, evE, evA, evP, evO, evD, evI, asgT, asgTs, rdp, rds, rdsAll, frzd, frzE, thaw, callO, arsOf, arOf, iosOf, distinct, backOut, rvO, pick, bltV, cmpV, eqii, eqbb, eqstr, binV, negV, ixt, ixl, at0, at1, at2, at3, at4, at5, ix20, ix21, lk0, lk1, lk2, lk3, lk4, lk5, lk6, putv, slotOf, finF, rvOf, outsOf, runF, slOf, setAt, tyIs, isNon, seqV, Nat.blt, mulOk2]
    · simp [evSs, evS, evE, evA, evP, evO, evD, evI, asgT, asgTs, rdp, rds, rdsAll, frzd, frzE, thaw, callO, arsOf, arOf, iosOf, distinct, backOut, rvO, pick, bltV, cmpV, eqii, eqbb, eqstr, binV, negV, ixt, ixl, at0, at1, at2, at3, at4, at5, ix20, ix21, lk0, lk1, lk2, lk3, lk4, lk5, lk6, putv, slotOf, finF, rvOf, outsOf, runF, slOf, setAt, tyIs, isNon, seqV, Nat.blt, mulOk2, ml]
  · rw [fmap_some PyData.int _ (fun i => .bool (decide (i ∈ seen))) is (fun _ _ => rfl)]
    simp [backE, wipeE, valOnly]
theorem any_id {α : Type} (f : α → Bool) (l : List α) : (l.map f).any id = l.any f := by simp [List.any_map]
theorem lneed_body {S M v : D} {seen : List Int} (hl : isLotB n d = true) (hn : n ≤ 24) (hz : es.length ≤ 1000) (hs : seen.length ≤ 100) :
    ∃ fl, evSs (G (k + 1)) C0 l__law_is_need_2 [.val S, .val M, .val v, .val d, .val (.list (es.map prD)), .val (.list (seen.map .int)), .emp] = some fl ∧
      ((fl = .nx [.val S, .val M, .val v, .val d, .val (.list (es.map prD)), .val (.list ((seen ++ lotI d).map .int)), .emp] ∧ decide ((lv es (lotI d)).length = 1) = true ∧ (lotI d).any (fun i => decide (i ∈ seen)) = false) ∨
       ((∃ e, fl = .rt (.pu (.bool false)) e) ∧ (decide ((lv es (lotI d)).length = 1) && !(lotI d).any (fun i => decide (i ∈ seen))) = false)) := by
  obtain ⟨hv, nd, rg⟩ := isLot_of hl
  have dl : (lotI d).length ≤ 24 := by
    have := nodup_le (n := n.toNat) nd fun x hx => by have := rg x hx; omega
    omega
  have lo := law_leaving_ok (k := k) (es := es) hv hz
  have an := lneed_any (k := k + 1) (S := S) (M := M) (v := v) (E := .list (es.map prD)) (seen := seen) hv (by omega)
  have bm := bools_map (fun i => decide (i ∈ seen)) (lotI d)
  have ai := any_id (fun i => decide (i ∈ seen)) (lotI d)
  have ll : ((lv es (lotI d)).map PyData.int).length = (lv es (lotI d)).length := List.length_map _
  generalize lotI d = is at hv lo an bm ai ll dl ⊢
  generalize hA : (is.map fun i => decide (i ∈ seen)) = AA at bm ai
  generalize (is.map fun i => PyData.bool (decide (i ∈ seen))) = BB at bm an
  generalize es.map prD = EE at lo an ⊢
  generalize (lv es is).map PyData.int = LL at lo ll
  by_cases h1 : (lv es is).length = 1
  · have h1' : LL.length = 1 := by rw [ll, h1]
    cases h2 : is.any (fun i => decide (i ∈ seen)) with
    | true =>
      rw [h2] at ai
      (first | (change G (k + 1) _ _ = _ at lo) | skip); (first | (change G (k + 1) _ _ = _ at an) | skip); generalize G (k + 1) = FF at lo an ⊢
      refine ⟨.rt (.pu (.bool false)) [.val S, .val M, .val v, .val d, .val (.list EE), .val (.list (seen.map .int)), .emp], ?_, .inr ⟨⟨_, rfl⟩, by rw [Bool.not_true, Bool.and_false]⟩⟩
      simp [evSs, evS, evE, evA, evP, evO, evD, evI, asgT, asgTs, rdp, rds, rdsAll, frzd, frzE, thaw, callO, arsOf, arOf, iosOf, distinct, backOut, rvO, pick, bltV, cmpV, eqii, eqbb, eqstr, binV, negV, ixt, ixl, at0, at1, at2, at3, at4, at5, ix20, ix21, lk0, lk1, lk2, lk3, lk4, lk5, lk6, putv, slotOf, finF, rvOf, outsOf, runF, slOf, setAt, tyIs, isNon, seqV, Nat.blt, mulOk2, l__law_is_need_2, lo, h1', an, bm, ai]
    | false =>
      rw [h2] at ai
      have z : lenOk ((seen.map PyData.int).length + (is.map PyData.int).length) = true := lenOk_of (by simp; omega)
      rw [List.map_append]
      generalize seen.map PyData.int = SS at an z ⊢
      unfold Lt at hv
      generalize is.map PyData.int = II at hv z ⊢
      (first | (change G (k + 1) _ _ = _ at lo) | skip); (first | (change G (k + 1) _ _ = _ at an) | skip); generalize G (k + 1) = FF at lo an ⊢
      refine ⟨.nx [.val S, .val M, .val v, .val d, .val (.list EE), .val (.list (SS ++ II)), .emp], ?_, .inl ⟨rfl, decide_eq_true h1, rfl⟩⟩
      rcases hv with rfl | rfl <;> simp [evSs, evS, evE, evA, evP, evO, evD, evI, asgT, asgTs, rdp, rds, rdsAll, frzd, frzE, thaw, callO, arsOf, arOf, iosOf, distinct, backOut, rvO, pick, bltV, cmpV, eqii, eqbb, eqstr, binV, negV, ixt, ixl, at0, at1, at2, at3, at4, at5, ix20, ix21, lk0, lk1, lk2, lk3, lk4, lk5, lk6, putv, slotOf, finF, rvOf, outsOf, runF, slOf, setAt, tyIs, isNon, seqV, Nat.blt, mulOk2, l__law_is_need_2, lo, h1', an, bm, ai, z]
  · have h1' : ¬ ((LL.length : Int) = 1) := by rw [ll]; omega
    (first | (change G (k + 1) _ _ = _ at lo) | skip); (first | (change G (k + 1) _ _ = _ at an) | skip); generalize G (k + 1) = FF at lo an ⊢
    refine ⟨.rt (.pu (.bool false)) [.val S, .val M, .val v, .val d, .val (.list EE), .val (.list (seen.map .int)), .emp], ?_, .inr ⟨⟨_, rfl⟩, by rw [decide_eq_false h1]; rfl⟩⟩
    simp [evSs, evS, evE, evA, evP, evO, evD, evI, asgT, asgTs, rdp, rds, rdsAll, frzd, frzE, thaw, callO, arsOf, arOf, iosOf, distinct, backOut, rvO, pick, bltV, cmpV, eqii, eqbb, eqstr, binV, negV, ixt, ixl, at0, at1, at2, at3, at4, at5, ix20, ix21, lk0, lk1, lk2, lk3, lk4, lk5, lk6, putv, slotOf, finF, rvOf, outsOf, runF, slOf, setAt, tyIs, isNon, seqV, Nat.blt, mulOk2, l__law_is_need_2, lo, h1']
theorem lneed_loop {S M v : D} (hv : v = .list xs ∨ v = .tuple xs) (hl : xs.all (isLotB n) = true) (hn : n ≤ 24) (hz : es.length ≤ 1000) :
    ∃ fl, evS (G (k + 1)) C0 s__law_is_need_3 [.val S, .val M, .val v, .emp, .val (.list (es.map prD)), .val (.list []), .emp] = some fl ∧
      (((∃ e, fl = .nx e) ∧ needRest es xs [] = true) ∨ (∃ e, fl = .rt (.pu (.bool false)) e) ∧ needRest es xs [] = false) := by
  refine foE (e1 := [.val S, .val M, .val v, .emp, .val (.list (es.map prD)), .val (.list []), .emp]) (ds := xs) (fun ds e => ∃ s3 seen, e = [.val S, .val M, .val v, s3, .val (.list (es.map prD)), .val (.list (seen.map .int)), .emp] ∧ needRest es xs [] = needRest es ds seen ∧ ds.all (isLotB n) = true ∧ seen.Nodup ∧ ∀ i ∈ seen, 0 ≤ i ∧ i < n) _ rfl ?_ ⟨.emp, [], rfl, rfl, hl, by simp, by simp⟩ ?_ ?_
  · rcases hv with rfl | rfl <;> simp [evSs, evS, evE, evA, evP, evO, evD, evI, asgT, asgTs, rdp, rds, rdsAll, frzd, frzE, thaw, callO, arsOf, arOf, iosOf, distinct, backOut, rvO, pick, bltV, cmpV, eqii, eqbb, eqstr, binV, negV, ixt, ixl, at0, at1, at2, at3, at4, at5, ix20, ix21, lk0, lk1, lk2, lk3, lk4, lk5, lk6, putv, slotOf, finF, rvOf, outsOf, runF, slOf, setAt, tyIs, isNon, seqV, Nat.blt, mulOk2]
  · rintro e ⟨s3, seen, rfl, h, _⟩
    exact .inl ⟨⟨_, rfl⟩, h⟩
  · rintro d ds e ⟨s3, seen, rfl, h, hl, nd, rg⟩
    simp only [List.all_cons, Bool.and_eq_true] at hl
    obtain ⟨hv, nd2, rg2⟩ := isLot_of hl.1
    have hs : seen.length ≤ 100 := by
      have := nodup_le (n := n.toNat) nd fun x hx => by have := rg x hx; omega
      omega
    obtain ⟨fl, h1, h2⟩ := lneed_body (k := k) (S := S) (M := M) (v := v) (es := es) (seen := seen) hl.1 hn hz hs
    refine ⟨[.val S, .val M, .val v, .val d, .val (.list (es.map prD)), .val (.list (seen.map .int)), .emp], fl, by simp [evSs, evS, evE, evA, evP, evO, evD, evI, asgT, asgTs, rdp, rds, rdsAll, frzd, frzE, thaw, callO, arsOf, arOf, iosOf, distinct, backOut, rvO, pick, bltV, cmpV, eqii, eqbb, eqstr, binV, negV, ixt, ixl, at0, at1, at2, at3, at4, at5, ix20, ix21, lk0, lk1, lk2, lk3, lk4, lk5, lk6, putv, slotOf, finF, rvOf, outsOf, runF, slOf, setAt, tyIs, isNon, seqV, Nat.blt, mulOk2], h1, ?_⟩
    rcases h2 with ⟨rfl, h2, h3⟩ | ⟨⟨e, rfl⟩, h2⟩
    · refine ⟨_, _, rfl, by rw [h]; simp only [needRest, h2, h3]; rfl, hl.2, ?_, fun i hi => ?_⟩
      · rw [List.nodup_append]
        refine ⟨nd, nd2, fun x hx y hy e => ?_⟩
        subst e
        have := List.any_eq_false.mp h3 x hy
        simp at this; exact this hx
      · rcases List.mem_append.mp hi with hi | hi
        · exact rg i hi
        · exact rg2 i hi
    · refine .inr ⟨⟨e, rfl⟩, ?_⟩
      rw [h]; simp only [needRest]
      rw [← Bool.and_assoc, h2, Bool.false_and]
theorem law_is_need_ok (h : okS n ls) (hs : sm2 v) : G (k + 2) i__law_is_need [.pu (sv t n ls), .pu (.int m), .pu v] = some (.pu (.bool (needB n (ls.map en) m v)), []) := by
  rw [one (fn := ⟨3, 7, b__law_is_need⟩) rfl]
  rcases seqV_c (v := v) with h0 | ⟨xs, h0, hv⟩
  · have hp : needB n (ls.map en) m v = false := by unfold needB; rw [h0]
    rw [hp]
    generalize sv t n ls = S
    generalize G (k + 1) = FF
    refine runX rfl rfl ⟨.rt (.pu (.bool false)) [.val S, .val (.int m), .val v, .emp, .emp, .emp, .emp], ?_, by simp [evSs, evS, evE, evA, evP, evO, evD, evI, asgT, asgTs, rdp, rds, rdsAll, frzd, frzE, thaw, callO, arsOf, arOf, iosOf, distinct, backOut, rvO, pick, bltV, cmpV, eqii, eqbb, eqstr, binV, negV, ixt, ixl, at0, at1, at2, at3, at4, at5, ix20, ix21, lk0, lk1, lk2, lk3, lk4, lk5, lk6, putv, slotOf, finF, rvOf, outsOf, runF, slOf, setAt, tyIs, isNon, seqV, Nat.blt, mulOk2]⟩
    cases v <;> simp [seqV] at h0 <;> simp [evSs, evS, evE, evA, evP, evO, evD, evI, asgT, asgTs, rdp, rds, rdsAll, frzd, frzE, thaw, callO, arsOf, arOf, iosOf, distinct, backOut, rvO, pick, bltV, cmpV, eqii, eqbb, eqstr, binV, negV, ixt, ixl, at0, at1, at2, at3, at4, at5, ix20, ix21, lk0, lk1, lk2, lk3, lk4, lk5, lk6, putv, slotOf, finF, rvOf, outsOf, runF, slOf, setAt, tyIs, isNon, seqV, Nat.blt, mulOk2, b__law_is_need]
  · obtain ⟨hz, hx⟩ := hs xs h0
    have c1 := lneed_all (k := k) (t := t) (n := n) (ls := ls) (m := m) hv hz hx
    have bm := bools_map (isLotB n) xs
    have ai := all_id (isLotB n) xs
    by_cases h1 : (xs.length : Int) ≤ 2 * m
    · have hp : needB n (ls.map en) m v = false := by unfold needB; rw [h0]; simp only [decide_eq_true h1]; rfl
      rw [hp]
      generalize (xs.map fun x => PyData.bool (isLotB n x)) = BB at bm c1
      generalize sv t n ls = S at c1 ⊢
      (first | (change G (k + 1) _ _ = _ at c1) | skip); generalize G (k + 1) = FF at c1 ⊢
      refine runX rfl rfl ⟨.rt (.pu (.bool false)) [.val S, .val (.int m), .val v, .emp, .emp, .emp, .emp], ?_, by simp [evSs, evS, evE, evA, evP, evO, evD, evI, asgT, asgTs, rdp, rds, rdsAll, frzd, frzE, thaw, callO, arsOf, arOf, iosOf, distinct, backOut, rvO, pick, bltV, cmpV, eqii, eqbb, eqstr, binV, negV, ixt, ixl, at0, at1, at2, at3, at4, at5, ix20, ix21, lk0, lk1, lk2, lk3, lk4, lk5, lk6, putv, slotOf, finF, rvOf, outsOf, runF, slOf, setAt, tyIs, isNon, seqV, Nat.blt, mulOk2]⟩
      rcases hv with rfl | rfl <;> simp [evSs, evS, evE, evA, evP, evO, evD, evI, asgT, asgTs, rdp, rds, rdsAll, frzd, frzE, thaw, callO, arsOf, arOf, iosOf, distinct, backOut, rvO, pick, bltV, cmpV, eqii, eqbb, eqstr, binV, negV, ixt, ixl, at0, at1, at2, at3, at4, at5, ix20, ix21, lk0, lk1, lk2, lk3, lk4, lk5, lk6, putv, slotOf, finF, rvOf, outsOf, runF, slOf, setAt, tyIs, isNon, seqV, Nat.blt, mulOk2, b__law_is_need, h1]
    · cases h2 : xs.all (isLotB n) with
      | false =>
        have hp : needB n (ls.map en) m v = false := by unfold needB; rw [h0]; simp only [h2, Bool.false_and, Bool.and_false]
        rw [hp]
        rw [h2] at ai
        generalize xs.map (isLotB n) = AA at bm ai
        generalize (xs.map fun x => PyData.bool (isLotB n x)) = BB at bm c1
        generalize sv t n ls = S at c1 ⊢
        (first | (change G (k + 1) _ _ = _ at c1) | skip); generalize G (k + 1) = FF at c1 ⊢
        refine runX rfl rfl ⟨.rt (.pu (.bool false)) [.val S, .val (.int m), .val v, .emp, .emp, .emp, .emp], ?_, by simp [evSs, evS, evE, evA, evP, evO, evD, evI, asgT, asgTs, rdp, rds, rdsAll, frzd, frzE, thaw, callO, arsOf, arOf, iosOf, distinct, backOut, rvO, pick, bltV, cmpV, eqii, eqbb, eqstr, binV, negV, ixt, ixl, at0, at1, at2, at3, at4, at5, ix20, ix21, lk0, lk1, lk2, lk3, lk4, lk5, lk6, putv, slotOf, finF, rvOf, outsOf, runF, slOf, setAt, tyIs, isNon, seqV, Nat.blt, mulOk2]⟩
        rcases hv with rfl | rfl <;> simp [evSs, evS, evE, evA, evP, evO, evD, evI, asgT, asgTs, rdp, rds, rdsAll, frzd, frzE, thaw, callO, arsOf, arOf, iosOf, distinct, backOut, rvO, pick, bltV, cmpV, eqii, eqbb, eqstr, binV, negV, ixt, ixl, at0, at1, at2, at3, at4, at5, ix20, ix21, lk0, lk1, lk2, lk3, lk4, lk5, lk6, putv, slotOf, finF, rvOf, outsOf, runF, slOf, setAt, tyIs, isNon, seqV, Nat.blt, mulOk2, b__law_is_need, h1, c1, bm, ai]
      | true =>
        rw [h2] at ai
        generalize xs.map (isLotB n) = AA at bm ai
        generalize (xs.map fun x => PyData.bool (isLotB n x)) = BB at bm c1
        have eo := ends_of_ok (k := k) (t := t) (n := n) (ls := ls) (by have := h.ln; omega)
        have hp : needB n (ls.map en) m v = needRest (ls.map en) xs [] := by
          rw [needRest_eq (n := n) xs [] (by simp) h2]
          unfold needB; rw [h0]; simp only [h2, decide_eq_false h1, Bool.not_false, Bool.true_and, List.nil_append]
        rw [hp]
        obtain ⟨fl, l1, l2⟩ := lneed_loop (k := k) (S := sv t n ls) (M := .int m) (v := v) (es := ls.map en) hv h2 h.n2 (by have := h.ln; simp; omega)
        generalize (ls.map en).map prD = EE at eo l1
        generalize sv t n ls = S at c1 eo l1 ⊢
        (first | (change G (k + 1) _ _ = _ at c1) | skip); (first | (change G (k + 1) _ _ = _ at eo) | skip); (first | (change G (k + 1) _ _ = _ at l1) | skip); generalize G (k + 1) = FF at c1 eo l1 ⊢
        rcases l2 with ⟨⟨e, rfl⟩, l2⟩ | ⟨⟨e, rfl⟩, l2⟩
        · rw [l2]
          refine runX rfl rfl ⟨.rt (.pu (.bool true)) e, ?_, by simp [evSs, evS, evE, evA, evP, evO, evD, evI, asgT, asgTs, rdp, rds, rdsAll, frzd, frzE, thaw, callO, arsOf, arOf, iosOf, distinct, backOut, rvO, pick, bltV, cmpV, eqii, eqbb, eqstr, binV, negV, ixt, ixl, at0, at1, at2, at3, at4, at5, ix20, ix21, lk0, lk1, lk2, lk3, lk4, lk5, lk6, putv, slotOf, finF, rvOf, outsOf, runF, slOf, setAt, tyIs, isNon, seqV, Nat.blt, mulOk2]⟩
          rcases hv with rfl | rfl <;> simp [evSs, evS, evE, evA, evP, evO, evD, evI, asgT, asgTs, rdp, rds, rdsAll, frzd, frzE, thaw, callO, arsOf, arOf, iosOf, distinct, backOut, rvO, pick, bltV, cmpV, eqii, eqbb, eqstr, binV, negV, ixt, ixl, at0, at1, at2, at3, at4, at5, ix20, ix21, lk0, lk1, lk2, lk3, lk4, lk5, lk6, putv, slotOf, finF, rvOf, outsOf, runF, slOf, setAt, tyIs, isNon, seqV, Nat.blt, mulOk2, b__law_is_need, h1, c1, bm, ai, eo, l1]
        · rw [l2]
          refine runX rfl rfl ⟨.rt (.pu (.bool false)) e, ?_, by simp [evSs, evS, evE, evA, evP, evO, evD, evI, asgT, asgTs, rdp, rds, rdsAll, frzd, frzE, thaw, callO, arsOf, arOf, iosOf, distinct, backOut, rvO, pick, bltV, cmpV, eqii, eqbb, eqstr, binV, negV, ixt, ixl, at0, at1, at2, at3, at4, at5, ix20, ix21, lk0, lk1, lk2, lk3, lk4, lk5, lk6, putv, slotOf, finF, rvOf, outsOf, runF, slOf, setAt, tyIs, isNon, seqV, Nat.blt, mulOk2]⟩
          rcases hv with rfl | rfl <;> simp [evSs, evS, evE, evA, evP, evO, evD, evI, asgT, asgTs, rdp, rds, rdsAll, frzd, frzE, thaw, callO, arsOf, arOf, iosOf, distinct, backOut, rvO, pick, bltV, cmpV, eqii, eqbb, eqstr, binV, negV, ixt, ixl, at0, at1, at2, at3, at4, at5, ix20, ix21, lk0, lk1, lk2, lk3, lk4, lk5, lk6, putv, slotOf, finF, rvOf, outsOf, runF, slOf, setAt, tyIs, isNon, seqV, Nat.blt, mulOk2, b__law_is_need, h1, c1, bm, ai, eo, l1]
/-! ### the program's -/
theorem is_count_ok (hm : 0 ≤ m) : G (k + 2) i_is_count [.pu (.int m)] = some (.pu (.bool true), []) := by
  rw [one (fn := ⟨1, 1, b_is_count⟩) rfl]
  have ii := is_integer_ok (k := k) (d := .int m)
  simp only [isInt] at ii
  (first | (change G (k + 1) _ _ = _ at ii) | skip); generalize G (k + 1) = FF at ii ⊢
  simp [evSs, evS, evE, evA, evP, evO, evD, evI, asgT, asgTs, rdp, rds, rdsAll, frzd, frzE, thaw, callO, arsOf, arOf, iosOf, distinct, backOut, rvO, pick, bltV, cmpV, eqii, eqbb, eqstr, binV, negV, ixt, ixl, at0, at1, at2, at3, at4, at5, ix20, ix21, lk0, lk1, lk2, lk3, lk4, lk5, lk6, putv, slotOf, finF, rvOf, outsOf, runF, slOf, setAt, tyIs, isNon, seqV, Nat.blt, mulOk2, b_is_count, ii, hm]
theorem pneed_all (hv : v = .list xs ∨ v = .tuple xs) (hz : xs.length ≤ 100) (hs : ∀ x ∈ xs, sm1 x) : evE (G (k + 3)) C0 e_is_need_paper_4 [.val (sv t n ls), .val (.int m), .val v, .emp, .emp] = some (.fr (xs.map fun x => .bool (isLotB n x)), [.val (sv t n ls), .val (.int m), .val v, .emp, .emp]) := by
  refine (lcE (e1 := [.val (sv t n ls), .val (.int m), .val v, .emp, .emp]) (ds := xs) (fun x => some (.bool (isLotB n x))) ?_ (by omega) ?_).trans ?_
  · rcases hv with rfl | rfl <;> simp [evSs, evS, evE, evA, evP, evO, evD, evI, asgT, asgTs, rdp, rds, rdsAll, frzd, frzE, thaw, callO, arsOf, arOf, iosOf, distinct, backOut, rvO, pick, bltV, cmpV, eqii, eqbb, eqstr, binV, negV, ixt, ixl, at0, at1, at2, at3, at4, at5, ix20, ix21, lk0, lk1, lk2, lk3, lk4, lk5, lk6, putv, slotOf, finF, rvOf, outsOf, runF, slOf, setAt, tyIs, isNon, seqV, Nat.blt, mulOk2]
  · intro x hx
    have c := are_stations_ok (k := k) (t := t) (n := n) (ls := ls) (hs x hx)
    refine ⟨[.val (sv t n ls), .val (.int m), .val v, .emp, .val x], true, [.val (sv t n ls), .val (.int m), .val v, .emp, .val x], ?_, ?_, by simp, fun _ => ⟨.bool (isLotB n x), [.val (sv t n ls), .val (.int m), .val v, .emp, .val x], ?_, by simp [wipeE], rfl⟩⟩
    · simp [evSs, evS, evE, evA, evP, evO, evD, evI, asgT, asgTs, rdp, rds, rdsAll, frzd, frzE, thaw, callO, arsOf, arOf, iosOf, distinct, backOut, rvO, pick, bltV, cmpV, eqii, eqbb, eqstr, binV, negV, ixt, ixl, at0, at1, at2, at3, at4, at5, ix20, ix21, lk0, lk1, lk2, lk3, lk4, lk5, lk6, putv, slotOf, finF, rvOf, outsOf, runF, slOf, setAt, tyIs, isNon, seqV, Nat.blt, mulOk2, wipeE]
    · simp [evSs, evS, evE, evA, evP, evO, evD, evI, asgT, asgTs, rdp, rds, rdsAll, frzd, frzE, thaw, callO, arsOf, arOf, iosOf, distinct, backOut, rvO, pick, bltV, cmpV, eqii, eqbb, eqstr, binV, negV, ixt, ixl, at0, at1, at2, at3, at4, at5, ix20, ix21, lk0, lk1, lk2, lk3, lk4, lk5, lk6, putv, slotOf, finF, rvOf, outsOf, runF, slOf, setAt, tyIs, isNon, seqV, Nat.blt, mulOk2]
    · simp [evSs, evS, evE, evA, evP, evO, evD, evI, asgT, asgTs, rdp, rds, rdsAll, frzd, frzE, thaw, callO, arsOf, arOf, iosOf, distinct, backOut, rvO, pick, bltV, cmpV, eqii, eqbb, eqstr, binV, negV, ixt, ixl, at0, at1, at2, at3, at4, at5, ix20, ix21, lk0, lk1, lk2, lk3, lk4, lk5, lk6, putv, slotOf, finF, rvOf, outsOf, runF, slOf, setAt, tyIs, isNon, seqV, Nat.blt, mulOk2, c]
  · rw [fmap_all]; simp [backE, wipeE, valOnly]
theorem pneed_lv {P : Sl} {s4 : Sl} (hv : v = .list xs ∨ v = .tuple xs) (hz : xs.length ≤ 100) (hl : xs.all (isLotB n) = true) (hS : okS n ls) (s4v : s4 = .emp ∨ ∃ d, s4 = .val d) (hP : ∃ ps, P = .own 0 ps) : evE (G (k + 1)) C0 e_is_need_paper_1 [.val (sv t n ls), .val (.int m), .val v, P, s4] = some (.fr (xs.map fun x => .bool (decide ((lv (ls.map en) (lotI x)).length = 1))), [.val (sv t n ls), .val (.int m), .val v, P, s4]) := by
  obtain ⟨ps, rfl⟩ := hP
  refine (lcE (e1 := [.val (sv t n ls), .val (.int m), .val v, .own 0 ps, s4]) (ds := xs) (fun x => some (.bool (decide ((lv (ls.map en) (lotI x)).length = 1)))) ?_ (by omega) ?_).trans ?_
  · rcases hv with rfl | rfl <;> simp [evSs, evS, evE, evA, evP, evO, evD, evI, asgT, asgTs, rdp, rds, rdsAll, frzd, frzE, thaw, callO, arsOf, arOf, iosOf, distinct, backOut, rvO, pick, bltV, cmpV, eqii, eqbb, eqstr, binV, negV, ixt, ixl, at0, at1, at2, at3, at4, at5, ix20, ix21, lk0, lk1, lk2, lk3, lk4, lk5, lk6, putv, slotOf, finF, rvOf, outsOf, runF, slOf, setAt, tyIs, isNon, seqV, Nat.blt, mulOk2]
  · intro x hx
    have hlx := List.all_eq_true.mp hl x hx
    obtain ⟨q1, q2, q3⟩ := isLot_of hlx
    have c := leaving_ok (k := k) (t := t) (n := n) (ls := ls) q1 (by have := hS.ln; omega)
    have ll : ((lv (ls.map en) (lotI x)).map PyData.int).length = (lv (ls.map en) (lotI x)).length := List.length_map _
    generalize (lv (ls.map en) (lotI x)).map PyData.int = LL at c ll
    rw [← ll]
    have li : decide ((LL.length : Int) = 1) = decide (LL.length = 1) := by
      by_cases q : LL.length = 1
      · rw [decide_eq_true q, decide_eq_true (by omega)]
      · rw [decide_eq_false q, decide_eq_false (by omega)]
    refine ⟨[.val (sv t n ls), .val (.int m), .val v, .own 0 ps, .val x], true, [.val (sv t n ls), .val (.int m), .val v, .own 0 ps, .val x], ?_, ?_, by simp, fun _ => ⟨.bool (decide (LL.length = 1)), [.val (sv t n ls), .val (.int m), .val v, .own 0 ps, .val x], ?_, by simp [wipeE], rfl⟩⟩
    · simp [evSs, evS, evE, evA, evP, evO, evD, evI, asgT, asgTs, rdp, rds, rdsAll, frzd, frzE, thaw, callO, arsOf, arOf, iosOf, distinct, backOut, rvO, pick, bltV, cmpV, eqii, eqbb, eqstr, binV, negV, ixt, ixl, at0, at1, at2, at3, at4, at5, ix20, ix21, lk0, lk1, lk2, lk3, lk4, lk5, lk6, putv, slotOf, finF, rvOf, outsOf, runF, slOf, setAt, tyIs, isNon, seqV, Nat.blt, mulOk2, wipeE]
    · simp [evSs, evS, evE, evA, evP, evO, evD, evI, asgT, asgTs, rdp, rds, rdsAll, frzd, frzE, thaw, callO, arsOf, arOf, iosOf, distinct, backOut, rvO, pick, bltV, cmpV, eqii, eqbb, eqstr, binV, negV, ixt, ixl, at0, at1, at2, at3, at4, at5, ix20, ix21, lk0, lk1, lk2, lk3, lk4, lk5, lk6, putv, slotOf, finF, rvOf, outsOf, runF, slOf, setAt, tyIs, isNon, seqV, Nat.blt, mulOk2]
    · rw [← li]
      generalize hq : decide ((LL.length : Int) = 1) = q
      simp [evSs, evS, evE, evA, evP, evO, evD, evI, asgT, asgTs, rdp, rds, rdsAll, frzd, frzE, thaw, callO, arsOf, arOf, iosOf, distinct, backOut, rvO, pick, bltV, cmpV, eqii, eqbb, eqstr, binV, negV, ixt, ixl, at0, at1, at2, at3, at4, at5, ix20, ix21, lk0, lk1, lk2, lk3, lk4, lk5, lk6, putv, slotOf, finF, rvOf, outsOf, runF, slOf, setAt, tyIs, isNon, seqV, Nat.blt, mulOk2, c, hq]
  · rw [fmap_all]
    rcases s4v with rfl | ⟨d, rfl⟩ <;> simp [backE, wipeE, valOnly]
theorem pneed_loop {S M v : D} (hv : v = .list xs ∨ v = .tuple xs) (hz : xs.length ≤ 100) (hl : xs.all (isLotB n) = true) (hn : n ≤ 24) :
    ∃ s4, evS (G k) C0 s_is_need_paper_3 [.val S, .val M, .val v, .own 0 [], .emp] = some (.nx [.val S, .val M, .val v, .own 0 ((joined xs).map .int), s4]) ∧ (s4 = .emp ∨ ∃ d, s4 = .val d) ∧ (joined xs).length ≤ 2400 := by
  obtain ⟨fl, h1, s4, rfl, h2, h3⟩ := foE (F := G k) (C := C0) (t := .nm 4) (it := .it (.var 2)) (b := l_is_need_paper_2) (env := [.val S, .val M, .val v, .own 0 [], .emp]) (e1 := [.val S, .val M, .val v, .own 0 [], .emp]) (ds := xs)
    (fun ds e => ∃ s4 ps, e = [.val S, .val M, .val v, .own 0 (ps.map .int), s4] ∧ joined xs = ps ++ joined ds ∧ ds.all (isLotB n) = true ∧ (s4 = .emp ∨ ∃ d, s4 = .val d) ∧ ps.length + 24 * ds.length ≤ 2400)
    (fun fl => ∃ s4, fl = .nx [.val S, .val M, .val v, .own 0 ((joined xs).map .int), s4] ∧ (s4 = .emp ∨ ∃ d, s4 = .val d) ∧ (joined xs).length ≤ 2400) rfl
    (by rcases hv with rfl | rfl <;> simp [evSs, evS, evE, evA, evP, evO, evD, evI, asgT, asgTs, rdp, rds, rdsAll, frzd, frzE, thaw, callO, arsOf, arOf, iosOf, distinct, backOut, rvO, pick, bltV, cmpV, eqii, eqbb, eqstr, binV, negV, ixt, ixl, at0, at1, at2, at3, at4, at5, ix20, ix21, lk0, lk1, lk2, lk3, lk4, lk5, lk6, putv, slotOf, finF, rvOf, outsOf, runF, slOf, setAt, tyIs, isNon, seqV, Nat.blt, mulOk2]) ⟨.emp, [], rfl, rfl, hl, .inl rfl, by simp; omega⟩
    (by
      rintro e ⟨s4, ps, rfl, q1, _, q2, q3⟩
      have q1' : joined xs = ps := by rw [q1]; simp [joined]
      rw [q1']
      exact ⟨s4, rfl, q2, by simpa using q3⟩)
    (by
      rintro d ds e ⟨s4, ps, rfl, q1, q0, q2, q3⟩
      simp only [List.all_cons, Bool.and_eq_true] at q0
      obtain ⟨hv, nd, rg⟩ := isLot_of q0.1
      have dl : (lotI d).length ≤ 24 := by
        have := nodup_le (n := n.toNat) nd fun x hx => by have := rg x hx; omega
        omega
      have z : lenOk ((ps.map PyData.int).length + ((lotI d).map PyData.int).length) = true := lenOk_of (by simp at q3 ⊢; omega)
      refine ⟨[.val S, .val M, .val v, .own 0 (ps.map .int), .val d], .nx [.val S, .val M, .val v, .own 0 ((ps ++ lotI d).map .int), .val d], by simp [evSs, evS, evE, evA, evP, evO, evD, evI, asgT, asgTs, rdp, rds, rdsAll, frzd, frzE, thaw, callO, arsOf, arOf, iosOf, distinct, backOut, rvO, pick, bltV, cmpV, eqii, eqbb, eqstr, binV, negV, ixt, ixl, at0, at1, at2, at3, at4, at5, ix20, ix21, lk0, lk1, lk2, lk3, lk4, lk5, lk6, putv, slotOf, finF, rvOf, outsOf, runF, slOf, setAt, tyIs, isNon, seqV, Nat.blt, mulOk2], ?_, _, _, rfl, by rw [q1]; simp [joined], q0.2, .inr ⟨d, rfl⟩, by simp at q3 ⊢; omega⟩
      rw [List.map_append]
      unfold Lt at hv
      generalize ps.map PyData.int = PP at z ⊢
      generalize (lotI d).map PyData.int = II at z hv ⊢
      rcases hv with rfl | rfl <;> simp [evSs, evS, evE, evA, evP, evO, evD, evI, asgT, asgTs, rdp, rds, rdsAll, frzd, frzE, thaw, callO, arsOf, arOf, iosOf, distinct, backOut, rvO, pick, bltV, cmpV, eqii, eqbb, eqstr, binV, negV, ixt, ixl, at0, at1, at2, at3, at4, at5, ix20, ix21, lk0, lk1, lk2, lk3, lk4, lk5, lk6, putv, slotOf, finF, rvOf, outsOf, runF, slOf, setAt, tyIs, isNon, seqV, Nat.blt, mulOk2, l_is_need_paper_2, mthV, z])
  exact ⟨s4, h1, h2, h3⟩
theorem is_need_paper_ok (ht : t = "survey") (h : okS n ls) (hs : sm2 v) (hm : 0 ≤ m) : G (k + 8) i_is_need_paper [.pu (sv t n ls), .pu (.int m), .pu v] = some (.pu (.bool (needB n (ls.map en) m v)), []) := by
  rw [one (fn := ⟨3, 5, b_is_need_paper⟩) rfl]
  have ws := want_survey_ok (k := k) ht h
  have ic := is_count_ok (k := k + 5) hm
  have il := is_list_ok (k := k + 6) (d := v)
  change G (k + 7) _ _ = _ at ic il
  rcases seqV_c (v := v) with h0 | ⟨xs, h0, hv⟩
  · have hp : needB n (ls.map en) m v = false := by unfold needB; rw [h0]
    have hl : isLst v = false := by cases v <;> simp [seqV] at h0 <;> rfl
    rw [hp]
    rw [hl] at il
    generalize sv t n ls = S at ws ⊢
    (first | (change G (k + 7) _ _ = _ at ws) | skip); (first | (change G (k + 7) _ _ = _ at ic) | skip); (first | (change G (k + 7) _ _ = _ at il) | skip); generalize G (k + 7) = FF at ws ic il ⊢
    simp [evSs, evS, evE, evA, evP, evO, evD, evI, asgT, asgTs, rdp, rds, rdsAll, frzd, frzE, thaw, callO, arsOf, arOf, iosOf, distinct, backOut, rvO, pick, bltV, cmpV, eqii, eqbb, eqstr, binV, negV, ixt, ixl, at0, at1, at2, at3, at4, at5, ix20, ix21, lk0, lk1, lk2, lk3, lk4, lk5, lk6, putv, slotOf, finF, rvOf, outsOf, runF, slOf, setAt, tyIs, isNon, seqV, Nat.blt, mulOk2, b_is_need_paper, ws, ic, il]
  · obtain ⟨hz, hx⟩ := hs xs h0
    have hl : isLst v = true := by rcases hv with rfl | rfl <;> rfl
    rw [hl] at il
    have c1 := pneed_all (k := k + 4) (t := t) (n := n) (ls := ls) (m := m) hv hz hx
    change evE (G (k + 7)) _ _ _ = _ at c1
    have bm := bools_map (isLotB n) xs
    have ai := all_id (isLotB n) xs
    by_cases h1 : (xs.length : Int) ≤ 2 * m
    · have hp : needB n (ls.map en) m v = false := by unfold needB; rw [h0]; simp only [decide_eq_true h1]; rfl
      rw [hp]
      generalize sv t n ls = S at ws c1 ⊢
      (first | (change G (k + 7) _ _ = _ at ws) | skip); (first | (change G (k + 7) _ _ = _ at ic) | skip); (first | (change G (k + 7) _ _ = _ at il) | skip); (first | (change G (k + 7) _ _ = _ at c1) | skip); generalize G (k + 7) = FF at ws ic il c1 ⊢
      clear c1
      rcases hv with rfl | rfl <;> simp [evSs, evS, evE, evA, evP, evO, evD, evI, asgT, asgTs, rdp, rds, rdsAll, frzd, frzE, thaw, callO, arsOf, arOf, iosOf, distinct, backOut, rvO, pick, bltV, cmpV, eqii, eqbb, eqstr, binV, negV, ixt, ixl, at0, at1, at2, at3, at4, at5, ix20, ix21, lk0, lk1, lk2, lk3, lk4, lk5, lk6, putv, slotOf, finF, rvOf, outsOf, runF, slOf, setAt, tyIs, isNon, seqV, Nat.blt, mulOk2, b_is_need_paper, ws, ic, il, h1]
    · cases h2 : xs.all (isLotB n) with
      | false =>
        have hp : needB n (ls.map en) m v = false := by unfold needB; rw [h0]; simp only [h2, Bool.false_and, Bool.and_false]
        rw [hp]
        rw [h2] at ai
        generalize xs.map (isLotB n) = AA at bm ai
        generalize (xs.map fun x => PyData.bool (isLotB n x)) = BB at bm c1
        generalize sv t n ls = S at ws c1 ⊢
        (first | (change G (k + 7) _ _ = _ at ws) | skip); (first | (change G (k + 7) _ _ = _ at ic) | skip); (first | (change G (k + 7) _ _ = _ at il) | skip); (first | (change G (k + 7) _ _ = _ at c1) | skip); generalize G (k + 7) = FF at ws ic il c1 ⊢
        rcases hv with rfl | rfl <;> simp [evSs, evS, evE, evA, evP, evO, evD, evI, asgT, asgTs, rdp, rds, rdsAll, frzd, frzE, thaw, callO, arsOf, arOf, iosOf, distinct, backOut, rvO, pick, bltV, cmpV, eqii, eqbb, eqstr, binV, negV, ixt, ixl, at0, at1, at2, at3, at4, at5, ix20, ix21, lk0, lk1, lk2, lk3, lk4, lk5, lk6, putv, slotOf, finF, rvOf, outsOf, runF, slOf, setAt, tyIs, isNon, seqV, Nat.blt, mulOk2, b_is_need_paper, ws, ic, il, h1, c1, bm, ai]
      | true =>
        rw [h2] at ai
        obtain ⟨s4, l1, l2, l3⟩ := pneed_loop (k := k + 7) (S := sv t n ls) (M := .int m) (v := v) hv hz h2 h.n2
        have c2 := pneed_lv (k := k + 6) (t := t) (ls := ls) (m := m) hv hz h2 h l2 ⟨(joined xs).map .int, rfl⟩
        change evE (G (k + 7)) _ _ _ = _ at c2
        have bm2 := bools_map (fun x => decide ((lv (ls.map en) (lotI x)).length = 1)) xs
        have ai2 := all_id (fun x => decide ((lv (ls.map en) (lotI x)).length = 1)) xs
        have im := ints_map (joined xs)
        have l3' : (joined xs).length ≤ 4000 := by omega
        have l4 : ((joined xs).map PyData.int).length = (joined xs).length := List.length_map _
        obtain ⟨Q, hq1, hq2⟩ : ∃ Q, decide (((dedup [] (joined xs)).length : Int) = ((joined xs).length : Int)) = Q ∧ Q = decide ((joined xs).Nodup) := by
          refine ⟨_, rfl, ?_⟩
          have := dedup_nd (joined xs) [] (by simp)
          simp only [List.length_nil, Nat.zero_add, List.nil_append] at this
          by_cases q : (joined xs).Nodup
          · rw [decide_eq_true q]; exact decide_eq_true (by have := this.mpr q; omega)
          · rw [decide_eq_false q]; exact decide_eq_false fun e => q (this.mp (by omega))
        have hp : needB n (ls.map en) m v = (Q && xs.all (fun d => decide ((lv (ls.map en) (lotI d)).length = 1))) := by
          unfold needB; rw [h0, hq2]; simp only [h2, decide_eq_false h1, Bool.not_false, Bool.true_and]
          exact Bool.and_comm _ _
        rw [hp]
        have ne : eqD (.int (dedup [] (joined xs)).length) (.int (joined xs).length) = some Q := by rw [eqii, hq1]
        generalize xs.all (fun d => decide ((lv (ls.map en) (lotI d)).length = 1)) = R at ai2 ⊢
        generalize xs.map (isLotB n) = AA at bm ai
        generalize (xs.map fun x => PyData.bool (isLotB n x)) = BB at bm c1
        generalize (xs.map fun x => decide ((lv (ls.map en) (lotI x)).length = 1)) = AA2 at bm2 ai2
        generalize (xs.map fun x => PyData.bool (decide ((lv (ls.map en) (lotI x)).length = 1))) = BB2 at bm2 c2
        generalize (joined xs).map PyData.int = JJ at l1 c2 im l4
        generalize sv t n ls = S at ws c1 c2 l1 ⊢
        (first | (change G (k + 7) _ _ = _ at ws) | skip); (first | (change G (k + 7) _ _ = _ at ic) | skip); (first | (change G (k + 7) _ _ = _ at il) | skip); (first | (change G (k + 7) _ _ = _ at c1) | skip); (first | (change G (k + 7) _ _ = _ at c2) | skip); (first | (change G (k + 7) _ _ = _ at l1) | skip); generalize G (k + 7) = FF at ws ic il c1 c2 l1 ⊢
        have r5 : evE FF C0 (.cmp .eq (.lset (.var 3)) (.blt .len (.cons (.var 3) (.nil)))) [.val S, .val (.int m), .val v, .own 0 JJ, s4] = some (.pu (.bool Q), [.val S, .val (.int m), .val v, .own 0 JJ, s4]) := by
          simp [evE, evA, rds, rdsAll, thaw, bltV, cmpV, im, l3', Nat.blt, l4, ne]
        have r6 : evS FF C0 (.ret (.and2 (.cmp .eq (.lset (.var 3)) (.blt .len (.cons (.var 3) (.nil)))) (.blt .all1 (.cons (e_is_need_paper_1) (.nil))))) [.val S, .val (.int m), .val v, .own 0 JJ, s4] = some (.rt (.pu (.bool (Q && R))) [.val S, .val (.int m), .val v, .own 0 JJ, s4]) := by
          rw [evS, evE, r5]
          cases Q <;> simp [evSs, evS, evE, evA, evP, evO, evD, evI, asgT, asgTs, rdp, rds, rdsAll, frzd, frzE, thaw, callO, arsOf, arOf, iosOf, distinct, backOut, rvO, pick, bltV, cmpV, eqii, eqbb, eqstr, binV, negV, ixt, ixl, at0, at1, at2, at3, at4, at5, ix20, ix21, lk0, lk1, lk2, lk3, lk4, lk5, lk6, putv, slotOf, finF, rvOf, outsOf, runF, slOf, setAt, tyIs, isNon, seqV, Nat.blt, mulOk2, c2, bm2, ai2]
        have r7 : evSs FF C0 b_is_need_paper [.val S, .val (.int m), .val v, .emp, .emp] = some (.rt (.pu (.bool (Q && R))) [.val S, .val (.int m), .val v, .own 0 JJ, s4]) := by
          unfold b_is_need_paper
          generalize (IS.ret (.and2 (.cmp .eq (.lset (.var 3)) (.blt .len (.cons (.var 3) (.nil)))) (.blt .all1 (.cons (e_is_need_paper_1) (.nil))))) = RS at r6 ⊢
          clear r5 c2
          rcases hv with rfl | rfl <;> simp [evSs, evS, evE, evA, evP, evO, evD, evI, asgT, asgTs, rdp, rds, rdsAll, frzd, frzE, thaw, callO, arsOf, arOf, iosOf, distinct, backOut, rvO, pick, bltV, cmpV, eqii, eqbb, eqstr, binV, negV, ixt, ixl, at0, at1, at2, at3, at4, at5, ix20, ix21, lk0, lk1, lk2, lk3, lk4, lk5, lk6, putv, slotOf, finF, rvOf, outsOf, runF, slOf, setAt, tyIs, isNon, seqV, Nat.blt, mulOk2, ws, ic, il, h1, c1, bm, ai, l1, r6]
        exact runX rfl rfl ⟨_, r7, by simp [evSs, evS, evE, evA, evP, evO, evD, evI, asgT, asgTs, rdp, rds, rdsAll, frzd, frzE, thaw, callO, arsOf, arOf, iosOf, distinct, backOut, rvO, pick, bltV, cmpV, eqii, eqbb, eqstr, binV, negV, ixt, ixl, at0, at1, at2, at3, at4, at5, ix20, ix21, lk0, lk1, lk2, lk3, lk4, lk5, lk6, putv, slotOf, finF, rvOf, outsOf, runF, slOf, setAt, tyIs, isNon, seqV, Nat.blt, mulOk2]⟩
end
end K94

set_option Elab.async false
set_option linter.all false
set_option maxRecDepth 100000
set_option maxHeartbeats 4000000
namespace K94
open PySem Rf
/-! ### drawing -/
def Pot (p0 p1 : Int) : Prop := 0 ≤ p0 ∧ 0 ≤ p1 ∧ p1 < 2147483600
theorem sm {i : Int} (h0 : 0 ≤ i) (h1 : i < 18446744073709551616) : small64 i = true := by
  unfold small64 Nat.blt
  exact Nat.ble_eq_true_of_le (by omega)
theorem draw_ok {k : Nat} {p0 p1 m : Int} (h : Pot p0 p1) (h1 : 0 < m) (h2 : m < 1073741824) : ∃ d q0 q1, G (k + 1) 0 [.io [.int p0, .int p1], .pu (.int m)] = some (.pu (.int d), [[.int q0, .int q1]]) ∧ Pot q0 q1 ∧ 0 ≤ d ∧ d < m := by
  obtain ⟨a0, a1, a2⟩ := h
  by_cases hp : 0 < p0
  · refine ⟨p0 % m, p0 / m, p1, ?_, ⟨Int.ediv_nonneg a0 (by omega), a1, a2⟩, Int.emod_nonneg _ (by omega), Int.emod_lt_of_pos _ h1⟩
    rw [one (fn := ⟨2, 3, b__law_draw⟩) rfl]
    generalize G k = FF
    simp [evSs, evS, evE, evA, evP, evO, evD, evI, asgT, asgTs, rdp, rds, rdsAll, frzd, frzE, thaw, callO, arsOf, arOf, iosOf, distinct, backOut, rvO, pick, bltV, cmpV, eqii, eqbb, eqstr, binV, negV, ixt, ixl, at0, at1, at2, at3, at4, at5, ix20, ix21, lk0, lk1, lk2, lk3, lk4, lk5, lk6, putv, slotOf, finF, rvOf, outsOf, runF, slOf, setAt, tyIs, isNon, seqV, Nat.blt, mulOk2, b__law_draw, hp, h1, h2]
  · have s1 : mulOk p1 40692 = true := by unfold mulOk; rw [sm a1 (by omega)]; rfl
    have n0 : 0 ≤ (p1 * 40692 + 9887) % 2147483587 := Int.emod_nonneg _ (by decide)
    have n1 : (p1 * 40692 + 9887) % 2147483587 < 2147483587 := Int.emod_lt_of_pos _ (by decide)
    generalize hq : (p1 * 40692 + 9887) % 2147483587 = q at n0 n1
    have s2 : mulOk q q = true := by unfold mulOk; rw [sm n0 (by omega)]; rfl
    refine ⟨(q * q % 2147483549 / 17) % m, p0, q, ?_, ⟨a0, n0, by omega⟩, Int.emod_nonneg _ (by omega), Int.emod_lt_of_pos _ h1⟩
    rw [one (fn := ⟨2, 3, b__law_draw⟩) rfl]
    generalize G k = FF
    simp [evSs, evS, evE, evA, evP, evO, evD, evI, asgT, asgTs, rdp, rds, rdsAll, frzd, frzE, thaw, callO, arsOf, arOf, iosOf, distinct, backOut, rvO, pick, bltV, cmpV, eqii, eqbb, eqstr, binV, negV, ixt, ixl, at0, at1, at2, at3, at4, at5, ix20, ix21, lk0, lk1, lk2, lk3, lk4, lk5, lk6, putv, slotOf, finF, rvOf, outsOf, runF, slOf, setAt, tyIs, isNon, seqV, Nat.blt, mulOk2, b__law_draw, hp, h1, h2, s1, s2, hq, show Nat.log2 17 ≤ 8999 by decide +kernel]
theorem atI_in {α : Type} {xs : List α} {d : Int} (h0 : 0 ≤ d) (h1 : d < xs.length) : ∃ x, L2.atI xs d = some x ∧ x ∈ xs := by
  have hl : d.toNat < xs.length := by omega
  refine ⟨xs[d.toNat], ?_, List.getElem_mem _⟩
  unfold L2.atI L2.ixN
  rw [if_pos h0, if_pos (by exact_mod_cast h1)]
  simp [hl]
theorem pick_ok {k : Nat} {p0 p1 : Int} {xs : List D} (h : Pot p0 p1) (h1 : 0 < xs.length) (h2 : xs.length < 1000) : ∃ x q0 q1, G (k + 2) 7 [.io [.int p0, .int p1], .pu (.list xs)] = some (.pu x, [[.int q0, .int q1]]) ∧ Pot q0 q1 ∧ x ∈ xs := by
  obtain ⟨d, q0, q1, e, hp, d0, d1⟩ := draw_ok (k := k) (m := (xs.length : Int)) h (by omega) (by omega)
  obtain ⟨x, hx, hm⟩ := atI_in d0 d1
  refine ⟨x, q0, q1, ?_, hp, hm⟩
  rw [one (fn := ⟨2, 2, b__law_pick⟩) rfl]
  (first | (change G (k + 1) _ _ = _ at e) | skip); generalize G (k + 1) = FF at e ⊢
  simp [evSs, evS, evE, evA, evP, evO, evD, evI, asgT, asgTs, rdp, rds, rdsAll, frzd, frzE, thaw, callO, arsOf, arOf, iosOf, distinct, backOut, rvO, pick, bltV, cmpV, eqii, eqbb, eqstr, binV, negV, ixt, ixl, at0, at1, at2, at3, at4, at5, ix20, ix21, lk0, lk1, lk2, lk3, lk4, lk5, lk6, putv, slotOf, finF, rvOf, outsOf, runF, slOf, setAt, tyIs, isNon, seqV, Nat.blt, mulOk2, b__law_pick, e, hx]
/-! ### surveys drawn -/
def okP (n : Int) (f : List (Int × Int)) : Prop := ∀ p ∈ f, 0 ≤ p.1 ∧ p.1 < n ∧ 0 ≤ p.2 ∧ p.2 < n ∧ p.1 ≠ p.2
theorem okP_app {n a b : Int} {f : List (Int × Int)} (h : okP n f) (g : 0 ≤ a ∧ a < n ∧ 0 ≤ b ∧ b < n ∧ a ≠ b) : okP n (f ++ [(a, b)]) := fun p hp => by
  rcases List.mem_append.mp hp with hp | hp
  · exact h p hp
  · simp at hp; subst hp; exact g
def bareD : D := .tuple [.tuple [.int 0, .int 1]]
section
variable {k : Nat} {n m : Int}
theorem shape_a {p0 p1 : Int} (hp : Pot p0 p1) (n2 : 2 ≤ n) (n7 : n ≤ 7) : ∃ f q0 q1 s3, evS (G (k + 1)) C0 s__law_shape_6 [.own 1 [.int p0, .int p1], .val (.int n), .val (.int m), .emp, .emp, .emp, .own 0 [], .val bareD, .emp, .emp, .emp] =
    some (.nx [.own 1 [.int q0, .int q1], .val (.int n), .val (.int m), s3, .emp, .emp, .own 0 (f.map prD), .val bareD, .emp, .emp, .emp]) ∧ Pot q0 q1 ∧ okP n f ∧ f.length ≤ 6 := by
  have hr : rngV (.int 1) (.int n) = some (ups 1 (n - 1).toNat) := by
    have ok : rngOk 1 n = true := by unfold rngOk; simp; omega
    show (if rngOk 1 n = true then some (ups 1 (n - 1).toNat) else none) = _
    rw [if_pos ok]
  have hu : ∀ d ∈ ups 1 (n - 1).toNat, ∃ i, d = .int i ∧ 1 ≤ i ∧ i < n := fun d hd => by
    rw [ups_eq] at hd
    obtain ⟨i, hi, rfl⟩ := List.mem_map.mp hd
    obtain ⟨j, hj, rfl⟩ := List.mem_map.mp hi
    have := List.mem_range.mp hj
    exact ⟨_, rfl, by omega, by omega⟩
  obtain ⟨fl, h1, f, q0, q1, s3, rfl, h2, h3, h4⟩ := foE (F := G (k + 1)) (C := C0) (t := .nm 3) (it := .rng (.cst (.int 1)) (.var 1)) (b := l__law_shape_5) (env := [.own 1 [.int p0, .int p1], .val (.int n), .val (.int m), .emp, .emp, .emp, .own 0 [], .val bareD, .emp, .emp, .emp])
    (e1 := [.own 1 [.int p0, .int p1], .val (.int n), .val (.int m), .emp, .emp, .emp, .own 0 [], .val bareD, .emp, .emp, .emp]) (ds := ups 1 (n - 1).toNat)
    (fun ds e => ∃ f q0 q1 s3, e = [.own 1 [.int q0, .int q1], .val (.int n), .val (.int m), s3, .emp, .emp, .own 0 (f.map prD), .val bareD, .emp, .emp, .emp] ∧ Pot q0 q1 ∧ okP n f ∧ f.length + ds.length ≤ 6 ∧ ∀ d ∈ ds, ∃ i, d = .int i ∧ 1 ≤ i ∧ i < n)
    (fun fl => ∃ f q0 q1 s3, fl = .nx [.own 1 [.int q0, .int q1], .val (.int n), .val (.int m), s3, .emp, .emp, .own 0 (f.map prD), .val bareD, .emp, .emp, .emp] ∧ Pot q0 q1 ∧ okP n f ∧ f.length ≤ 6) rfl
    (rngE (e1 := [.own 1 [.int p0, .int p1], .val (.int n), .val (.int m), .emp, .emp, .emp, .own 0 [], .val bareD, .emp, .emp, .emp]) (e2 := [.own 1 [.int p0, .int p1], .val (.int n), .val (.int m), .emp, .emp, .emp, .own 0 [], .val bareD, .emp, .emp, .emp]) (a := .int 1) (b := .int n) (by simp [evSs, evS, evE, evA, evP, evO, evD, evI, asgT, asgTs, rdp, rds, rdsAll, frzd, frzE, thaw, callO, arsOf, arOf, iosOf, distinct, backOut, rvO, pick, bltV, cmpV, eqii, eqbb, eqstr, binV, negV, ixt, ixl, at0, at1, at2, at3, at4, at5, ix20, ix21, lk0, lk1, lk2, lk3, lk4, lk5, lk6, putv, slotOf, finF, rvOf, outsOf, runF, slOf, setAt, tyIs, isNon, seqV, Nat.blt, mulOk2]) (by simp [evSs, evS, evE, evA, evP, evO, evD, evI, asgT, asgTs, rdp, rds, rdsAll, frzd, frzE, thaw, callO, arsOf, arOf, iosOf, distinct, backOut, rvO, pick, bltV, cmpV, eqii, eqbb, eqstr, binV, negV, ixt, ixl, at0, at1, at2, at3, at4, at5, ix20, ix21, lk0, lk1, lk2, lk3, lk4, lk5, lk6, putv, slotOf, finF, rvOf, outsOf, runF, slOf, setAt, tyIs, isNon, seqV, Nat.blt, mulOk2]) hr) ⟨[], p0, p1, .emp, rfl, hp, (fun _ z => nomatch z), by rw [ups_len]; simp; omega, hu⟩
    (fun e ⟨f, q0, q1, s3, q1', q2, q3, q4, _⟩ => ⟨f, q0, q1, s3, by rw [q1'], q2, q3, by simpa using q4⟩)
    (by
      rintro d ds e ⟨f, q0, q1, s3, rfl, q2, q3, q4, q5⟩
      obtain ⟨i, rfl, i1, i2⟩ := q5 d List.mem_cons_self
      have q5' := fun d hd => q5 d (List.mem_cons_of_mem _ hd)
      obtain ⟨d1, a0, a1, e1, g1, l1, u1⟩ := draw_ok (k := k) (m := 8) q2 (by decide) (by decide)
      obtain ⟨d2, b0, b1, e2, g2, l2, u2⟩ := draw_ok (k := k) (m := i) g1 (by omega) (by omega)
      have bl : (f.map prD).length ≤ 16777215 := by simp at q4 ⊢; omega
      refine ⟨[.own 1 [.int q0, .int q1], .val (.int n), .val (.int m), .val (.int i), .emp, .emp, .own 0 (f.map prD), .val bareD, .emp, .emp, .emp], ?_⟩
      by_cases c : 0 < d1
      · refine ⟨.nx [.own 1 [.int b0, .int b1], .val (.int n), .val (.int m), .val (.int i), .emp, .emp, .own 0 ((f ++ [(i, d2)]).map prD), .val bareD, .emp, .emp, .emp], by simp [evSs, evS, evE, evA, evP, evO, evD, evI, asgT, asgTs, rdp, rds, rdsAll, frzd, frzE, thaw, callO, arsOf, arOf, iosOf, distinct, backOut, rvO, pick, bltV, cmpV, eqii, eqbb, eqstr, binV, negV, ixt, ixl, at0, at1, at2, at3, at4, at5, ix20, ix21, lk0, lk1, lk2, lk3, lk4, lk5, lk6, putv, slotOf, finF, rvOf, outsOf, runF, slOf, setAt, tyIs, isNon, seqV, Nat.blt, mulOk2], ?_, _, _, _, _, rfl, g2, okP_app q3 (by omega), by simp at q4 ⊢; omega, q5'⟩
        rw [List.map_append]
        generalize f.map prD = FP at bl ⊢
        (first | (change G (k + 1) _ _ = _ at e1) | skip); (first | (change G (k + 1) _ _ = _ at e2) | skip); generalize G (k + 1) = FF at e1 e2 ⊢
        simp [evSs, evS, evE, evA, evP, evO, evD, evI, asgT, asgTs, rdp, rds, rdsAll, frzd, frzE, thaw, callO, arsOf, arOf, iosOf, distinct, backOut, rvO, pick, bltV, cmpV, eqii, eqbb, eqstr, binV, negV, ixt, ixl, at0, at1, at2, at3, at4, at5, ix20, ix21, lk0, lk1, lk2, lk3, lk4, lk5, lk6, putv, slotOf, finF, rvOf, outsOf, runF, slOf, setAt, tyIs, isNon, seqV, Nat.blt, mulOk2, l__law_shape_5, e1, e2, c, mthV, bl, prD]
      · refine ⟨.nx [.own 1 [.int a0, .int a1], .val (.int n), .val (.int m), .val (.int i), .emp, .emp, .own 0 (f.map prD), .val bareD, .emp, .emp, .emp], by simp [evSs, evS, evE, evA, evP, evO, evD, evI, asgT, asgTs, rdp, rds, rdsAll, frzd, frzE, thaw, callO, arsOf, arOf, iosOf, distinct, backOut, rvO, pick, bltV, cmpV, eqii, eqbb, eqstr, binV, negV, ixt, ixl, at0, at1, at2, at3, at4, at5, ix20, ix21, lk0, lk1, lk2, lk3, lk4, lk5, lk6, putv, slotOf, finF, rvOf, outsOf, runF, slOf, setAt, tyIs, isNon, seqV, Nat.blt, mulOk2], ?_, _, _, _, _, rfl, g1, q3, by simp at q4 ⊢; omega, q5'⟩
        generalize f.map prD = FP at bl ⊢
        (first | (change G (k + 1) _ _ = _ at e1) | skip); (first | (change G (k + 1) _ _ = _ at e2) | skip); generalize G (k + 1) = FF at e1 e2 ⊢
        simp [evSs, evS, evE, evA, evP, evO, evD, evI, asgT, asgTs, rdp, rds, rdsAll, frzd, frzE, thaw, callO, arsOf, arOf, iosOf, distinct, backOut, rvO, pick, bltV, cmpV, eqii, eqbb, eqstr, binV, negV, ixt, ixl, at0, at1, at2, at3, at4, at5, ix20, ix21, lk0, lk1, lk2, lk3, lk4, lk5, lk6, putv, slotOf, finF, rvOf, outsOf, runF, slOf, setAt, tyIs, isNon, seqV, Nat.blt, mulOk2, l__law_shape_5, e1, e2, c])
  exact ⟨f, q0, q1, s3, h1, h2, h3, h4⟩
theorem shape_b {p0 p1 : Int} {f0 : List (Int × Int)} {s3 : Sl} (hp : Pot p0 p1) (n2 : 2 ≤ n) (n7 : n ≤ 7) (m0 : 0 ≤ m) (m3 : m ≤ 3) (hf : okP n f0) (hl : f0.length ≤ 6) : ∃ f q0 q1 s4 s8, evS (G (k + 1)) C0 s__law_shape_4 [.own 1 [.int p0, .int p1], .val (.int n), .val (.int m), s3, .emp, .emp, .own 0 (f0.map prD), .val bareD, .emp, .emp, .emp] =
    some (.nx [.own 1 [.int q0, .int q1], .val (.int n), .val (.int m), s3, s4, .emp, .own 0 (f.map prD), .val bareD, s8, .emp, .emp]) ∧ Pot q0 q1 ∧ okP n f ∧ f.length ≤ 10 := by
  obtain ⟨fl, h1, f, q0, q1, s4, s8, rfl, h2, h3, h4⟩ := foE (F := G (k + 1)) (C := C0) (t := .nm 4) (it := .rng (.cst (.int 0)) (.var 2)) (b := l__law_shape_3) (env := [.own 1 [.int p0, .int p1], .val (.int n), .val (.int m), s3, .emp, .emp, .own 0 (f0.map prD), .val bareD, .emp, .emp, .emp])
    (e1 := [.own 1 [.int p0, .int p1], .val (.int n), .val (.int m), s3, .emp, .emp, .own 0 (f0.map prD), .val bareD, .emp, .emp, .emp]) (ds := (iot m.toNat).map .int)
    (fun ds e => ∃ f q0 q1 s4 s8, e = [.own 1 [.int q0, .int q1], .val (.int n), .val (.int m), s3, s4, .emp, .own 0 (f.map prD), .val bareD, s8, .emp, .emp] ∧ Pot q0 q1 ∧ okP n f ∧ f.length + ds.length ≤ 10)
    (fun fl => ∃ f q0 q1 s4 s8, fl = .nx [.own 1 [.int q0, .int q1], .val (.int n), .val (.int m), s3, s4, .emp, .own 0 (f.map prD), .val bareD, s8, .emp, .emp] ∧ Pot q0 q1 ∧ okP n f ∧ f.length ≤ 10) rfl
    (rngE (e1 := [.own 1 [.int p0, .int p1], .val (.int n), .val (.int m), s3, .emp, .emp, .own 0 (f0.map prD), .val bareD, .emp, .emp, .emp]) (e2 := [.own 1 [.int p0, .int p1], .val (.int n), .val (.int m), s3, .emp, .emp, .own 0 (f0.map prD), .val bareD, .emp, .emp, .emp]) (a := .int 0) (b := .int m) (by simp [evSs, evS, evE, evA, evP, evO, evD, evI, asgT, asgTs, rdp, rds, rdsAll, frzd, frzE, thaw, callO, arsOf, arOf, iosOf, distinct, backOut, rvO, pick, bltV, cmpV, eqii, eqbb, eqstr, binV, negV, ixt, ixl, at0, at1, at2, at3, at4, at5, ix20, ix21, lk0, lk1, lk2, lk3, lk4, lk5, lk6, putv, slotOf, finF, rvOf, outsOf, runF, slOf, setAt, tyIs, isNon, seqV, Nat.blt, mulOk2]) (by simp [evSs, evS, evE, evA, evP, evO, evD, evI, asgT, asgTs, rdp, rds, rdsAll, frzd, frzE, thaw, callO, arsOf, arOf, iosOf, distinct, backOut, rvO, pick, bltV, cmpV, eqii, eqbb, eqstr, binV, negV, ixt, ixl, at0, at1, at2, at3, at4, at5, ix20, ix21, lk0, lk1, lk2, lk3, lk4, lk5, lk6, putv, slotOf, finF, rvOf, outsOf, runF, slOf, setAt, tyIs, isNon, seqV, Nat.blt, mulOk2]) (rng_iot m0 (by omega))) ⟨f0, p0, p1, .emp, .emp, rfl, hp, hf, by rw [List.length_map, iot_len]; omega⟩
    (fun e ⟨f, q0, q1, s4, s8, q1', q2, q3, q4⟩ => ⟨f, q0, q1, s4, s8, by rw [q1'], q2, q3, by simpa using q4⟩)
    (by
      rintro d ds e ⟨f, q0, q1, s4, s8, rfl, q2, q3, q4⟩
      obtain ⟨d1, a0, a1, e1, g1, l1, u1⟩ := draw_ok (k := k) (m := n) q2 (by omega) (by omega)
      obtain ⟨d2, b0, b1, e2, g2, l2, u2⟩ := draw_ok (k := k) (m := n - 1) g1 (by omega) (by omega)
      have bl : (f.map prD).length ≤ 16777215 := by simp at q4 ⊢; omega
      have np : 0 < n := by omega
      have r0 : 0 ≤ (d1 + 1 + d2) % n := Int.emod_nonneg _ (by omega)
      have r1 : (d1 + 1 + d2) % n < n := Int.emod_lt_of_pos _ np
      have r2 : d1 ≠ (d1 + 1 + d2) % n := fun e => by
        by_cases c : d1 + 1 + d2 < n
        · rw [Int.emod_eq_of_lt (by omega) c] at e; omega
        · have : (d1 + 1 + d2) % n = d1 + 1 + d2 - n := by
            rw [← Int.sub_emod_right]
            exact Int.emod_eq_of_lt (by omega) (by omega)
          omega
      refine ⟨[.own 1 [.int q0, .int q1], .val (.int n), .val (.int m), s3, .val d, .emp, .own 0 (f.map prD), .val bareD, s8, .emp, .emp], .nx [.own 1 [.int b0, .int b1], .val (.int n), .val (.int m), s3, .val d, .emp, .own 0 ((f ++ [(d1, (d1 + 1 + d2) % n)]).map prD), .val bareD, .val (.int d1), .emp, .emp], by simp [evSs, evS, evE, evA, evP, evO, evD, evI, asgT, asgTs, rdp, rds, rdsAll, frzd, frzE, thaw, callO, arsOf, arOf, iosOf, distinct, backOut, rvO, pick, bltV, cmpV, eqii, eqbb, eqstr, binV, negV, ixt, ixl, at0, at1, at2, at3, at4, at5, ix20, ix21, lk0, lk1, lk2, lk3, lk4, lk5, lk6, putv, slotOf, finF, rvOf, outsOf, runF, slOf, setAt, tyIs, isNon, seqV, Nat.blt, mulOk2], ?_, _, _, _, _, _, rfl, g2, okP_app q3 (by omega), by simp at q4 ⊢; omega⟩
      rw [List.map_append]
      generalize f.map prD = FP at bl ⊢
      (first | (change G (k + 1) _ _ = _ at e1) | skip); (first | (change G (k + 1) _ _ = _ at e2) | skip); generalize G (k + 1) = FF at e1 e2 ⊢
      simp [evSs, evS, evE, evA, evP, evO, evD, evI, asgT, asgTs, rdp, rds, rdsAll, frzd, frzE, thaw, callO, arsOf, arOf, iosOf, distinct, backOut, rvO, pick, bltV, cmpV, eqii, eqbb, eqstr, binV, negV, ixt, ixl, at0, at1, at2, at3, at4, at5, ix20, ix21, lk0, lk1, lk2, lk3, lk4, lk5, lk6, putv, slotOf, finF, rvOf, outsOf, runF, slOf, setAt, tyIs, isNon, seqV, Nat.blt, mulOk2, l__law_shape_3, e1, e2, mthV, bl, prD, np])
  exact ⟨f, q0, q1, s4, s8, h1, h2, h3, h4⟩
theorem nil_pr (f : List (Int × Int)) : eqD (.list (f.map prD)) (.list []) = some (decide (f = [])) := by
  rw [eq_nilL (shaped_l prD f (fun x _ => rfl) fun x _ => by simp [prD, PyData.depth, PyData.depthAll])]
  simp
theorem erase_map {α : Type} (g : α → D) : ∀ (l : List α) (i : Nat), (l.map g).eraseIdx i = (l.eraseIdx i).map g
  | [], _ => rfl
  | a :: l, 0 => rfl
  | a :: l, i + 1 => by simp [List.eraseIdx, erase_map g l i]
theorem shape_c {p0 p1 : Int} {f0 : List (Int × Int)} {s3 s4 s8 : Sl} (hp : Pot p0 p1) (hf : okP n f0) (hl : f0.length ≤ 10) : ∃ (ls : List Lg) (q0 q1 : Int) (r8 s9 s10 : Sl), evS (G (k + 1)) C0 s__law_shape_2 [.own 1 [.int p0, .int p1], .val (.int n), .val (.int m), s3, s4, .own 0 [], .own 0 (f0.map prD), .val bareD, s8, .emp, .emp] =
    some (.nx [.own 1 [.int q0, .int q1], .val (.int n), .val (.int m), s3, s4, .own 0 (ls.map lgD), .own 0 [], .val bareD, r8, s9, s10]) ∧ Pot q0 q1 ∧ (∀ l ∈ ls, okL n l) ∧ ls.length ≤ 10 := by
  obtain ⟨fl, h1, ls, q0, q1, s8', s9, s10, rfl, h2, h3, h4⟩ := whE (F := G (k + 1)) (C := C0) (c := .cmp .ne (.var 6) (.lst (.nil))) (b := l__law_shape_1) (env := [.own 1 [.int p0, .int p1], .val (.int n), .val (.int m), s3, s4, .own 0 [], .own 0 (f0.map prD), .val bareD, s8, .emp, .emp])
    (fun c e => ∃ (f : List (Int × Int)) (ls : List Lg) (q0 q1 : Int) (s8 s9 s10 : Sl), e = [.own 1 [.int q0, .int q1], .val (.int n), .val (.int m), s3, s4, .own 0 (ls.map lgD), .own 0 (f.map prD), .val bareD, s8, s9, s10] ∧ Pot q0 q1 ∧ okP n f ∧ (∀ l ∈ ls, okL n l) ∧ ls.length + f.length ≤ 10 ∧ f.length = c)
    (fun fl => ∃ (ls : List Lg) (q0 q1 : Int) (s8 s9 s10 : Sl), fl = .nx [.own 1 [.int q0, .int q1], .val (.int n), .val (.int m), s3, s4, .own 0 (ls.map lgD), .own 0 [], .val bareD, s8, s9, s10] ∧ Pot q0 q1 ∧ (∀ l ∈ ls, okL n l) ∧ ls.length ≤ 10)
    f0.length (by omega) ⟨f0, [], p0, p1, s8, .emp, .emp, rfl, hp, hf, (fun _ z => nomatch z), by simpa using hl, rfl⟩
    (by
      rintro c e ⟨f, ls, q0, q1, s8, s9, s10, rfl, q2, q3, q4, q5, q6⟩
      have np := nil_pr f
      refine ⟨!decide (f = []), [.own 1 [.int q0, .int q1], .val (.int n), .val (.int m), s3, s4, .own 0 (ls.map lgD), .own 0 (f.map prD), .val bareD, s8, s9, s10], ?_, fun hk => ?_, fun hk => ?_⟩
      · generalize hB : decide (f = []) = B at np ⊢
        generalize f.map prD = FP at np ⊢
        simp [evSs, evS, evE, evA, evP, evO, evD, evI, asgT, asgTs, rdp, rds, rdsAll, frzd, frzE, thaw, callO, arsOf, arOf, iosOf, distinct, backOut, rvO, pick, bltV, cmpV, eqii, eqbb, eqstr, binV, negV, ixt, ixl, at0, at1, at2, at3, at4, at5, ix20, ix21, lk0, lk1, lk2, lk3, lk4, lk5, lk6, putv, slotOf, finF, rvOf, outsOf, runF, slOf, setAt, tyIs, isNon, seqV, Nat.blt, mulOk2, np]
      · have : f = [] := by simpa using hk
        subst this
        exact ⟨ls, q0, q1, s8, s9, s10, rfl, q2, q4, by simpa using q5⟩
      · have ne : f ≠ [] := by simpa using hk
        have fl : 0 < f.length := List.length_pos_iff.mpr ne
        obtain ⟨d1, a0, a1, e1, g1, l1, u1⟩ := draw_ok (k := k) (m := (f.length : Int)) q2 (by omega) (by omega)
        obtain ⟨d2, b0, b1, e2, g2, l2, u2⟩ := draw_ok (k := k) (m := 2) g1 (by decide) (by decide)
        obtain ⟨d3, c0, c1, e3, g3, l3, u3⟩ := draw_ok (k := k) (m := 6) g2 (by decide) (by decide)
        have hd : d1.toNat < f.length := by omega
        have hx : L2.ixN (f.map prD).length d1 = some d1.toNat := by unfold L2.ixN; rw [if_pos l1, if_pos (by simpa using u1)]
        obtain ⟨⟨a, b⟩, hab⟩ : ∃ p, f[d1.toNat]? = some p := ⟨_, List.getElem?_eq_getElem hd⟩
        have hg : (f.map prD)[d1.toNat]? = some (.tuple [.int a, .int b]) := by rw [List.getElem?_map, hab]; rfl
        have hok := q3 _ (List.mem_of_getElem? hab)
        have he := erase_map prD f d1.toNat
        have hlen : ((f.map prD).length : Int) = (f.length : Int) := by simp
        rw [← hlen] at e1
        have r1 : -9223372036854775808 ≤ d1 := by omega
        have r2 : d1 < 9223372036854775808 := by omega
        have bl : (ls.map lgD).length ≤ 16777215 := by simp; omega
        by_cases c : d2 = 0
        · refine ⟨.nx [.own 1 [.int c0, .int c1], .val (.int n), .val (.int m), s3, s4, .own 0 ((ls ++ [(d3, a, b)]).map lgD), .own 0 ((f.eraseIdx d1.toNat).map prD), .val bareD, .val (.int a), .val (.tuple [.int a, .int b]), .val (.int b)], ?_, f.length - 1, by omega, _, _, _, _, _, _, _, rfl, g3, fun p hp => q3 p (List.mem_of_mem_eraseIdx hp), fun l hl => ?_, ?_, ?_⟩
          · rw [List.map_append, ← he]
            generalize f.map prD = FP at hx hg e1 ⊢
            generalize ls.map lgD = LL at bl ⊢
            subst c
            (first | (change G (k + 1) _ _ = _ at e1) | skip); (first | (change G (k + 1) _ _ = _ at e2) | skip); (first | (change G (k + 1) _ _ = _ at e3) | skip); generalize G (k + 1) = FF at e1 e2 e3 ⊢
            simp [evSs, evS, evE, evA, evP, evO, evD, evI, asgT, asgTs, rdp, rds, rdsAll, frzd, frzE, thaw, callO, arsOf, arOf, iosOf, distinct, backOut, rvO, pick, bltV, cmpV, eqii, eqbb, eqstr, binV, negV, ixt, ixl, at0, at1, at2, at3, at4, at5, ix20, ix21, lk0, lk1, lk2, lk3, lk4, lk5, lk6, putv, slotOf, finF, rvOf, outsOf, runF, slOf, setAt, tyIs, isNon, seqV, Nat.blt, mulOk2, l__law_shape_1, e1, e2, e3, mthV, hx, hg, r1, r2, bl, lgD, bareD]
          · rcases List.mem_append.mp hl with hl | hl
            · exact q4 l hl
            · simp at hl; subst hl; exact ⟨l3, by omega, hok⟩
          · rw [List.length_eraseIdx_of_lt hd]; simp; omega
          · rw [List.length_eraseIdx_of_lt hd]
        · refine ⟨.nx [.own 1 [.int c0, .int c1], .val (.int n), .val (.int m), s3, s4, .own 0 ((ls ++ [(d3, b, a)]).map lgD), .own 0 ((f.eraseIdx d1.toNat).map prD), .val bareD, .val (.int a), .val (.tuple [.int b, .int a]), .val (.int b)], ?_, f.length - 1, by omega, _, _, _, _, _, _, _, rfl, g3, fun p hp => q3 p (List.mem_of_mem_eraseIdx hp), fun l hl => ?_, ?_, ?_⟩
          · rw [List.map_append, ← he]
            generalize f.map prD = FP at hx hg e1 ⊢
            generalize ls.map lgD = LL at bl ⊢
            (first | (change G (k + 1) _ _ = _ at e1) | skip); (first | (change G (k + 1) _ _ = _ at e2) | skip); (first | (change G (k + 1) _ _ = _ at e3) | skip); generalize G (k + 1) = FF at e1 e2 e3 ⊢
            simp [evSs, evS, evE, evA, evP, evO, evD, evI, asgT, asgTs, rdp, rds, rdsAll, frzd, frzE, thaw, callO, arsOf, arOf, iosOf, distinct, backOut, rvO, pick, bltV, cmpV, eqii, eqbb, eqstr, binV, negV, ixt, ixl, at0, at1, at2, at3, at4, at5, ix20, ix21, lk0, lk1, lk2, lk3, lk4, lk5, lk6, putv, slotOf, finF, rvOf, outsOf, runF, slOf, setAt, tyIs, isNon, seqV, Nat.blt, mulOk2, l__law_shape_1, e1, e2, e3, mthV, hx, hg, r1, r2, bl, lgD, bareD, c]
          · rcases List.mem_append.mp hl with hl | hl
            · exact q4 l hl
            · simp at hl; subst hl; obtain ⟨o1, o2, o3, o4, o5⟩ := hok; exact ⟨l3, by omega, o3, o4, o1, o2, fun e => o5 e.symm⟩
          · rw [List.length_eraseIdx_of_lt hd]; simp; omega
          · rw [List.length_eraseIdx_of_lt hd])
  exact ⟨ls, q0, q1, s8', s9, s10, h1, h2, h3, h4⟩
theorem shape_ok {p0 p1 : Int} (hp : Pot p0 p1) (n2 : 2 ≤ n) (n7 : n ≤ 7) (m0 : 0 ≤ m) (m3 : m ≤ 3) : ∃ ls q0 q1, G (k + 2) i__law_shape [.io [.int p0, .int p1], .pu (.int n), .pu (.int m)] = some (.pu (sv "survey" n ls), [[.int q0, .int q1]]) ∧ Pot q0 q1 ∧ okS n ls ∧ ls.length ≤ 10 := by
  obtain ⟨f, a0, a1, s3, e1, g1, f1, l1⟩ := shape_a (k := k) (m := m) hp n2 n7
  obtain ⟨f', b0, b1, s4, s8, e2, g2, f2, l2⟩ := shape_b (k := k) (m := m) (s3 := s3) g1 n2 n7 m0 m3 f1 l1
  obtain ⟨ls, c0, c1, s8', s9, s10, e3, g3, f3, l3⟩ := shape_c (k := k) (m := m) (s3 := s3) (s4 := s4) (s8 := s8) g2 f2 l2
  refine ⟨ls, c0, c1, ?_, g3, ⟨by omega, by omega, by omega, f3⟩, l3⟩
  rw [one (fn := ⟨3, 11, b__law_shape⟩) rfl, sv_eq]
  generalize ls.map lgD = LL at e3 ⊢
  generalize f.map prD = FP at e1 e2
  generalize f'.map prD = FP2 at e2 e3
  unfold bareD at e1 e2 e3
  (first | (change G (k + 1) _ _ = _ at e1) | skip); (first | (change G (k + 1) _ _ = _ at e2) | skip); (first | (change G (k + 1) _ _ = _ at e3) | skip); generalize G (k + 1) = FF at e1 e2 e3 ⊢
  simp [evSs, evS, evE, evA, evP, evO, evD, evI, asgT, asgTs, rdp, rds, rdsAll, frzd, frzE, thaw, callO, arsOf, arOf, iosOf, distinct, backOut, rvO, pick, bltV, cmpV, eqii, eqbb, eqstr, binV, negV, ixt, ixl, at0, at1, at2, at3, at4, at5, ix20, ix21, lk0, lk1, lk2, lk3, lk4, lk5, lk6, putv, slotOf, finF, rvOf, outsOf, runF, slOf, setAt, tyIs, isNon, seqV, Nat.blt, mulOk2, b__law_shape, e1, e2, e3]
end
end K94

set_option Elab.async false
set_option linter.all false
set_option maxRecDepth 100000
set_option maxHeartbeats 4000000
namespace K94
open PySem Rf
def liD (is : List Int) : D := .list (is.map .int)
def okK (n : Int) (is : List Int) : Prop := is ≠ [] ∧ (∀ i ∈ is, 0 ≤ i ∧ i < n) ∧ is.length ≤ 24
section
variable {k : Nat} {t : Str} {n s : Int} {ls : List Lg} {lot : List Int} {es : List (Int × Int)}
theorem pieces_ok (he : okE n es) (n0 : 0 ≤ n) (hn : n ≤ 24) (hl : ∀ a ∈ lot, 0 ≤ a ∧ a < es.length) : ∃ ks : List (List Int), G (k + 2) i__law_pieces [.pu (.list (es.map prD)), .pu (.int n), .pu (.list (lot.map .int))] = some (.fr (ks.map liD), []) ∧ (∀ is ∈ ks, okK n is) ∧ ks.length ≤ 24 := by
  obtain ⟨fl, h1, ks, s4, s5, rfl, h2, h3⟩ := foE (F := G (k + 1)) (C := C0) (t := .nm 4) (it := .rng (.cst (.int 0)) (.var 1)) (b := l__law_pieces_1) (env := [.val (.list (es.map prD)), .val (.int n), .val (.list (lot.map .int)), .own 0 [], .emp, .emp])
    (e1 := [.val (.list (es.map prD)), .val (.int n), .val (.list (lot.map .int)), .own 0 [], .emp, .emp]) (ds := (iot n.toNat).map .int)
    (fun ds e => ∃ (ks : List (List Int)) (s4 s5 : Sl), e = [.val (.list (es.map prD)), .val (.int n), .val (.list (lot.map .int)), .own 0 (ks.map liD), s4, s5] ∧ (∀ is ∈ ks, okK n is) ∧ ks.length + ds.length ≤ 24 ∧ ∀ d ∈ ds, ∃ i, d = .int i ∧ 0 ≤ i ∧ i < n)
    (fun fl => ∃ (ks : List (List Int)) (s4 s5 : Sl), fl = .nx [.val (.list (es.map prD)), .val (.int n), .val (.list (lot.map .int)), .own 0 (ks.map liD), s4, s5] ∧ (∀ is ∈ ks, okK n is) ∧ ks.length ≤ 24) rfl
    (rngE (e1 := [.val (.list (es.map prD)), .val (.int n), .val (.list (lot.map .int)), .own 0 [], .emp, .emp]) (e2 := [.val (.list (es.map prD)), .val (.int n), .val (.list (lot.map .int)), .own 0 [], .emp, .emp]) (a := .int 0) (b := .int n) (by simp [evSs, evS, evE, evA, evP, evO, evD, evI, asgT, asgTs, rdp, rds, rdsAll, frzd, frzE, thaw, callO, arsOf, arOf, iosOf, distinct, backOut, rvO, pick, bltV, cmpV, eqii, eqbb, eqstr, binV, negV, ixt, ixl, at0, at1, at2, at3, at4, at5, ix20, ix21, lk0, lk1, lk2, lk3, lk4, lk5, lk6, putv, slotOf, finF, rvOf, outsOf, runF, slOf, setAt, tyIs, isNon, seqV, Nat.blt, mulOk2]) (by simp [evSs, evS, evE, evA, evP, evO, evD, evI, asgT, asgTs, rdp, rds, rdsAll, frzd, frzE, thaw, callO, arsOf, arOf, iosOf, distinct, backOut, rvO, pick, bltV, cmpV, eqii, eqbb, eqstr, binV, negV, ixt, ixl, at0, at1, at2, at3, at4, at5, ix20, ix21, lk0, lk1, lk2, lk3, lk4, lk5, lk6, putv, slotOf, finF, rvOf, outsOf, runF, slOf, setAt, tyIs, isNon, seqV, Nat.blt, mulOk2]) (rng_iot n0 (by omega)))
    ⟨[], .emp, .emp, rfl, (fun _ z => nomatch z), by rw [List.length_map, iot_len]; simp; omega, fun d hd => by
      obtain ⟨i, hi, rfl⟩ := List.mem_map.mp hd
      have := mem_iot.mp hi
      exact ⟨i, rfl, by omega, by omega⟩⟩
    (fun e ⟨ks, s4, s5, q1, q2, q3, _⟩ => ⟨ks, s4, s5, by rw [q1], q2, by simpa using q3⟩)
    (by
      rintro d ds e ⟨ks, s4, s5, rfl, q2, q3, q4⟩
      obtain ⟨i, rfl, i0, i1⟩ := q4 d List.mem_cons_self
      have q4' := fun d hd => q4 d (List.mem_cons_of_mem _ hd)
      obtain ⟨ms, m1, m2, m3, m4⟩ := reached_ok (k := k) (s := i) (lot := lot) he (by omega) hl i0 i1
      have hi : i ∈ ms := (m2 i).mpr .refl
      obtain ⟨x, r, rfl⟩ : ∃ x r, ms = x :: r := by
        cases ms with
        | nil => cases hi
        | cons x r => exact ⟨x, r, rfl⟩
      have bl : (ks.map liD).length ≤ 16777215 := by simp at q3 ⊢; omega
      have a0 : L2.atI ((x :: r).map PyData.int) 0 = some (.int x) := at0
      by_cases c : x = i
      · refine ⟨[.val (.list (es.map prD)), .val (.int n), .val (.list (lot.map .int)), .own 0 (ks.map liD), .val (.int i), s5], .nx [.val (.list (es.map prD)), .val (.int n), .val (.list (lot.map .int)), .own 0 ((ks ++ [x :: r]).map liD), .val (.int i), .val (liD (x :: r))], by simp [evSs, evS, evE, evA, evP, evO, evD, evI, asgT, asgTs, rdp, rds, rdsAll, frzd, frzE, thaw, callO, arsOf, arOf, iosOf, distinct, backOut, rvO, pick, bltV, cmpV, eqii, eqbb, eqstr, binV, negV, ixt, ixl, at0, at1, at2, at3, at4, at5, ix20, ix21, lk0, lk1, lk2, lk3, lk4, lk5, lk6, putv, slotOf, finF, rvOf, outsOf, runF, slOf, setAt, tyIs, isNon, seqV, Nat.blt, mulOk2], ?_, _, _, _, rfl, fun is his => ?_, by simp at q3 ⊢; omega, q4'⟩
        · rw [List.map_append]
          simp only [List.map_cons (f := liD), List.map_nil]
          have bl' : (ks.map fun is => PyData.list (is.map .int)).length ≤ 16777215 := bl
          unfold liD
          generalize (ks.map fun is => PyData.list (is.map .int)) = KK at bl' ⊢
          subst c
          generalize (x :: r).map PyData.int = XX at m1 a0 ⊢
          generalize es.map prD = EE at m1 ⊢
          generalize lot.map PyData.int = LL at m1 ⊢
          (first | (change G (k + 1) _ _ = _ at m1) | skip); generalize G (k + 1) = FF at m1 ⊢
          simp [evSs, evS, evE, evA, evP, evO, evD, evI, asgT, asgTs, rdp, rds, rdsAll, frzd, frzE, thaw, callO, arsOf, arOf, iosOf, distinct, backOut, rvO, pick, bltV, cmpV, eqii, eqbb, eqstr, binV, negV, ixt, ixl, at0, at1, at2, at3, at4, at5, ix20, ix21, lk0, lk1, lk2, lk3, lk4, lk5, lk6, putv, slotOf, finF, rvOf, outsOf, runF, slOf, setAt, tyIs, isNon, seqV, Nat.blt, mulOk2, l__law_pieces_1, m1, a0, mthV, bl']
        · rcases List.mem_append.mp his with his | his
          · exact q2 is his
          · simp at his; subst his; exact ⟨by simp, m3, by omega⟩
      · refine ⟨[.val (.list (es.map prD)), .val (.int n), .val (.list (lot.map .int)), .own 0 (ks.map liD), .val (.int i), s5], .nx [.val (.list (es.map prD)), .val (.int n), .val (.list (lot.map .int)), .own 0 (ks.map liD), .val (.int i), .val (.list ((x :: r).map .int))], by simp [evSs, evS, evE, evA, evP, evO, evD, evI, asgT, asgTs, rdp, rds, rdsAll, frzd, frzE, thaw, callO, arsOf, arOf, iosOf, distinct, backOut, rvO, pick, bltV, cmpV, eqii, eqbb, eqstr, binV, negV, ixt, ixl, at0, at1, at2, at3, at4, at5, ix20, ix21, lk0, lk1, lk2, lk3, lk4, lk5, lk6, putv, slotOf, finF, rvOf, outsOf, runF, slOf, setAt, tyIs, isNon, seqV, Nat.blt, mulOk2], ?_, _, _, _, rfl, q2, by simp at q3 ⊢; omega, q4'⟩
        generalize ks.map liD = KK at bl ⊢
        generalize (x :: r).map PyData.int = XX at m1 a0 ⊢
        generalize es.map prD = EE at m1 ⊢
        generalize lot.map PyData.int = LL at m1 ⊢
        (first | (change G (k + 1) _ _ = _ at m1) | skip); generalize G (k + 1) = FF at m1 ⊢
        simp [evSs, evS, evE, evA, evP, evO, evD, evI, asgT, asgTs, rdp, rds, rdsAll, frzd, frzE, thaw, callO, arsOf, arOf, iosOf, distinct, backOut, rvO, pick, bltV, cmpV, eqii, eqbb, eqstr, binV, negV, ixt, ixl, at0, at1, at2, at3, at4, at5, ix20, ix21, lk0, lk1, lk2, lk3, lk4, lk5, lk6, putv, slotOf, finF, rvOf, outsOf, runF, slOf, setAt, tyIs, isNon, seqV, Nat.blt, mulOk2, l__law_pieces_1, m1, a0, c])
  refine ⟨ks, ?_, h2, h3⟩
  rw [one (fn := ⟨3, 6, b__law_pieces⟩) rfl]
  change evS (G (k + 1)) C0 s__law_pieces_2 _ = _ at h1
  generalize ks.map liD = KK at h1 ⊢
  generalize es.map prD = EE at h1 ⊢
  generalize lot.map PyData.int = LL at h1 ⊢
  (first | (change G (k + 1) _ _ = _ at h1) | skip); generalize G (k + 1) = FF at h1 ⊢
  simp [evSs, evS, evE, evA, evP, evO, evD, evI, asgT, asgTs, rdp, rds, rdsAll, frzd, frzE, thaw, callO, arsOf, arOf, iosOf, distinct, backOut, rvO, pick, bltV, cmpV, eqii, eqbb, eqstr, binV, negV, ixt, ixl, at0, at1, at2, at3, at4, at5, ix20, ix21, lk0, lk1, lk2, lk3, lk4, lk5, lk6, putv, slotOf, finF, rvOf, outsOf, runF, slOf, setAt, tyIs, isNon, seqV, Nat.blt, mulOk2, b__law_pieces, h1]
theorem knots_a1 {FF : FT} {S N : D} {EE LL BB KK : List D} (eo : FF 2 [.pu S] = some (.fr EE, [])) : evS FF C0 (.asg (.nm 1) (.call 2 (.cons (.var 0) (.nil)))) [.val S, .emp, .emp, .emp] = some (.nx [.val S, .val (.list EE), .emp, .emp]) := by simp [evSs, evS, evE, evA, evP, evO, evD, evI, asgT, asgTs, rdp, rds, rdsAll, frzd, frzE, thaw, callO, arsOf, arOf, iosOf, distinct, backOut, rvO, pick, bltV, cmpV, eqii, eqbb, eqstr, binV, negV, ixt, ixl, at0, at1, at2, at3, at4, at5, ix20, ix21, lk0, lk1, lk2, lk3, lk4, lk5, lk6, putv, slotOf, finF, rvOf, outsOf, runF, slOf, setAt, tyIs, isNon, seqV, Nat.blt, mulOk2, eo]
theorem knots_a2 {FF : FT} {S N : D} {EE LL BB KK : List D} (b1 : FF 4 [.pu (.list EE)] = some (.fr BB, [])) : evS FF C0 (.asg (.nm 2) (.call 4 (.cons (.var 1) (.nil)))) [.val S, .val (.list EE), .emp, .emp] = some (.nx [.val S, .val (.list EE), .val (.list BB), .emp]) := by simp [evSs, evS, evE, evA, evP, evO, evD, evI, asgT, asgTs, rdp, rds, rdsAll, frzd, frzE, thaw, callO, arsOf, arOf, iosOf, distinct, backOut, rvO, pick, bltV, cmpV, eqii, eqbb, eqstr, binV, negV, ixt, ixl, at0, at1, at2, at3, at4, at5, ix20, ix21, lk0, lk1, lk2, lk3, lk4, lk5, lk6, putv, slotOf, finF, rvOf, outsOf, runF, slOf, setAt, tyIs, isNon, seqV, Nat.blt, mulOk2, b1]
theorem knots_a3 {FF : FT} {S N : D} {EE LL BB KK : List D} {X : IE} (c : evE FF C0 X [.val S, .val (.list EE), .val (.list BB), .emp] = some (.fr LL, [.val S, .val (.list EE), .val (.list BB), .emp])) (s2 : idxV S (.int 2) = some N) (k1 : FF 5 [.pu (.list EE), .pu N, .pu (.list LL)] = some (.fr KK, [])) : evS FF C0 (.ret (.call 5 (.cons (.var 1) (.cons (.idx (.var 0) (.cst (.int 2))) (.cons X (.nil)))))) [.val S, .val (.list EE), .val (.list BB), .emp] = some (.rt (.fr KK) [.val S, .val (.list EE), .val (.list BB), .emp]) := by simp [evSs, evS, evE, evA, evP, evO, evD, evI, asgT, asgTs, rdp, rds, rdsAll, frzd, frzE, thaw, callO, arsOf, arOf, iosOf, distinct, backOut, rvO, pick, bltV, cmpV, eqii, eqbb, eqstr, binV, negV, ixt, ixl, at0, at1, at2, at3, at4, at5, ix20, ix21, lk0, lk1, lk2, lk3, lk4, lk5, lk6, putv, slotOf, finF, rvOf, outsOf, runF, slOf, setAt, tyIs, isNon, seqV, Nat.blt, mulOk2, c, s2, k1]
theorem knots_run {FF : FT} {S N : D} {EE LL BB KK : List D} (eo : FF 2 [.pu S] = some (.fr EE, [])) (b1 : FF 4 [.pu (.list EE)] = some (.fr BB, []))
    (c : evE FF C0 e__law_knots_1 [.val S, .val (.list EE), .val (.list BB), .emp] = some (.fr LL, [.val S, .val (.list EE), .val (.list BB), .emp])) (s2 : idxV S (.int 2) = some N) (k1 : FF 5 [.pu (.list EE), .pu N, .pu (.list LL)] = some (.fr KK, [])) :
    runF FF C0 ⟨1, 4, b__law_knots⟩ [.pu S] = some (.fr KK, []) := by
  refine runX rfl rfl ⟨.rt (.fr KK) [.val S, .val (.list EE), .val (.list BB), .emp], ?_, rfl⟩
  unfold b__law_knots
  show evSs FF C0 (.cons _ _) [.val S, .emp, .emp, .emp] = _
  rw [evSs, knots_a1 (N := N) (LL := LL) (BB := BB) (KK := KK) eo]
  dsimp only
  rw [evSs, knots_a2 (N := N) (LL := LL) (KK := KK) b1]
  dsimp only
  rw [evSs, knots_a3 c s2 k1]
theorem knots_ok (h : okS n ls) : ∃ ks : List (List Int), G (k + 3) i__law_knots [.pu (sv t n ls)] = some (.fr (ks.map liD), []) ∧ (∀ is ∈ ks, okK n is) ∧ ks.length ≤ 24 := by
  have eo := ends_of_ok (k := k + 1) (t := t) (n := n) (ls := ls) (by have := h.ln; omega)
  obtain ⟨bs, b1, _⟩ := law_bridges_ok (k := k) h.es (by have := h.n2; omega) (by have := h.ln; simp; omega)
  have hln : (ls.map en).length ≤ 60 := by have := h.ln; simpa using this
  have c : evE (G (k + 2)) C0 e__law_knots_1 [.val (sv t n ls), .val (.list ((ls.map en).map prD)), .val (.list (bs.map .int)), .emp] = some (.fr (((iot (ls.map en).length).filter fun i => !decide (i ∈ bs)).map .int), [.val (sv t n ls), .val (.list ((ls.map en).map prD)), .val (.list (bs.map .int)), .emp]) := by
    have hlen : ((((ls.map en).map prD).length : Nat) : Int) = ((ls.map en).length : Int) := by simp
    generalize (ls.map en).map prD = EE at hlen
    have r := rng_iot (n := ((ls.map en).length : Int)) (by omega) (by omega)
    rw [Int.toNat_natCast] at r
    refine (lcE (e1 := [.val (sv t n ls), .val (.list EE), .val (.list (bs.map .int)), .emp]) (ds := (iot (ls.map en).length).map .int) (fun d => match d with | .int i => if (!decide (i ∈ bs)) then some (.int i) else none | _ => none) ?_ (by rw [List.length_map, iot_len]; omega) ?_).trans ?_
    · refine rngE (e1 := [.val (sv t n ls), .val (.list EE), .val (.list (bs.map .int)), .emp]) (e2 := [.val (sv t n ls), .val (.list EE), .val (.list (bs.map .int)), .emp]) (a := .int 0) (b := .int (ls.map en).length) (by simp [evSs, evS, evE, evA, evP, evO, evD, evI, asgT, asgTs, rdp, rds, rdsAll, frzd, frzE, thaw, callO, arsOf, arOf, iosOf, distinct, backOut, rvO, pick, bltV, cmpV, eqii, eqbb, eqstr, binV, negV, ixt, ixl, at0, at1, at2, at3, at4, at5, ix20, ix21, lk0, lk1, lk2, lk3, lk4, lk5, lk6, putv, slotOf, finF, rvOf, outsOf, runF, slOf, setAt, tyIs, isNon, seqV, Nat.blt, mulOk2]) ?_ r
      rw [← hlen]
      simp [evSs, evS, evE, evA, evP, evO, evD, evI, asgT, asgTs, rdp, rds, rdsAll, frzd, frzE, thaw, callO, arsOf, arOf, iosOf, distinct, backOut, rvO, pick, bltV, cmpV, eqii, eqbb, eqstr, binV, negV, ixt, ixl, at0, at1, at2, at3, at4, at5, ix20, ix21, lk0, lk1, lk2, lk3, lk4, lk5, lk6, putv, slotOf, finF, rvOf, outsOf, runF, slOf, setAt, tyIs, isNon, seqV, Nat.blt, mulOk2]
    · intro d hd
      obtain ⟨i, hi, rfl⟩ := List.mem_map.mp hd
      have ml := mem_li i bs
      generalize hB : decide (i ∈ bs) = B at ml
      refine ⟨[.val (sv t n ls), .val (.list EE), .val (.list (bs.map .int)), .val (.int i)], !B, [.val (sv t n ls), .val (.list EE), .val (.list (bs.map .int)), .val (.int i)], ?_, ?_, fun hb => ⟨by simp [wipeE], by simp only [hB, hb]; rfl⟩, fun hb => ⟨.int i, [.val (sv t n ls), .val (.list EE), .val (.list (bs.map .int)), .val (.int i)], ?_, by simp [wipeE], by simp only [hB, hb]; rfl⟩⟩
      · simp [evSs, evS, evE, evA, evP, evO, evD, evI, asgT, asgTs, rdp, rds, rdsAll, frzd, frzE, thaw, callO, arsOf, arOf, iosOf, distinct, backOut, rvO, pick, bltV, cmpV, eqii, eqbb, eqstr, binV, negV, ixt, ixl, at0, at1, at2, at3, at4, at5, ix20, ix21, lk0, lk1, lk2, lk3, lk4, lk5, lk6, putv, slotOf, finF, rvOf, outsOf, runF, slOf, setAt, tyIs, isNon, seqV, Nat.blt, mulOk2, wipeE]
      · simp [evSs, evS, evE, evA, evP, evO, evD, evI, asgT, asgTs, rdp, rds, rdsAll, frzd, frzE, thaw, callO, arsOf, arOf, iosOf, distinct, backOut, rvO, pick, bltV, cmpV, eqii, eqbb, eqstr, binV, negV, ixt, ixl, at0, at1, at2, at3, at4, at5, ix20, ix21, lk0, lk1, lk2, lk3, lk4, lk5, lk6, putv, slotOf, finF, rvOf, outsOf, runF, slOf, setAt, tyIs, isNon, seqV, Nat.blt, mulOk2, ml]
      · simp [evSs, evS, evE, evA, evP, evO, evD, evI, asgT, asgTs, rdp, rds, rdsAll, frzd, frzE, thaw, callO, arsOf, arOf, iosOf, distinct, backOut, rvO, pick, bltV, cmpV, eqii, eqbb, eqstr, binV, negV, ixt, ixl, at0, at1, at2, at3, at4, at5, ix20, ix21, lk0, lk1, lk2, lk3, lk4, lk5, lk6, putv, slotOf, finF, rvOf, outsOf, runF, slOf, setAt, tyIs, isNon, seqV, Nat.blt, mulOk2]
    · rw [fmap_filter PyData.int _ (fun i => !decide (i ∈ bs)) PyData.int _ (fun p _ => rfl)]
      simp [backE, wipeE, valOnly]
  obtain ⟨ks, k1, k2, k3⟩ := pieces_ok (k := k) (lot := (iot (ls.map en).length).filter fun i => !decide (i ∈ bs)) h.es (by have := h.n1; omega) h.n2 (fun a ha => by
    have := mem_iot.mp (List.mem_filter.mp ha).1; omega)
  refine ⟨ks, ?_, k2, k3⟩
  rw [one (fn := ⟨1, 4, b__law_knots⟩) rfl]
  exact knots_run eo b1 c sv2 k1
end
end K94

set_option Elab.async false
set_option linter.all false
set_option maxRecDepth 100000
set_option maxHeartbeats 4000000
namespace K94
open PySem Rf
/-! ### what is shown -/
structure smI (d : D) : Prop where
  r : rOk d = true
  h : d.hasDict = false
  p : d.depth ≤ 5
  b : d.bulk ≤ 100
theorem rOkAll_of : ∀ {xs : List D}, (∀ x ∈ xs, smI x) → rOkAll xs = true
  | [], _ => by simp [rOkAll]
  | x :: xs, h => by simp [rOkAll, (h x List.mem_cons_self).r, rOkAll_of fun y hy => h y (List.mem_cons_of_mem _ hy)]
theorem noD_of : ∀ {xs : List D}, (∀ x ∈ xs, smI x) → PyData.hasDictAll xs = false
  | [], _ => by simp [PyData.hasDictAll]
  | x :: xs, h => by simp [PyData.hasDictAll, (h x List.mem_cons_self).h, noD_of fun y hy => h y (List.mem_cons_of_mem _ hy)]
theorem dep_of : ∀ {xs : List D}, (∀ x ∈ xs, smI x) → PyData.depthAll xs ≤ 5
  | [], _ => by simp [PyData.depthAll]
  | x :: xs, h => by
    have := (h x List.mem_cons_self).p
    have := dep_of fun y hy => h y (List.mem_cons_of_mem _ hy)
    simp [PyData.depthAll]; omega
theorem bulk_of : ∀ {xs : List D}, (∀ x ∈ xs, smI x) → PyData.bulkAll xs ≤ 101 * xs.length
  | [], _ => by simp [PyData.bulkAll]
  | x :: xs, h => by
    have := (h x List.mem_cons_self).b
    have := bulk_of fun y hy => h y (List.mem_cons_of_mem _ hy)
    simp [PyData.bulkAll]; omega
theorem repr_l {xs : List D} (h : ∀ x ∈ xs, smI x) (hz : xs.length ≤ 100) : reprOk (.list xs) = true := by
  have := dep_of h
  have := bulk_of h
  simp only [reprOk, rOk, rOkAll_of h, PyData.hasDict, noD_of h, PyData.depth, PyData.bulk, Bool.and_eq_true, Nat.ble_eq, Bool.not_false, Bool.true_or, true_and]
  omega
theorem repr_t {xs : List D} (h : ∀ x ∈ xs, smI x) (hz : xs.length ≤ 100) : reprOk (.tuple xs) = true := by
  have := dep_of h
  have := bulk_of h
  simp only [reprOk, rOk, rOkAll_of h, PyData.hasDict, noD_of h, PyData.depth, PyData.bulk, Bool.and_eq_true, Nat.ble_eq, Bool.not_false, Bool.true_or, true_and]
  omega
theorem rOk_i {i : Int} (h0 : -1000 ≤ i) (h1 : i ≤ 1000) : rOk (.int i) = true := by
  have : Nat.blt i.natAbs 1000000000000 = true := Nat.ble_eq_true_of_le (by omega)
  simp [rOk, this]
theorem sm_i {i : Int} (h0 : -1000 ≤ i) (h1 : i ≤ 1000) : smI (.int i) := ⟨rOk_i h0 h1, by simp [PyData.hasDict], by simp [PyData.depth], by simp [PyData.bulk]⟩
theorem sm_pr {a b : Int} (h0 : -1000 ≤ a) (h1 : a ≤ 1000) (h2 : -1000 ≤ b) (h3 : b ≤ 1000) : smI (.tuple [.int a, .int b]) :=
  ⟨by rw [rOk, rOkAll, rOkAll, rOkAll, rOk_i h0 h1, rOk_i h2 h3]; rfl, by simp [PyData.hasDict, PyData.hasDictAll], by simp [PyData.depth, PyData.depthAll], by simp [PyData.bulk, PyData.bulkAll]⟩
theorem rOk_is : ∀ {is : List Int}, (∀ i ∈ is, 0 ≤ i ∧ i < 1000) → rOkAll (is.map .int) = true ∧ PyData.hasDictAll (is.map .int) = false ∧ PyData.depthAll (is.map .int) ≤ 1 ∧ PyData.bulkAll (is.map .int) = is.length
  | [], _ => by simp [rOkAll, PyData.hasDictAll, PyData.depthAll, PyData.bulkAll]
  | i :: is, h => by
    obtain ⟨h1, h2, h3, h4⟩ := rOk_is fun j hj => h j (List.mem_cons_of_mem _ hj)
    have := h i List.mem_cons_self
    refine ⟨by simp [rOkAll, h1, rOk_i (i := i) (by omega) (by omega)], by simp [PyData.hasDictAll, PyData.hasDict, h2], by simp [PyData.depthAll, PyData.depth]; omega, by simp [PyData.bulkAll, PyData.bulk, h4]; omega⟩
theorem sm_li {is : List Int} (h : ∀ i ∈ is, 0 ≤ i ∧ i < 1000) (hz : is.length ≤ 100) : smI (.list (is.map .int)) := by
  obtain ⟨h1, h2, h3, h4⟩ := rOk_is h
  exact ⟨by simp [rOk, h1], by simp [PyData.hasDict, h2], by simp [PyData.depth]; omega, by simp [PyData.bulk, h4]; omega⟩
theorem sm_ti {is : List Int} (h : ∀ i ∈ is, 0 ≤ i ∧ i < 1000) (hz : is.length ≤ 100) : smI (.tuple (is.map .int)) := by
  obtain ⟨h1, h2, h3, h4⟩ := rOk_is h
  exact ⟨by simp [rOk, h1], by simp [PyData.hasDict, h2], by simp [PyData.depth]; omega, by simp [PyData.bulk, h4]; omega⟩
theorem cut_mem {xs : List D} {lo hi : Option Int} {x : D} (h : x ∈ cutL xs lo hi) : x ∈ xs := List.mem_of_mem_drop (List.mem_of_mem_take h)
theorem cut_len {xs : List D} {lo hi : Option Int} : (cutL xs lo hi).length ≤ xs.length := by
  unfold cutL
  rw [List.length_take, List.length_drop]; omega
theorem cut_hi {xs : List D} {c : Nat} : (cutL xs none (some (c : Int))).length ≤ c := by
  unfold cutL HT.sIx
  rw [List.length_take]
  have h : ¬ ((c : Int) < 0) := by omega
  simp only [if_neg h]
  simp; omega
theorem repL_mem {x : D} {xs : List D} : ∀ {c : Nat}, x ∈ repL c xs → x ∈ xs
  | 0, h => by simp [repL] at h
  | c + 1, h => by
    simp only [repL] at h
    rcases List.mem_append.mp h with h | h
    · exact h
    · exact repL_mem h
theorem ends_at {is : List Int} (h : is ≠ []) : (∃ x ∈ is, L2.atI (is.map PyData.int) 0 = some (.int x)) ∧ ∃ y ∈ is, L2.atI (is.map PyData.int) (-1) = some (.int y) := by
  have hl : 0 < is.length := List.length_pos_iff.mpr h
  refine ⟨⟨is[0], List.getElem_mem _, ?_⟩, ⟨is[is.length - 1], List.getElem_mem _, ?_⟩⟩
  · unfold L2.atI L2.ixN
    rw [if_pos (by decide), if_pos (by simp; omega)]
    simp [hl]
  · unfold L2.atI L2.ixN
    rw [if_neg (by decide), if_pos (by simp; omega)]
    have : ((-1 : Int) + ((is.map PyData.int).length : Int)).toNat = is.length - 1 := by simp; omega
    simp only [this, Option.bind]
    simp [hl]
end K94

set_option Elab.async false
set_option linter.all false
set_option maxRecDepth 100000
set_option maxHeartbeats 4000000
namespace K94
open PySem Rf
def okQ (ps : List (Int × Int)) : Prop := ∀ p ∈ ps, 0 ≤ p.1 ∧ p.1 < 24 ∧ 0 ≤ p.2 ∧ p.2 < 24
def PV (v : D) : Prop := reprOk v = true
section
variable {FF : FT} {n : Int} {S Fd : D} {P : Sl} {ks : List (List Int)}
theorem pl_in (kn : FF 6 [.pu S] = some (.fr (ks.map liD), [])) (hP : ∃ ps, P = .own 1 ps) (hks : ∀ is ∈ ks, okK n is) (n24 : n ≤ 24) (hkl : ks.length ≤ 24) {is0 : List Int} (h0 : okK n is0) {ps0 : List (Int × Int)} (hq : okQ ps0) (hl : ps0.length ≤ 600) {r6 : Sl} :
    ∃ ps s6, evS FF C0 s__law_plans_5 [P, .val S, .val Fd, .val (.list (ps0.map prD)), .val (liD is0), .emp, r6, .emp, .emp] = some (.nx [P, .val S, .val Fd, .val (.list (ps.map prD)), .val (liD is0), .emp, s6, .emp, .emp]) ∧ okQ ps ∧ ps.length ≤ ps0.length + 24 := by
  obtain ⟨pp, rfl⟩ := hP
  obtain ⟨⟨x, hx, a1⟩, _⟩ := ends_at h0.1
  have hx' := h0.2.1 x hx
  obtain ⟨fl, h1, ps, s6, rfl, h2, h3⟩ := foE (F := FF) (C := C0) (t := .nm 6) (it := .it (.call 6 (.cons (.var 1) (.nil)))) (b := l__law_plans_4) (env := [.own 1 pp, .val S, .val Fd, .val (.list (ps0.map prD)), .val (liD is0), .emp, r6, .emp, .emp]) (e1 := [.own 1 pp, .val S, .val Fd, .val (.list (ps0.map prD)), .val (liD is0), .emp, r6, .emp, .emp]) (ds := ks.map liD)
    (fun ds e => ∃ ps s6, e = [.own 1 pp, .val S, .val Fd, .val (.list (ps.map prD)), .val (liD is0), .emp, s6, .emp, .emp] ∧ okQ ps ∧ ps.length + ds.length ≤ ps0.length + 24 ∧ ∀ d ∈ ds, ∃ is, d = liD is ∧ okK n is)
    (fun fl => ∃ ps s6, fl = .nx [.own 1 pp, .val S, .val Fd, .val (.list (ps.map prD)), .val (liD is0), .emp, s6, .emp, .emp] ∧ okQ ps ∧ ps.length ≤ ps0.length + 24) rfl
    (by
      generalize ks.map liD = KK at kn ⊢
      generalize liD is0 = I0
      simp [evSs, evS, evE, evA, evP, evO, evD, evI, asgT, asgTs, rdp, rds, rdsAll, frzd, frzE, thaw, callO, arsOf, arOf, iosOf, distinct, backOut, rvO, pick, bltV, cmpV, eqii, eqbb, eqstr, binV, negV, ixt, ixl, at0, at1, at2, at3, at4, at5, ix20, ix21, lk0, lk1, lk2, lk3, lk4, lk5, lk6, putv, slotOf, finF, rvOf, outsOf, runF, slOf, setAt, tyIs, isNon, seqV, Nat.blt, mulOk2, kn])
    ⟨ps0, r6, rfl, hq, by simp; omega, fun d hd => by obtain ⟨is, his, rfl⟩ := List.mem_map.mp hd; exact ⟨is, rfl, hks is his⟩⟩
    (fun e ⟨ps, s6, q1, q2, q3, _⟩ => ⟨ps, s6, by rw [q1], q2, by simpa using q3⟩)
    (by
      rintro d ds e ⟨ps, s6, rfl, q2, q3, q4⟩
      obtain ⟨is, rfl, his⟩ := q4 d List.mem_cons_self
      have q4' := fun d hd => q4 d (List.mem_cons_of_mem _ hd)
      obtain ⟨_, ⟨y, hy, a2⟩⟩ := ends_at his.1
      have hy' := his.2.1 y hy
      refine ⟨[.own 1 pp, .val S, .val Fd, .val (.list (ps.map prD)), .val (liD is0), .emp, .val (liD is), .emp, .emp], ?_⟩
      by_cases c : x = y
      · refine ⟨.nx [.own 1 pp, .val S, .val Fd, .val (.list (ps.map prD)), .val (liD is0), .emp, .val (liD is), .emp, .emp], by simp [evSs, evS, evE, evA, evP, evO, evD, evI, asgT, asgTs, rdp, rds, rdsAll, frzd, frzE, thaw, callO, arsOf, arOf, iosOf, distinct, backOut, rvO, pick, bltV, cmpV, eqii, eqbb, eqstr, binV, negV, ixt, ixl, at0, at1, at2, at3, at4, at5, ix20, ix21, lk0, lk1, lk2, lk3, lk4, lk5, lk6, putv, slotOf, finF, rvOf, outsOf, runF, slOf, setAt, tyIs, isNon, seqV, Nat.blt, mulOk2], ?_, _, _, rfl, q2, by simp at q3 ⊢; omega, q4'⟩
        have z : lenOk (ps.map prD).length = true := lenOk_of (by simp at q3 ⊢; omega)
        generalize ps.map prD = PP at z ⊢
        subst c
        unfold liD
        generalize is.map PyData.int = II at a2 ⊢
        generalize is0.map PyData.int = I0 at a1 ⊢
        simp [evSs, evS, evE, evA, evP, evO, evD, evI, asgT, asgTs, rdp, rds, rdsAll, frzd, frzE, thaw, callO, arsOf, arOf, iosOf, distinct, backOut, rvO, pick, bltV, cmpV, eqii, eqbb, eqstr, binV, negV, ixt, ixl, at0, at1, at2, at3, at4, at5, ix20, ix21, lk0, lk1, lk2, lk3, lk4, lk5, lk6, putv, slotOf, finF, rvOf, outsOf, runF, slOf, setAt, tyIs, isNon, seqV, Nat.blt, mulOk2, l__law_plans_4, a1, a2, z]
      · refine ⟨.nx [.own 1 pp, .val S, .val Fd, .val (.list ((ps ++ [(x, y)]).map prD)), .val (liD is0), .emp, .val (liD is), .emp, .emp], by simp [evSs, evS, evE, evA, evP, evO, evD, evI, asgT, asgTs, rdp, rds, rdsAll, frzd, frzE, thaw, callO, arsOf, arOf, iosOf, distinct, backOut, rvO, pick, bltV, cmpV, eqii, eqbb, eqstr, binV, negV, ixt, ixl, at0, at1, at2, at3, at4, at5, ix20, ix21, lk0, lk1, lk2, lk3, lk4, lk5, lk6, putv, slotOf, finF, rvOf, outsOf, runF, slOf, setAt, tyIs, isNon, seqV, Nat.blt, mulOk2], ?_, _, _, rfl, fun p hp => ?_, by simp at q3 ⊢; omega, q4'⟩
        · have z : lenOk ((ps.map prD).length + 1) = true := lenOk_of (by simp at q3 ⊢; omega)
          rw [List.map_append]
          generalize ps.map prD = PP at z ⊢
          unfold liD
          generalize is.map PyData.int = II at a2 ⊢
          generalize is0.map PyData.int = I0 at a1 ⊢
          simp [evSs, evS, evE, evA, evP, evO, evD, evI, asgT, asgTs, rdp, rds, rdsAll, frzd, frzE, thaw, callO, arsOf, arOf, iosOf, distinct, backOut, rvO, pick, bltV, cmpV, eqii, eqbb, eqstr, binV, negV, ixt, ixl, at0, at1, at2, at3, at4, at5, ix20, ix21, lk0, lk1, lk2, lk3, lk4, lk5, lk6, putv, slotOf, finF, rvOf, outsOf, runF, slOf, setAt, tyIs, isNon, seqV, Nat.blt, mulOk2, l__law_plans_4, a1, a2, z, c, prD]
        · rcases List.mem_append.mp hp with hp | hp
          · exact q2 p hp
          · simp at hp; subst hp; exact ⟨by omega, by omega, by omega, by omega⟩)
  exact ⟨ps, s6, h1, h2, h3⟩
theorem pl_out (kn : FF 6 [.pu S] = some (.fr (ks.map liD), [])) (hP : ∃ ps, P = .own 1 ps) (hks : ∀ is ∈ ks, okK n is) (n24 : n ≤ 24) (hkl : ks.length ≤ 24) :
    ∃ ps s4 s6, evS FF C0 s__law_plans_7 [P, .val S, .val Fd, .val (.list []), .emp, .emp, .emp, .emp, .emp] = some (.nx [P, .val S, .val Fd, .val (.list (ps.map prD)), s4, .emp, s6, .emp, .emp]) ∧ okQ ps ∧ ps.length ≤ 600 := by
  have hP' := hP
  obtain ⟨pp, rfl⟩ := hP
  obtain ⟨fl, h1, ps, s4, s6, rfl, h2, h3⟩ := foE (F := FF) (C := C0) (t := .nm 4) (it := .it (.call 6 (.cons (.var 1) (.nil)))) (b := l__law_plans_6) (env := [.own 1 pp, .val S, .val Fd, .val (.list []), .emp, .emp, .emp, .emp, .emp]) (e1 := [.own 1 pp, .val S, .val Fd, .val (.list []), .emp, .emp, .emp, .emp, .emp]) (ds := ks.map liD)
    (fun ds e => ∃ ps s4 s6, e = [.own 1 pp, .val S, .val Fd, .val (.list (ps.map prD)), s4, .emp, s6, .emp, .emp] ∧ okQ ps ∧ ps.length + 24 * ds.length ≤ 600 ∧ ∀ d ∈ ds, ∃ is, d = liD is ∧ okK n is)
    (fun fl => ∃ ps s4 s6, fl = .nx [.own 1 pp, .val S, .val Fd, .val (.list (ps.map prD)), s4, .emp, s6, .emp, .emp] ∧ okQ ps ∧ ps.length ≤ 600) rfl
    (by
      generalize ks.map liD = KK at kn ⊢
      simp [evSs, evS, evE, evA, evP, evO, evD, evI, asgT, asgTs, rdp, rds, rdsAll, frzd, frzE, thaw, callO, arsOf, arOf, iosOf, distinct, backOut, rvO, pick, bltV, cmpV, eqii, eqbb, eqstr, binV, negV, ixt, ixl, at0, at1, at2, at3, at4, at5, ix20, ix21, lk0, lk1, lk2, lk3, lk4, lk5, lk6, putv, slotOf, finF, rvOf, outsOf, runF, slOf, setAt, tyIs, isNon, seqV, Nat.blt, mulOk2, kn])
    ⟨[], .emp, .emp, rfl, (fun _ z => nomatch z), by simp; omega, fun d hd => by obtain ⟨is, his, rfl⟩ := List.mem_map.mp hd; exact ⟨is, rfl, hks is his⟩⟩
    (fun e ⟨ps, s4, s6, q1, q2, q3, _⟩ => ⟨ps, s4, s6, by rw [q1], q2, by simpa using q3⟩)
    (by
      rintro d ds e ⟨ps, s4, s6, rfl, q2, q3, q4⟩
      obtain ⟨is, rfl, his⟩ := q4 d List.mem_cons_self
      have q4' := fun d hd => q4 d (List.mem_cons_of_mem _ hd)
      obtain ⟨ps', s6', e1, g1, g2⟩ := pl_in (Fd := Fd) (r6 := s6) kn hP' hks n24 hkl his q2 (by simp at q3; omega)
      refine ⟨[.own 1 pp, .val S, .val Fd, .val (.list (ps.map prD)), .val (liD is), .emp, s6, .emp, .emp], .nx [.own 1 pp, .val S, .val Fd, .val (.list (ps'.map prD)), .val (liD is), .emp, s6', .emp, .emp], by simp [evSs, evS, evE, evA, evP, evO, evD, evI, asgT, asgTs, rdp, rds, rdsAll, frzd, frzE, thaw, callO, arsOf, arOf, iosOf, distinct, backOut, rvO, pick, bltV, cmpV, eqii, eqbb, eqstr, binV, negV, ixt, ixl, at0, at1, at2, at3, at4, at5, ix20, ix21, lk0, lk1, lk2, lk3, lk4, lk5, lk6, putv, slotOf, finF, rvOf, outsOf, runF, slOf, setAt, tyIs, isNon, seqV, Nat.blt, mulOk2], ?_, _, _, _, rfl, g1, by simp at q3 ⊢; omega, q4'⟩
      unfold l__law_plans_6
      rw [evSs, e1]
      rfl)
  exact ⟨ps, s4, s6, h1, h2, h3⟩
def HD (FF : FT) : Prop := ∀ {p0 p1 m : Int}, Pot p0 p1 → 0 < m → m < 1073741824 → ∃ d q0 q1, FF 0 [.io [.int p0, .int p1], .pu (.int m)] = some (.pu (.int d), [[.int q0, .int q1]]) ∧ Pot q0 q1 ∧ 0 ≤ d ∧ d < m
def HPk (FF : FT) : Prop := ∀ {p0 p1 : Int} {xs : List D}, Pot p0 p1 → 0 < xs.length → xs.length < 1000 → ∃ x q0 q1, FF 7 [.io [.int p0, .int p1], .pu (.list xs)] = some (.pu x, [[.int q0, .int q1]]) ∧ Pot q0 q1 ∧ x ∈ xs
theorem sm_q {ps : List (Int × Int)} (h : okQ ps) {x : D} (hx : x ∈ ps.map prD) : smI x := by
  obtain ⟨p, hp, rfl⟩ := List.mem_map.mp hx
  have := h p hp
  exact sm_pr (by omega) (by omega) (by omega) (by omega)
theorem pl_lc (hd : HD FF) (hp : HPk FF) {p0 p1 : Int} (hpot : Pot p0 p1) {ps : List (Int × Int)} (hq : okQ ps) (hl : ps.length ≤ 600) {s4 s5 s6 s7 : Sl} :
    ∃ xs q0 q1, evE FF C0 e__law_plans_1 [.own 1 [.int p0, .int p1], .val S, .val Fd, .val (.list (ps.map prD)), s4, s5, s6, s7, .emp] = some (.fr xs, [.own 1 [.int q0, .int q1], .val S, .val Fd, .val (.list (ps.map prD)), s4, s5, s6, s7, .emp]) ∧ Pot q0 q1 ∧ (∀ x ∈ xs, smI x) ∧ xs.length ≤ 5 := by
  have np := nil_pr ps
  have hI : ∃ ds a0 a1, evI FF C0 (.rng (.cst (.int 0)) (.ite (.cmp .ne (.var 3) (.lst (.nil))) (.call 0 (.cons (.var 0) (.cons (.cst (.int 6)) (.nil)))) (.cst (.int 0)))) [.own 1 [.int p0, .int p1], .val S, .val Fd, .val (.list (ps.map prD)), s4, s5, s6, s7, .emp] = some (ds, [.own 1 [.int a0, .int a1], .val S, .val Fd, .val (.list (ps.map prD)), s4, s5, s6, s7, .emp]) ∧ Pot a0 a1 ∧ ds.length ≤ 5 ∧ (ds ≠ [] → ps ≠ []) := by
    by_cases c : ps = []
    · rw [decide_eq_true c] at np
      refine ⟨(iot (0 : Int).toNat).map .int, p0, p1, rngE (e1 := [.own 1 [.int p0, .int p1], .val S, .val Fd, .val (.list (ps.map prD)), s4, s5, s6, s7, .emp]) (e2 := [.own 1 [.int p0, .int p1], .val S, .val Fd, .val (.list (ps.map prD)), s4, s5, s6, s7, .emp]) (a := .int 0) (b := .int 0) (by simp [evSs, evS, evE, evA, evP, evO, evD, evI, asgT, asgTs, rdp, rds, rdsAll, frzd, frzE, thaw, callO, arsOf, arOf, iosOf, distinct, backOut, rvO, pick, bltV, cmpV, eqii, eqbb, eqstr, binV, negV, ixt, ixl, at0, at1, at2, at3, at4, at5, ix20, ix21, lk0, lk1, lk2, lk3, lk4, lk5, lk6, putv, slotOf, finF, rvOf, outsOf, runF, slOf, setAt, tyIs, isNon, seqV, Nat.blt, mulOk2]) ?_ (rng_iot (by decide) (by decide)), hpot, by simp [iot_len], fun h => absurd rfl h⟩
      generalize ps.map prD = PP at np ⊢
      simp [evSs, evS, evE, evA, evP, evO, evD, evI, asgT, asgTs, rdp, rds, rdsAll, frzd, frzE, thaw, callO, arsOf, arOf, iosOf, distinct, backOut, rvO, pick, bltV, cmpV, eqii, eqbb, eqstr, binV, negV, ixt, ixl, at0, at1, at2, at3, at4, at5, ix20, ix21, lk0, lk1, lk2, lk3, lk4, lk5, lk6, putv, slotOf, finF, rvOf, outsOf, runF, slOf, setAt, tyIs, isNon, seqV, Nat.blt, mulOk2, np]
    · rw [decide_eq_false c] at np
      obtain ⟨d, a0, a1, e, g, d0, d1⟩ := hd (m := 6) hpot (by decide) (by decide)
      refine ⟨(iot d.toNat).map .int, a0, a1, rngE (e1 := [.own 1 [.int p0, .int p1], .val S, .val Fd, .val (.list (ps.map prD)), s4, s5, s6, s7, .emp]) (e2 := [.own 1 [.int a0, .int a1], .val S, .val Fd, .val (.list (ps.map prD)), s4, s5, s6, s7, .emp]) (a := .int 0) (b := .int d) (by simp [evSs, evS, evE, evA, evP, evO, evD, evI, asgT, asgTs, rdp, rds, rdsAll, frzd, frzE, thaw, callO, arsOf, arOf, iosOf, distinct, backOut, rvO, pick, bltV, cmpV, eqii, eqbb, eqstr, binV, negV, ixt, ixl, at0, at1, at2, at3, at4, at5, ix20, ix21, lk0, lk1, lk2, lk3, lk4, lk5, lk6, putv, slotOf, finF, rvOf, outsOf, runF, slOf, setAt, tyIs, isNon, seqV, Nat.blt, mulOk2]) ?_ (rng_iot d0 (by omega)), g, by rw [List.length_map, iot_len]; omega, fun _ => c⟩
      generalize ps.map prD = PP at np ⊢
      simp [evSs, evS, evE, evA, evP, evO, evD, evI, asgT, asgTs, rdp, rds, rdsAll, frzd, frzE, thaw, callO, arsOf, arOf, iosOf, distinct, backOut, rvO, pick, bltV, cmpV, eqii, eqbb, eqstr, binV, negV, ixt, ixl, at0, at1, at2, at3, at4, at5, ix20, ix21, lk0, lk1, lk2, lk3, lk4, lk5, lk6, putv, slotOf, finF, rvOf, outsOf, runF, slOf, setAt, tyIs, isNon, seqV, Nat.blt, mulOk2, np, e]
  obtain ⟨ds, a0, a1, hI, g0, dl, dn⟩ := hI
  obtain ⟨xs, e2, h1, q0, q1, rfl, h2, h3, h4, _⟩ := lcEI (elt := .call 7 (.cons (.var 0) (.cons (.var 3) (.nil)))) (tg := .nm 8) (cd := .non) (own := [8])
    (fun ds xs e => ∃ q0 q1, e = [.own 1 [.int q0, .int q1], .val S, .val Fd, .val (.list (ps.map prD)), s4, s5, s6, s7, .emp] ∧ Pot q0 q1 ∧ (∀ x ∈ xs, x ∈ ps.map prD) ∧ xs.length + ds.length ≤ 5 ∧ (ds ≠ [] → ps ≠ [])) hI
    ⟨a0, a1, by simp [wipeE], g0, (fun _ z => nomatch z), by simpa using dl, dn⟩
    (by
      rintro d ds xs e ⟨q0, q1, rfl, h2, h3, h4, h5⟩
      have ne : ps ≠ [] := h5 (by simp)
      have hl0 : 0 < (ps.map prD).length := by rw [List.length_map]; exact List.length_pos_iff.mpr ne
      obtain ⟨x, b0, b1, e, g, hx⟩ := hp (xs := ps.map prD) h2 hl0 (by simp; omega)
      refine ⟨[.own 1 [.int q0, .int q1], .val S, .val Fd, .val (.list (ps.map prD)), s4, s5, s6, s7, .val d], true, [.own 1 [.int q0, .int q1], .val S, .val Fd, .val (.list (ps.map prD)), s4, s5, s6, s7, .val d], by simp [evSs, evS, evE, evA, evP, evO, evD, evI, asgT, asgTs, rdp, rds, rdsAll, frzd, frzE, thaw, callO, arsOf, arOf, iosOf, distinct, backOut, rvO, pick, bltV, cmpV, eqii, eqbb, eqstr, binV, negV, ixt, ixl, at0, at1, at2, at3, at4, at5, ix20, ix21, lk0, lk1, lk2, lk3, lk4, lk5, lk6, putv, slotOf, finF, rvOf, outsOf, runF, slOf, setAt, tyIs, isNon, seqV, Nat.blt, mulOk2], by simp [evSs, evS, evE, evA, evP, evO, evD, evI, asgT, asgTs, rdp, rds, rdsAll, frzd, frzE, thaw, callO, arsOf, arOf, iosOf, distinct, backOut, rvO, pick, bltV, cmpV, eqii, eqbb, eqstr, binV, negV, ixt, ixl, at0, at1, at2, at3, at4, at5, ix20, ix21, lk0, lk1, lk2, lk3, lk4, lk5, lk6, putv, slotOf, finF, rvOf, outsOf, runF, slOf, setAt, tyIs, isNon, seqV, Nat.blt, mulOk2], by simp, fun _ => ⟨x, [.own 1 [.int b0, .int b1], .val S, .val Fd, .val (.list (ps.map prD)), s4, s5, s6, s7, .val d], ?_, b0, b1, by simp [wipeE], g, fun y hy => ?_, by simp at h4 ⊢; omega, fun _ => ne⟩⟩
      · generalize ps.map prD = PP at e ⊢
        simp [evSs, evS, evE, evA, evP, evO, evD, evI, asgT, asgTs, rdp, rds, rdsAll, frzd, frzE, thaw, callO, arsOf, arOf, iosOf, distinct, backOut, rvO, pick, bltV, cmpV, eqii, eqbb, eqstr, binV, negV, ixt, ixl, at0, at1, at2, at3, at4, at5, ix20, ix21, lk0, lk1, lk2, lk3, lk4, lk5, lk6, putv, slotOf, finF, rvOf, outsOf, runF, slOf, setAt, tyIs, isNon, seqV, Nat.blt, mulOk2, e]
      · rcases List.mem_append.mp hy with hy | hy
        · exact h3 y hy
        · simp at hy; subst hy; exact hx)
    (fun xs e ⟨_, _, _, _, _, h4, _⟩ => by simp at h4; omega)
  refine ⟨xs, q0, q1, ?_, h2, fun x hx => sm_q hq (h3 x hx), by simpa using h4⟩
  unfold e__law_plans_1
  rw [h1]
  simp [backE, valOnly]
theorem pl_body (hd : HD FF) (hp : HPk FF) {p0 p1 : Int} (hpot : Pot p0 p1) {ps : List (Int × Int)} (hq : okQ ps) (hl : ps.length ≤ 600) {vs : List D} (hv : ∀ v ∈ vs, PV v) (hvl : vs.length ≤ 100) {s4 s5 s6 s7 : Sl} :
    ∃ ws q0 q1 r7, evSs FF C0 l__law_plans_2 [.own 1 [.int p0, .int p1], .val S, .val (.list vs), .val (.list (ps.map prD)), s4, s5, s6, s7, .emp] = some (.nx [.own 1 [.int q0, .int q1], .val S, .val (.list ws), .val (.list (ps.map prD)), s4, s5, s6, r7, .emp]) ∧ Pot q0 q1 ∧ (∀ v ∈ ws, PV v) ∧ ws.length = vs.length + 4 := by
  obtain ⟨xs, a0, a1, e1, g1, hx, hxl⟩ := pl_lc (S := S) (Fd := .list vs) (s4 := s4) (s5 := s5) (s6 := s6) (s7 := s7) hd hp hpot hq hl
  obtain ⟨x, b0, b1, e2, g2, hxm⟩ := hp (xs := [.tuple [.int 1, .int 1], .list [.int 0, .int 1], .none, .tuple [.int 0, .int (-1)]]) g1 (by simp) (by simp)
  have hxs : smI x := by
    simp at hxm
    rcases hxm with rfl | rfl | rfl | rfl
    · exact sm_pr (by decide) (by decide) (by decide) (by decide)
    · exact sm_li (is := [0, 1]) (by simp) (by simp)
    · exact ⟨rfl, rfl, by simp [PyData.depth], by simp [PyData.bulk]⟩
    · exact sm_pr (by decide) (by decide) (by decide) (by decide)
  refine ⟨vs ++ [.list xs, .tuple xs, .list (xs ++ [.tuple [.int 0, .int 1]]), .list (xs ++ [x])], b0, b1, .val (.list xs), ?_, g2, fun v hv' => ?_, by simp⟩
  · have z1 : lenOk (vs.length + 4) = true := lenOk_of (by omega)
    have z2 : lenOk (xs.length + 1) = true := lenOk_of (by omega)
    generalize ps.map prD = PP at e1 ⊢
    simp [evSs, evS, evE, evA, evP, evO, evD, evI, asgT, asgTs, rdp, rds, rdsAll, frzd, frzE, thaw, callO, arsOf, arOf, iosOf, distinct, backOut, rvO, pick, bltV, cmpV, eqii, eqbb, eqstr, binV, negV, ixt, ixl, at0, at1, at2, at3, at4, at5, ix20, ix21, lk0, lk1, lk2, lk3, lk4, lk5, lk6, putv, slotOf, finF, rvOf, outsOf, runF, slOf, setAt, tyIs, isNon, seqV, Nat.blt, mulOk2, l__law_plans_2, e1, e2, z1, z2]
  · rcases List.mem_append.mp hv' with hv' | hv'
    · exact hv v hv'
    · simp at hv'
      have app : ∀ {y : D}, smI y → ∀ z ∈ xs ++ [y], smI z := fun hy z hz => by
        rcases List.mem_append.mp hz with hz | hz
        · exact hx z hz
        · simp at hz; subst hz; exact hy
      rcases hv' with rfl | rfl | rfl | rfl
      · exact repr_l hx (by omega)
      · exact repr_t hx (by omega)
      · exact repr_l (app (sm_pr (by decide) (by decide) (by decide) (by decide))) (by simp; omega)
      · exact repr_l (app hxs) (by simp; omega)
theorem pl_turns (hd : HD FF) (hp : HPk FF) {p0 p1 : Int} (hpot : Pot p0 p1) {ps : List (Int × Int)} (hq : okQ ps) (hl : ps.length ≤ 600) {vs : List D} (hv : ∀ v ∈ vs, PV v) (hvl : vs.length ≤ 20) {s4 s6 : Sl} :
    ∃ ws q0 q1 s5 s7, evS FF C0 s__law_plans_3 [.own 1 [.int p0, .int p1], .val S, .val (.list vs), .val (.list (ps.map prD)), s4, .emp, s6, .emp, .emp] = some (.nx [.own 1 [.int q0, .int q1], .val S, .val (.list ws), .val (.list (ps.map prD)), s4, s5, s6, s7, .emp]) ∧ Pot q0 q1 ∧ (∀ v ∈ ws, PV v) ∧ ws.length ≤ 40 := by
  obtain ⟨fl, h1, ws, q0, q1, s5, s7, rfl, h2, h3, h4⟩ := foE (F := FF) (C := C0) (t := .nm 5) (it := .rng (.cst (.int 0)) (.cst (.int 4))) (b := l__law_plans_2) (env := [.own 1 [.int p0, .int p1], .val S, .val (.list vs), .val (.list (ps.map prD)), s4, .emp, s6, .emp, .emp]) (e1 := [.own 1 [.int p0, .int p1], .val S, .val (.list vs), .val (.list (ps.map prD)), s4, .emp, s6, .emp, .emp]) (ds := (iot (4 : Int).toNat).map .int)
    (fun ds e => ∃ ws q0 q1 s5 s7, e = [.own 1 [.int q0, .int q1], .val S, .val (.list ws), .val (.list (ps.map prD)), s4, s5, s6, s7, .emp] ∧ Pot q0 q1 ∧ (∀ v ∈ ws, PV v) ∧ ws.length + 4 * ds.length ≤ 40)
    (fun fl => ∃ ws q0 q1 s5 s7, fl = .nx [.own 1 [.int q0, .int q1], .val S, .val (.list ws), .val (.list (ps.map prD)), s4, s5, s6, s7, .emp] ∧ Pot q0 q1 ∧ (∀ v ∈ ws, PV v) ∧ ws.length ≤ 40) rfl
    (rngE (e1 := [.own 1 [.int p0, .int p1], .val S, .val (.list vs), .val (.list (ps.map prD)), s4, .emp, s6, .emp, .emp]) (e2 := [.own 1 [.int p0, .int p1], .val S, .val (.list vs), .val (.list (ps.map prD)), s4, .emp, s6, .emp, .emp]) (a := .int 0) (b := .int 4) (by simp [evSs, evS, evE, evA, evP, evO, evD, evI, asgT, asgTs, rdp, rds, rdsAll, frzd, frzE, thaw, callO, arsOf, arOf, iosOf, distinct, backOut, rvO, pick, bltV, cmpV, eqii, eqbb, eqstr, binV, negV, ixt, ixl, at0, at1, at2, at3, at4, at5, ix20, ix21, lk0, lk1, lk2, lk3, lk4, lk5, lk6, putv, slotOf, finF, rvOf, outsOf, runF, slOf, setAt, tyIs, isNon, seqV, Nat.blt, mulOk2]) (by simp [evSs, evS, evE, evA, evP, evO, evD, evI, asgT, asgTs, rdp, rds, rdsAll, frzd, frzE, thaw, callO, arsOf, arOf, iosOf, distinct, backOut, rvO, pick, bltV, cmpV, eqii, eqbb, eqstr, binV, negV, ixt, ixl, at0, at1, at2, at3, at4, at5, ix20, ix21, lk0, lk1, lk2, lk3, lk4, lk5, lk6, putv, slotOf, finF, rvOf, outsOf, runF, slOf, setAt, tyIs, isNon, seqV, Nat.blt, mulOk2]) (rng_iot (by decide) (by decide)))
    ⟨vs, p0, p1, .emp, .emp, rfl, hpot, hv, by rw [List.length_map, iot_len]; omega⟩
    (fun e ⟨ws, q0, q1, s5, s7, r1, r2, r3, r4⟩ => ⟨ws, q0, q1, s5, s7, by rw [r1], r2, r3, by simpa using r4⟩)
    (by
      rintro d ds e ⟨ws, q0, q1, s5, s7, rfl, r2, r3, r4⟩
      obtain ⟨ws', c0, c1, s7', e1, g1, g2, g3⟩ := pl_body (S := S) (s4 := s4) (s5 := .val d) (s6 := s6) (s7 := s7) hd hp r2 hq hl r3 (by simp at r4; omega)
      exact ⟨[.own 1 [.int q0, .int q1], .val S, .val (.list ws), .val (.list (ps.map prD)), s4, .val d, s6, s7, .emp], _, by simp [evSs, evS, evE, evA, evP, evO, evD, evI, asgT, asgTs, rdp, rds, rdsAll, frzd, frzE, thaw, callO, arsOf, arOf, iosOf, distinct, backOut, rvO, pick, bltV, cmpV, eqii, eqbb, eqstr, binV, negV, ixt, ixl, at0, at1, at2, at3, at4, at5, ix20, ix21, lk0, lk1, lk2, lk3, lk4, lk5, lk6, putv, slotOf, finF, rvOf, outsOf, runF, slOf, setAt, tyIs, isNon, seqV, Nat.blt, mulOk2], e1, ws', c0, c1, _, _, rfl, g1, g2, by simp at r4 ⊢; omega⟩)
  exact ⟨ws, q0, q1, s5, s7, h1, h2, h3, h4⟩
end
end K94

set_option Elab.async false
set_option linter.all false
set_option maxRecDepth 100000
set_option maxHeartbeats 4000000
namespace K94
open PySem Rf
def vs0 (n : Int) : List D := [.none, .list [], .tuple [], .dict [], .int 0, .str "p", .list [.tuple [.int 0, .int 0]], .list [.tuple [.int 0]], .list [.tuple [.int 0, .int n]], .list [.list [.int 0, .int 1]], .list [.tuple [.bool true, .int 0]], .list [.tuple [.int 0, .int 1, .int 0]], .list [.none]]
theorem vs0_pv {n : Int} (n0 : 0 ≤ n) (n24 : n ≤ 24) : ∀ v ∈ vs0 n, PV v := by
  intro v hv
  simp only [vs0, List.mem_cons, List.not_mem_nil, or_false] at hv
  rcases hv with rfl | rfl | rfl | rfl | rfl | rfl | rfl | rfl | rfl | rfl | rfl | rfl | rfl
  · show reprOk _ = true; decide +kernel
  · show reprOk _ = true; decide +kernel
  · show reprOk _ = true; decide +kernel
  · show reprOk _ = true; decide +kernel
  · show reprOk _ = true; decide +kernel
  · show reprOk _ = true; decide +kernel
  · show reprOk _ = true; decide +kernel
  · show reprOk _ = true; decide +kernel
  · refine repr_l (fun x hx => ?_) (by simp)
    simp at hx; subst hx
    exact sm_pr (by decide) (by decide) (by omega) (by omega)
  · show reprOk _ = true; decide +kernel
  · show reprOk _ = true; decide +kernel
  · show reprOk _ = true; decide +kernel
  · show reprOk _ = true; decide +kernel
section
variable {FF : FT} {n : Int} {S : D}
theorem plans_run {p0 p1 q0 q1 : Int} {PP ws : List D} {s4 s5 s6 s7 : Sl} (s2 : idxV S (.int 2) = some (.int n))
    (o1 : evS FF C0 s__law_plans_7 [.own 1 [.int p0, .int p1], .val S, .val (.list (vs0 n)), .val (.list []), .emp, .emp, .emp, .emp, .emp] = some (.nx [.own 1 [.int p0, .int p1], .val S, .val (.list (vs0 n)), .val (.list PP), s4, .emp, s6, .emp, .emp]))
    (t1 : evS FF C0 s__law_plans_3 [.own 1 [.int p0, .int p1], .val S, .val (.list (vs0 n)), .val (.list PP), s4, .emp, s6, .emp, .emp] = some (.nx [.own 1 [.int q0, .int q1], .val S, .val (.list ws), .val (.list PP), s4, s5, s6, s7, .emp]))
    (z25 : lenOk (PP.length * 25) = true) (z26 : lenOk (PP.length * 26) = true) (z3 : lenOk (ws.length + 3) = true) :
    runF FF C0 ⟨2, 9, b__law_plans⟩ [.io [.int p0, .int p1], .pu S] = some (.fr (ws ++ [.list (cutL PP none (some 24)), .list (cutL (repL 25 PP) none (some 24)), .list (cutL (repL 26 PP) none (some 25))]), [[.int q0, .int q1]]) := by
  have s25 : small64 25 = true := rfl
  have l13 : lenOk 13 = true := rfl
  have s26 : small64 26 = true := rfl
  unfold vs0 at o1 t1
  refine runX rfl rfl ⟨.rt (.fr (ws ++ [.list (cutL PP none (some 24)), .list (cutL (repL 25 PP) none (some 24)), .list (cutL (repL 26 PP) none (some 25))])) [.own 1 [.int q0, .int q1], .val S, .val (.list ws), .val (.list PP), s4, s5, s6, s7, .emp], ?_, by simp [evSs, evS, evE, evA, evP, evO, evD, evI, asgT, asgTs, rdp, rds, rdsAll, frzd, frzE, thaw, callO, arsOf, arOf, iosOf, distinct, backOut, rvO, pick, bltV, cmpV, eqii, eqbb, eqstr, binV, negV, ixt, ixl, at0, at1, at2, at3, at4, at5, ix20, ix21, lk0, lk1, lk2, lk3, lk4, lk5, lk6, putv, slotOf, finF, rvOf, outsOf, runF, slOf, setAt, tyIs, isNon, seqV, Nat.blt, mulOk2]⟩
  simp [evSs, evS, evE, evA, evP, evO, evD, evI, asgT, asgTs, rdp, rds, rdsAll, frzd, frzE, thaw, callO, arsOf, arOf, iosOf, distinct, backOut, rvO, pick, bltV, cmpV, eqii, eqbb, eqstr, binV, negV, ixt, ixl, at0, at1, at2, at3, at4, at5, ix20, ix21, lk0, lk1, lk2, lk3, lk4, lk5, lk6, putv, slotOf, finF, rvOf, outsOf, runF, slOf, setAt, tyIs, isNon, seqV, Nat.blt, mulOk2, b__law_plans, s2, o1, t1, z25, z26, z3, s25, s26, l13, slcV]
theorem plans_ok {k : Nat} {p0 p1 : Int} {t : Str} {ls : List Lg} (hp : Pot p0 p1) (h : okS n ls) : ∃ ws q0 q1, G (k + 4) i__law_plans [.io [.int p0, .int p1], .pu (sv t n ls)] = some (.fr ws, [[.int q0, .int q1]]) ∧ Pot q0 q1 ∧ ∀ v ∈ ws, PV v := by
  have n1 := h.n1
  have n2 := h.n2
  obtain ⟨ks, k1, k2, k3⟩ := knots_ok (k := k) (t := t) h
  have hd : HD (G (k + 3)) := fun a b c => draw_ok (k := k + 2) a b c
  have hk : HPk (G (k + 3)) := fun a b c => pick_ok (k := k + 1) a b c
  obtain ⟨ps, s4, s6, o1, o2, o3⟩ := pl_out (Fd := .list (vs0 n)) (P := .own 1 [.int p0, .int p1]) k1 ⟨_, rfl⟩ k2 n2 k3
  obtain ⟨ws, q0, q1, s5, s7, t1, t2, t3, t4⟩ := pl_turns (S := sv t n ls) (s4 := s4) (s6 := s6) hd hk hp o2 o3 (vs0_pv (by omega) n2) (by simp [vs0])
  refine ⟨ws ++ [.list (cutL (ps.map prD) none (some 24)), .list (cutL (repL 25 (ps.map prD)) none (some 24)), .list (cutL (repL 26 (ps.map prD)) none (some 25))], q0, q1, ?_, t2, fun v hv => ?_⟩
  · rw [one (fn := ⟨2, 9, b__law_plans⟩) rfl]
    exact plans_run sv2 o1 t1 (lenOk_of (by simp; omega)) (lenOk_of (by simp; omega)) (lenOk_of (by omega))
  · rcases List.mem_append.mp hv with hv | hv
    · exact t3 v hv
    · simp only [List.mem_cons, List.not_mem_nil, or_false] at hv
      rcases hv with rfl | rfl | rfl
      · exact repr_l (fun x hx => sm_q o2 (cut_mem hx)) (Nat.le_trans (cut_hi (c := 24)) (by decide))
      · exact repr_l (fun x hx => sm_q o2 (repL_mem (cut_mem hx))) (Nat.le_trans (cut_hi (c := 24)) (by decide))
      · exact repr_l (fun x hx => sm_q o2 (repL_mem (cut_mem hx))) (Nat.le_trans (cut_hi (c := 25)) (by decide))
end
end K94

set_option Elab.async false
set_option linter.all false
set_option maxRecDepth 100000
set_option maxHeartbeats 4000000
namespace K94
open PySem Rf
/-- a lot that can be shown and judged -/
def lotK (d : D) : Prop := smI d ∧ sm1 d
def PV2 (v : D) : Prop := reprOk v = true ∧ sm2 v
theorem pv_l {xs : List D} (h : ∀ x ∈ xs, lotK x) (hz : xs.length ≤ 100) : PV2 (.list xs) :=
  ⟨repr_l (fun x hx => (h x hx).1) hz, fun ys e => by cases e; exact ⟨hz, fun x hx => (h x hx).2⟩⟩
theorem pv_t {xs : List D} (h : ∀ x ∈ xs, lotK x) (hz : xs.length ≤ 100) : PV2 (.tuple xs) :=
  ⟨repr_t (fun x hx => (h x hx).1) hz, fun ys e => by cases e; exact ⟨hz, fun x hx => (h x hx).2⟩⟩
theorem lk_l {is : List Int} (h : ∀ i ∈ is, 0 ≤ i ∧ i < 1000) (hz : is.length ≤ 100) : lotK (.list (is.map .int)) :=
  ⟨sm_li h hz, fun ys e => by cases e; simpa using hz⟩
theorem lk_t {is : List Int} (h : ∀ i ∈ is, 0 ≤ i ∧ i < 1000) (hz : is.length ≤ 100) : lotK (.tuple (is.map .int)) :=
  ⟨sm_ti h hz, fun ys e => by cases e; simpa using hz⟩
theorem okK_lk {n : Int} {is : List Int} (h : okK n is) (hn : n ≤ 24) : lotK (liD is) := lk_l (fun i hi => by have := h.2.1 i hi; omega) (by have := h.2.2; omega)
section
variable {FF : FT} {n : Int} {S : D} {P s2 s3 s4 s5 s7 s8 s9 s10 s11 s12 : Sl} {es : List (Int × Int)} {ks : List (List Int)}
theorem nd_tops (kn : FF 6 [.pu S] = some (.fr (ks.map liD), [])) (hlv : ∀ is, FF 9 [.pu (.list (es.map prD)), .pu (liD is)] = some (.fr ((lv es is).map .int), [])) (hkl : ks.length ≤ 24) {p0 p1 : Int} :
    evE FF C0 e__law_needs_12 [.own 1 [.int p0, .int p1], .val S, .emp, .own 0 xs, .emp, .emp, .val (.list (es.map prD)), .emp, .emp, .emp, .emp, .emp, .emp] = some (.fr ((ks.filter fun is => decide ((lv es is).length = 1)).map liD), [.own 1 [.int p0, .int p1], .val S, .emp, .own 0 xs, .emp, .emp, .val (.list (es.map prD)), .emp, .emp, .emp, .emp, .emp, .emp]) := by
  refine (lcE (e1 := [.own 1 [.int p0, .int p1], .val S, .emp, .own 0 xs, .emp, .emp, .val (.list (es.map prD)), .emp, .emp, .emp, .emp, .emp, .emp]) (ds := ks.map liD) (fun d => if decide ((lv es (lotI d)).length = 1) then some d else none) ?_ (by simp; omega) ?_).trans ?_
  · generalize ks.map liD = KK at kn ⊢
    generalize es.map prD = EE
    simp [evSs, evS, evE, evA, evP, evO, evD, evI, asgT, asgTs, rdp, rds, rdsAll, frzd, frzE, thaw, callO, arsOf, arOf, iosOf, distinct, backOut, rvO, pick, bltV, cmpV, eqii, eqbb, eqstr, binV, negV, ixt, ixl, at0, at1, at2, at3, at4, at5, ix20, ix21, lk0, lk1, lk2, lk3, lk4, lk5, lk6, putv, slotOf, finF, rvOf, outsOf, runF, slOf, setAt, tyIs, isNon, seqV, Nat.blt, mulOk2, kn]
  · intro d hd
    obtain ⟨is, his, rfl⟩ := List.mem_map.mp hd
    have hl := hlv is
    have li : lotI (liD is) = is := by
      show (is.map PyData.int).map dI = is
      rw [List.map_map]; exact List.map_id' _
    rw [li]
    have ll : ((lv es is).map PyData.int).length = (lv es is).length := List.length_map _
    generalize (lv es is).map PyData.int = LL at hl ll
    rw [← ll]
    have lq : decide ((LL.length : Int) = 1) = decide (LL.length = 1) := by
      by_cases q : LL.length = 1
      · rw [decide_eq_true q, decide_eq_true (by omega)]
      · rw [decide_eq_false q, decide_eq_false (by omega)]
    generalize hB : decide (LL.length = 1) = B at lq
    generalize liD is = I at hl
    generalize es.map prD = EE at hl
    refine ⟨[.own 1 [.int p0, .int p1], .val S, .emp, .own 0 xs, .emp, .emp, .val (.list EE), .emp, .emp, .emp, .val I, .emp, .emp], B, [.own 1 [.int p0, .int p1], .val S, .emp, .own 0 xs, .emp, .emp, .val (.list EE), .emp, .emp, .emp, .val I, .emp, .emp], ?_, ?_, fun hb => ⟨by simp [wipeE], by rw [hb]; rfl⟩, fun hb => ⟨I, [.own 1 [.int p0, .int p1], .val S, .emp, .own 0 xs, .emp, .emp, .val (.list EE), .emp, .emp, .emp, .val I, .emp, .emp], ?_, by simp [wipeE], by rw [hb]; rfl⟩⟩
    · simp [evSs, evS, evE, evA, evP, evO, evD, evI, asgT, asgTs, rdp, rds, rdsAll, frzd, frzE, thaw, callO, arsOf, arOf, iosOf, distinct, backOut, rvO, pick, bltV, cmpV, eqii, eqbb, eqstr, binV, negV, ixt, ixl, at0, at1, at2, at3, at4, at5, ix20, ix21, lk0, lk1, lk2, lk3, lk4, lk5, lk6, putv, slotOf, finF, rvOf, outsOf, runF, slOf, setAt, tyIs, isNon, seqV, Nat.blt, mulOk2, wipeE]
    · simp [evSs, evS, evE, evA, evP, evO, evD, evI, asgT, asgTs, rdp, rds, rdsAll, frzd, frzE, thaw, callO, arsOf, arOf, iosOf, distinct, backOut, rvO, pick, bltV, cmpV, eqii, eqbb, eqstr, binV, negV, ixt, ixl, at0, at1, at2, at3, at4, at5, ix20, ix21, lk0, lk1, lk2, lk3, lk4, lk5, lk6, putv, slotOf, finF, rvOf, outsOf, runF, slOf, setAt, tyIs, isNon, seqV, Nat.blt, mulOk2, hl, lq]
    · simp [evSs, evS, evE, evA, evP, evO, evD, evI, asgT, asgTs, rdp, rds, rdsAll, frzd, frzE, thaw, callO, arsOf, arOf, iosOf, distinct, backOut, rvO, pick, bltV, cmpV, eqii, eqbb, eqstr, binV, negV, ixt, ixl, at0, at1, at2, at3, at4, at5, ix20, ix21, lk0, lk1, lk2, lk3, lk4, lk5, lk6, putv, slotOf, finF, rvOf, outsOf, runF, slOf, setAt, tyIs, isNon, seqV, Nat.blt, mulOk2]
  · rw [fmap_filter liD _ (fun is => decide ((lv es is).length = 1)) liD ks (fun is _ => by
      have li : lotI (liD is) = is := by
        show (is.map PyData.int).map dI = is
        rw [List.map_map]; exact List.map_id' _
      rw [li])]
    simp [backE, wipeE, valOnly]
theorem nd_tup {A0 A3 A6 : Sl} (hkl : ks.length ≤ 24) : evE FF C0 e__law_needs_11 [A0, .val S, .val (.list (ks.map liD)), A3, .emp, .emp, A6, .emp, .emp, .emp, .emp, .emp, .emp] = some (.fr (ks.map fun is => .tuple (is.map .int)), [A0, .val S, .val (.list (ks.map liD)), A3, .emp, .emp, A6, .emp, .emp, .emp, .emp, .emp, .emp]) := by
  refine (lcE (e1 := [A0, .val S, .val (.list (ks.map liD)), A3, .emp, .emp, A6, .emp, .emp, .emp, .emp, .emp, .emp]) (ds := ks.map liD) (fun d => match d with | .list xs => some (.tuple xs) | _ => none) ?_ (by simp; omega) ?_).trans ?_
  · generalize ks.map liD = KK
    simp [evSs, evS, evE, evA, evP, evO, evD, evI, asgT, asgTs, rdp, rds, rdsAll, frzd, frzE, thaw, callO, arsOf, arOf, iosOf, distinct, backOut, rvO, pick, bltV, cmpV, eqii, eqbb, eqstr, binV, negV, ixt, ixl, at0, at1, at2, at3, at4, at5, ix20, ix21, lk0, lk1, lk2, lk3, lk4, lk5, lk6, putv, slotOf, finF, rvOf, outsOf, runF, slOf, setAt, tyIs, isNon, seqV, Nat.blt, mulOk2]
  · intro d hd
    obtain ⟨is, his, rfl⟩ := List.mem_map.mp hd
    generalize ks.map liD = KK
    unfold liD
    generalize is.map PyData.int = II
    refine ⟨[A0, .val S, .val (.list KK), A3, .emp, .emp, A6, .emp, .emp, .emp, .emp, .emp, .val (.list II)], true, [A0, .val S, .val (.list KK), A3, .emp, .emp, A6, .emp, .emp, .emp, .emp, .emp, .val (.list II)], ?_, ?_, by simp, fun _ => ⟨.tuple II, [A0, .val S, .val (.list KK), A3, .emp, .emp, A6, .emp, .emp, .emp, .emp, .emp, .val (.list II)], ?_, by simp [wipeE], rfl⟩⟩
    · simp [evSs, evS, evE, evA, evP, evO, evD, evI, asgT, asgTs, rdp, rds, rdsAll, frzd, frzE, thaw, callO, arsOf, arOf, iosOf, distinct, backOut, rvO, pick, bltV, cmpV, eqii, eqbb, eqstr, binV, negV, ixt, ixl, at0, at1, at2, at3, at4, at5, ix20, ix21, lk0, lk1, lk2, lk3, lk4, lk5, lk6, putv, slotOf, finF, rvOf, outsOf, runF, slOf, setAt, tyIs, isNon, seqV, Nat.blt, mulOk2, wipeE]
    · simp [evSs, evS, evE, evA, evP, evO, evD, evI, asgT, asgTs, rdp, rds, rdsAll, frzd, frzE, thaw, callO, arsOf, arOf, iosOf, distinct, backOut, rvO, pick, bltV, cmpV, eqii, eqbb, eqstr, binV, negV, ixt, ixl, at0, at1, at2, at3, at4, at5, ix20, ix21, lk0, lk1, lk2, lk3, lk4, lk5, lk6, putv, slotOf, finF, rvOf, outsOf, runF, slOf, setAt, tyIs, isNon, seqV, Nat.blt, mulOk2]
    · simp [evSs, evS, evE, evA, evP, evO, evD, evI, asgT, asgTs, rdp, rds, rdsAll, frzd, frzE, thaw, callO, arsOf, arOf, iosOf, distinct, backOut, rvO, pick, bltV, cmpV, eqii, eqbb, eqstr, binV, negV, ixt, ixl, at0, at1, at2, at3, at4, at5, ix20, ix21, lk0, lk1, lk2, lk3, lk4, lk5, lk6, putv, slotOf, finF, rvOf, outsOf, runF, slOf, setAt, tyIs, isNon, seqV, Nat.blt, mulOk2]
  · rw [fmap_some liD _ (fun is => .tuple (is.map .int)) ks (fun _ _ => rfl)]
    simp [backE, wipeE, valOnly]
theorem nd_rev {A0 A3 A6 : Sl} (hkl : ks.length ≤ 24) : evE FF C0 e__law_needs_10 [A0, .val S, .val (.list (ks.map liD)), A3, .emp, .emp, A6, .emp, .emp, .emp, .emp, .emp, .emp] = some (.fr (ks.map fun is => .list (is.reverse.map .int)), [A0, .val S, .val (.list (ks.map liD)), A3, .emp, .emp, A6, .emp, .emp, .emp, .emp, .emp, .emp]) := by
  refine (lcE (e1 := [A0, .val S, .val (.list (ks.map liD)), A3, .emp, .emp, A6, .emp, .emp, .emp, .emp, .emp, .emp]) (ds := ks.map liD) (fun d => match d with | .list xs => some (.list xs.reverse) | _ => none) ?_ (by simp; omega) ?_).trans ?_
  · generalize ks.map liD = KK
    simp [evSs, evS, evE, evA, evP, evO, evD, evI, asgT, asgTs, rdp, rds, rdsAll, frzd, frzE, thaw, callO, arsOf, arOf, iosOf, distinct, backOut, rvO, pick, bltV, cmpV, eqii, eqbb, eqstr, binV, negV, ixt, ixl, at0, at1, at2, at3, at4, at5, ix20, ix21, lk0, lk1, lk2, lk3, lk4, lk5, lk6, putv, slotOf, finF, rvOf, outsOf, runF, slOf, setAt, tyIs, isNon, seqV, Nat.blt, mulOk2]
  · intro d hd
    obtain ⟨is, his, rfl⟩ := List.mem_map.mp hd
    generalize ks.map liD = KK
    unfold liD
    generalize is.map PyData.int = II
    refine ⟨[A0, .val S, .val (.list KK), A3, .emp, .emp, A6, .emp, .emp, .emp, .emp, .emp, .val (.list II)], true, [A0, .val S, .val (.list KK), A3, .emp, .emp, A6, .emp, .emp, .emp, .emp, .emp, .val (.list II)], ?_, ?_, by simp, fun _ => ⟨.list II.reverse, [A0, .val S, .val (.list KK), A3, .emp, .emp, A6, .emp, .emp, .emp, .emp, .emp, .val (.list II)], ?_, by simp [wipeE], rfl⟩⟩
    · simp [evSs, evS, evE, evA, evP, evO, evD, evI, asgT, asgTs, rdp, rds, rdsAll, frzd, frzE, thaw, callO, arsOf, arOf, iosOf, distinct, backOut, rvO, pick, bltV, cmpV, eqii, eqbb, eqstr, binV, negV, ixt, ixl, at0, at1, at2, at3, at4, at5, ix20, ix21, lk0, lk1, lk2, lk3, lk4, lk5, lk6, putv, slotOf, finF, rvOf, outsOf, runF, slOf, setAt, tyIs, isNon, seqV, Nat.blt, mulOk2, wipeE]
    · simp [evSs, evS, evE, evA, evP, evO, evD, evI, asgT, asgTs, rdp, rds, rdsAll, frzd, frzE, thaw, callO, arsOf, arOf, iosOf, distinct, backOut, rvO, pick, bltV, cmpV, eqii, eqbb, eqstr, binV, negV, ixt, ixl, at0, at1, at2, at3, at4, at5, ix20, ix21, lk0, lk1, lk2, lk3, lk4, lk5, lk6, putv, slotOf, finF, rvOf, outsOf, runF, slOf, setAt, tyIs, isNon, seqV, Nat.blt, mulOk2]
    · simp [evSs, evS, evE, evA, evP, evO, evD, evI, asgT, asgTs, rdp, rds, rdsAll, frzd, frzE, thaw, callO, arsOf, arOf, iosOf, distinct, backOut, rvO, pick, bltV, cmpV, eqii, eqbb, eqstr, binV, negV, ixt, ixl, at0, at1, at2, at3, at4, at5, ix20, ix21, lk0, lk1, lk2, lk3, lk4, lk5, lk6, putv, slotOf, finF, rvOf, outsOf, runF, slOf, setAt, tyIs, isNon, seqV, Nat.blt, mulOk2, revV]
  · rw [fmap_some liD _ (fun is => .list (is.reverse.map .int)) ks (fun is _ => by unfold liD; rw [List.map_reverse])]
    simp [backE, wipeE, valOnly]
/-! ### the drawn lots -/
def LK (n : Int) (c : Nat) (d : D) : Prop := ∃ is : List Int, d = liD is ∧ (∀ i ∈ is, 0 ≤ i ∧ i < n) ∧ is.length ≤ c
theorem LK.mono {n : Int} {c c' : Nat} {d : D} (h : LK n c d) (hc : c ≤ c') : LK n c' d := by
  obtain ⟨is, h1, h2, h3⟩ := h
  exact ⟨is, h1, h2, by omega⟩
theorem LK.lk {n : Int} {c : Nat} {d : D} (h : LK n c d) (hn : n ≤ 24) (hc : c ≤ 24) : lotK d := by
  obtain ⟨is, rfl, h2, h3⟩ := h
  exact lk_l (fun i hi => by have := h2 i hi; omega) (by omega)
theorem repL_len {xs : List D} : ∀ c, (repL c xs).length = xs.length * c
  | 0 => by simp [repL]
  | c + 1 => by simp [repL, repL_len c, Nat.mul_succ]; omega
theorem nd_row (hd : HD FF) (hI : idxV S (.int 2) = some (.int n)) (n0 : 0 ≤ n) (n24 : n ≤ 24) {p0 p1 : Int} (hp : Pot p0 p1) {F : List D} {E : D} {r8 r11 : Sl} :
    ∃ lots q0 q1 r8' r11', evS FF C0 s__law_needs_7 [.own 1 [.int p0, .int p1], .val S, s2, .own 0 F, s4, s5, .val E, .own 0 [], r8, s9, s10, r11, s12] = some (.nx [.own 1 [.int q0, .int q1], .val S, s2, .own 0 F, s4, s5, .val E, .own 0 lots, r8', s9, s10, r11', s12]) ∧ Pot q0 q1 ∧ (∀ d ∈ lots, LK n 24 d) ∧ lots.length ≤ 4 ∧ (valOnly (some r8) = r8 → valOnly (some r8') = r8') ∧ (valOnly (some r11) = r11 → valOnly (some r11') = r11') := by
  obtain ⟨fl, h1, lots, q0, q1, r8', r11', rfl, h2, h3, h4, h5, h6⟩ := foE (F := FF) (C := C0) (t := .nm 8) (it := .rng (.cst (.int 0)) (.idx (.var 1) (.cst (.int 2)))) (b := l__law_needs_6) (env := [.own 1 [.int p0, .int p1], .val S, s2, .own 0 F, s4, s5, .val E, .own 0 [], r8, s9, s10, r11, s12])
    (e1 := [.own 1 [.int p0, .int p1], .val S, s2, .own 0 F, s4, s5, .val E, .own 0 [], r8, s9, s10, r11, s12]) (ds := (iot n.toNat).map .int)
    (fun ds e => ∃ lots q0 q1 r8' r11', e = [.own 1 [.int q0, .int q1], .val S, s2, .own 0 F, s4, s5, .val E, .own 0 lots, r8', s9, s10, r11', s12] ∧ Pot q0 q1 ∧ (∀ d ∈ lots, LK n (24 - ds.length) d) ∧ lots.length ≤ 4 ∧ (valOnly (some r8) = r8 → valOnly (some r8') = r8') ∧ (valOnly (some r11) = r11 → valOnly (some r11') = r11') ∧ ds.length ≤ 24 ∧ ∀ d ∈ ds, ∃ i, d = .int i ∧ 0 ≤ i ∧ i < n)
    (fun fl => ∃ lots q0 q1 r8' r11', fl = .nx [.own 1 [.int q0, .int q1], .val S, s2, .own 0 F, s4, s5, .val E, .own 0 lots, r8', s9, s10, r11', s12] ∧ Pot q0 q1 ∧ (∀ d ∈ lots, LK n 24 d) ∧ lots.length ≤ 4 ∧ (valOnly (some r8) = r8 → valOnly (some r8') = r8') ∧ (valOnly (some r11) = r11 → valOnly (some r11') = r11')) rfl
    (rngE (e1 := [.own 1 [.int p0, .int p1], .val S, s2, .own 0 F, s4, s5, .val E, .own 0 [], r8, s9, s10, r11, s12]) (e2 := [.own 1 [.int p0, .int p1], .val S, s2, .own 0 F, s4, s5, .val E, .own 0 [], r8, s9, s10, r11, s12]) (a := .int 0) (b := .int n) (by simp [evSs, evS, evE, evA, evP, evO, evD, evI, asgT, asgTs, rdp, rds, rdsAll, frzd, frzE, thaw, callO, arsOf, arOf, iosOf, distinct, backOut, rvO, pick, bltV, cmpV, eqii, eqbb, eqstr, binV, negV, ixt, ixl, at0, at1, at2, at3, at4, at5, ix20, ix21, lk0, lk1, lk2, lk3, lk4, lk5, lk6, putv, slotOf, finF, rvOf, outsOf, runF, slOf, setAt, tyIs, isNon, seqV, Nat.blt, mulOk2]) (by simp [evSs, evS, evE, evA, evP, evO, evD, evI, asgT, asgTs, rdp, rds, rdsAll, frzd, frzE, thaw, callO, arsOf, arOf, iosOf, distinct, backOut, rvO, pick, bltV, cmpV, eqii, eqbb, eqstr, binV, negV, ixt, ixl, at0, at1, at2, at3, at4, at5, ix20, ix21, lk0, lk1, lk2, lk3, lk4, lk5, lk6, putv, slotOf, finF, rvOf, outsOf, runF, slOf, setAt, tyIs, isNon, seqV, Nat.blt, mulOk2, hI]) (rng_iot n0 (by omega)))
    ⟨[], p0, p1, r8, r11, rfl, hp, (fun _ z => nomatch z), by simp, id, id, by rw [List.length_map, iot_len]; omega, fun d hd => by
      obtain ⟨i, hi, rfl⟩ := List.mem_map.mp hd
      have := mem_iot.mp hi
      exact ⟨i, rfl, by omega, by omega⟩⟩
    (fun e ⟨lots, q0, q1, r8', r11', e1, e2, e3, e4, e5, e6, _, _⟩ => ⟨lots, q0, q1, r8', r11', by rw [e1], e2, (fun d hd => (e3 d hd).mono (by simp)), e4, e5, e6⟩)
    (by
      rintro d ds e ⟨lots, q0, q1, r8', r11', rfl, e2, e3, e4, e5, e6, e7, e8⟩
      obtain ⟨i, rfl, i0, i1⟩ := e8 d List.mem_cons_self
      have e8' := fun d hd => e8 d (List.mem_cons_of_mem _ hd)
      obtain ⟨a, b0, b1, c1, g, a0, a1⟩ := hd (m := 4) e2 (by decide) (by decide)
      have hk1 : small64 (a + 1 - (lots.length : Int)) = true := by
        unfold small64 Nat.blt
        exact Nat.ble_eq_true_of_le (by omega)
      have hk2 : -9223372036854775808 ≤ a + 1 - (lots.length : Int) := by omega
      have hk3 : a + 1 - (lots.length : Int) < 9223372036854775808 := by omega
      have hk4 : lenOk (a + 1 - (lots.length : Int)).toNat = true := lenOk_of (by omega)
      have hln : (repL (a + 1 - (lots.length : Int)).toNat [.list []]).length = (a + 1 - (lots.length : Int)).toNat := by rw [repL_len]; simp
      have hk5 : lenOk (lots.length + (repL (a + 1 - (lots.length : Int)).toNat [.list []]).length) = true := lenOk_of (by rw [hln]; omega)
      have hall : ∀ d ∈ lots ++ repL (a + 1 - (lots.length : Int)).toNat [.list []], LK n (24 - (ds.length + 1)) d := fun d hd => by
        rcases List.mem_append.mp hd with hd | hd
        · exact e3 d hd
        · have := repL_mem hd
          simp at this; subst this
          exact ⟨[], rfl, by simp, by simp⟩
      have hlen : (lots ++ repL (a + 1 - (lots.length : Int)).toNat [.list []]).length ≤ 4 ∧ a < ((lots ++ repL (a + 1 - (lots.length : Int)).toNat [.list []]).length : Int) := by
        rw [List.length_append, hln]; omega
      have w1 := hlen.1
      have w2 := hlen.2
      have st1 : evS FF C0 (.own 7 (.bin .add (.var 7) (.bin .mul (.lst (.cons (.lst (.nil)) (.nil))) (.bin .sub (.bin .add (.var 11) (.cst (.int 1))) (.blt .len (.cons (.var 7) (.nil))))))) [.own 1 [.int b0, .int b1], .val S, s2, .own 0 F, s4, s5, .val E, .own 0 lots, .val (.int i), s9, s10, .val (.int a), s12] = some (.nx [.own 1 [.int b0, .int b1], .val S, s2, .own 0 F, s4, s5, .val E, .own 0 (lots ++ repL (a + 1 - (lots.length : Int)).toNat [.list []]), .val (.int i), s9, s10, .val (.int a), s12]) := by
        clear hall hlen w1 w2 hln
        generalize hK : a + 1 - (lots.length : Int) = K at hk1 hk2 hk3 hk4 hk5 ⊢
        simp [evSs, evS, evE, evA, evP, evO, evD, evI, asgT, asgTs, rdp, rds, rdsAll, frzd, frzE, thaw, callO, arsOf, arOf, iosOf, distinct, backOut, rvO, pick, bltV, cmpV, eqii, eqbb, eqstr, binV, negV, ixt, ixl, at0, at1, at2, at3, at4, at5, ix20, ix21, lk0, lk1, lk2, lk3, lk4, lk5, lk6, putv, slotOf, finF, rvOf, outsOf, runF, slOf, setAt, tyIs, isNon, seqV, Nat.blt, mulOk2, hK, hk1, hk2, hk3, hk4, hk5]
      generalize lots ++ repL (a + 1 - (lots.length : Int)).toNat [.list []] = lots2 at st1 hall w1 w2
      obtain ⟨x, hx, hxm⟩ := atI_in a0 w2
      obtain ⟨is, rfl, is1, is2⟩ := hall x hxm
      have hx2 : L2.ixN lots2.length a = some a.toNat := by unfold L2.ixN; rw [if_pos a0, if_pos w2]
      have z : lenOk ((is.map PyData.int).length + 1) = true := lenOk_of (by simp; omega)
      refine ⟨[.own 1 [.int q0, .int q1], .val S, s2, .own 0 F, s4, s5, .val E, .own 0 lots, .val (.int i), s9, s10, r11', s12], .nx [.own 1 [.int b0, .int b1], .val S, s2, .own 0 F, s4, s5, .val E, .own 0 (lots2.set a.toNat (liD (is ++ [i]))), .val (.int i), s9, s10, .val (.int a), s12], by simp [evSs, evS, evE, evA, evP, evO, evD, evI, asgT, asgTs, rdp, rds, rdsAll, frzd, frzE, thaw, callO, arsOf, arOf, iosOf, distinct, backOut, rvO, pick, bltV, cmpV, eqii, eqbb, eqstr, binV, negV, ixt, ixl, at0, at1, at2, at3, at4, at5, ix20, ix21, lk0, lk1, lk2, lk3, lk4, lk5, lk6, putv, slotOf, finF, rvOf, outsOf, runF, slOf, setAt, tyIs, isNon, seqV, Nat.blt, mulOk2], ?_, _, _, _, _, _, rfl, g, fun d hd => ?_, by simpa using w1, (fun _ => rfl), (fun _ => rfl), by simp at e7; omega, e8'⟩
      · have st0 : evS FF C0 (.asg (.nm 11) (.call 0 (.cons (.var 0) (.cons (.cst (.int 4)) (.nil))))) [.own 1 [.int q0, .int q1], .val S, s2, .own 0 F, s4, s5, .val E, .own 0 lots, .val (.int i), s9, s10, r11', s12] = some (.nx [.own 1 [.int b0, .int b1], .val S, s2, .own 0 F, s4, s5, .val E, .own 0 lots, .val (.int i), s9, s10, .val (.int a), s12]) := by simp [evSs, evS, evE, evA, evP, evO, evD, evI, asgT, asgTs, rdp, rds, rdsAll, frzd, frzE, thaw, callO, arsOf, arOf, iosOf, distinct, backOut, rvO, pick, bltV, cmpV, eqii, eqbb, eqstr, binV, negV, ixt, ixl, at0, at1, at2, at3, at4, at5, ix20, ix21, lk0, lk1, lk2, lk3, lk4, lk5, lk6, putv, slotOf, finF, rvOf, outsOf, runF, slOf, setAt, tyIs, isNon, seqV, Nat.blt, mulOk2, c1]
        have st2 : evS FF C0 (.asg (.sub 7 (.var 11)) (.bin .add (.idx (.var 7) (.var 11)) (.lst (.cons (.var 8) (.nil))))) [.own 1 [.int b0, .int b1], .val S, s2, .own 0 F, s4, s5, .val E, .own 0 lots2, .val (.int i), s9, s10, .val (.int a), s12] = some (.nx [.own 1 [.int b0, .int b1], .val S, s2, .own 0 F, s4, s5, .val E, .own 0 (lots2.set a.toNat (liD (is ++ [i]))), .val (.int i), s9, s10, .val (.int a), s12]) := by
          unfold liD at hx ⊢
          rw [List.map_append]
          generalize is.map PyData.int = II at hx z ⊢
          simp [evSs, evS, evE, evA, evP, evO, evD, evI, asgT, asgTs, rdp, rds, rdsAll, frzd, frzE, thaw, callO, arsOf, arOf, iosOf, distinct, backOut, rvO, pick, bltV, cmpV, eqii, eqbb, eqstr, binV, negV, ixt, ixl, at0, at1, at2, at3, at4, at5, ix20, ix21, lk0, lk1, lk2, lk3, lk4, lk5, lk6, putv, slotOf, finF, rvOf, outsOf, runF, slOf, setAt, tyIs, isNon, seqV, Nat.blt, mulOk2, hx, hx2, z]
        unfold l__law_needs_6
        rw [evSs, st0]
        dsimp only
        rw [evSs, st1]
        dsimp only
        rw [evSs, st2]
        rfl
      · rcases List.mem_or_eq_of_mem_set hd with hd | rfl
        · exact (hall d hd).mono (by simp at e7; omega)
        · refine ⟨is ++ [i], rfl, fun j hj => ?_, by simp at e7 ⊢; omega⟩
          rcases List.mem_append.mp hj with hj | hj
          · exact is1 j hj
          · simp at hj; subst hj; exact ⟨i0, i1⟩)
  exact ⟨lots, q0, q1, r8', r11', h1, h2, h3, h4, h5, h6⟩
end
end K94

set_option Elab.async false
set_option linter.all false
set_option maxRecDepth 100000
set_option maxHeartbeats 4000000
namespace K94
open PySem Rf
def fne : D → Option D
  | .list [] => none
  | d => some d
theorem fne_mem {lots : List D} {x : D} (h : x ∈ lots.filterMap fne) : x ∈ lots := by
  obtain ⟨a, ha, e⟩ := List.mem_filterMap.mp h
  unfold fne at e
  split at e
  · cases e
  · cases e; exact ha
section
variable {FF : FT} {n : Int} {S E T : D} {A0 s4 s5 s7 r8 r11 s9 : Sl} {es : List (Int × Int)} {ks : List (List Int)}
theorem nd_filt {F lots : List D} (hl : ∀ d ∈ lots, LK n 24 d) (hz : lots.length ≤ 4) : evE FF C0 e__law_needs_5 [A0, .val S, .val T, .own 0 F, s4, .emp, .val E, .own 0 lots, r8, .emp, .emp, r11, .emp] = some (.fr (lots.filterMap fne), [A0, .val S, .val T, .own 0 F, s4, .emp, .val E, .val (.list lots), r8, .emp, .emp, r11, .emp]) := by
  refine (lcE (e1 := [A0, .val S, .val T, .own 0 F, s4, .emp, .val E, .val (.list lots), r8, .emp, .emp, r11, .emp]) (ds := lots) fne ?_ (by omega) ?_).trans ?_
  · simp [evSs, evS, evE, evA, evP, evO, evD, evI, asgT, asgTs, rdp, rds, rdsAll, frzd, frzE, thaw, callO, arsOf, arOf, iosOf, distinct, backOut, rvO, pick, bltV, cmpV, eqii, eqbb, eqstr, binV, negV, ixt, ixl, at0, at1, at2, at3, at4, at5, ix20, ix21, lk0, lk1, lk2, lk3, lk4, lk5, lk6, putv, slotOf, finF, rvOf, outsOf, runF, slOf, setAt, tyIs, isNon, seqV, Nat.blt, mulOk2]
  · intro d hd
    obtain ⟨is, rfl, h1, h2⟩ := hl d hd
    have np := eq_nilI is
    refine ⟨[A0, .val S, .val T, .own 0 F, s4, .emp, .val E, .val (.list lots), r8, .emp, .emp, r11, .val (liD is)], !decide (is = []), [A0, .val S, .val T, .own 0 F, s4, .emp, .val E, .val (.list lots), r8, .emp, .emp, r11, .val (liD is)], ?_, ?_, fun hb => ⟨by simp [wipeE], ?_⟩, fun hb => ⟨liD is, [A0, .val S, .val T, .own 0 F, s4, .emp, .val E, .val (.list lots), r8, .emp, .emp, r11, .val (liD is)], ?_, by simp [wipeE], ?_⟩⟩
    · simp [evSs, evS, evE, evA, evP, evO, evD, evI, asgT, asgTs, rdp, rds, rdsAll, frzd, frzE, thaw, callO, arsOf, arOf, iosOf, distinct, backOut, rvO, pick, bltV, cmpV, eqii, eqbb, eqstr, binV, negV, ixt, ixl, at0, at1, at2, at3, at4, at5, ix20, ix21, lk0, lk1, lk2, lk3, lk4, lk5, lk6, putv, slotOf, finF, rvOf, outsOf, runF, slOf, setAt, tyIs, isNon, seqV, Nat.blt, mulOk2, wipeE]
    · unfold liD
      generalize decide (is = []) = B at np ⊢
      generalize is.map PyData.int = II at np ⊢
      simp [evSs, evS, evE, evA, evP, evO, evD, evI, asgT, asgTs, rdp, rds, rdsAll, frzd, frzE, thaw, callO, arsOf, arOf, iosOf, distinct, backOut, rvO, pick, bltV, cmpV, eqii, eqbb, eqstr, binV, negV, ixt, ixl, at0, at1, at2, at3, at4, at5, ix20, ix21, lk0, lk1, lk2, lk3, lk4, lk5, lk6, putv, slotOf, finF, rvOf, outsOf, runF, slOf, setAt, tyIs, isNon, seqV, Nat.blt, mulOk2, np]
    · have : is = [] := by simpa using hb
      subst this; rfl
    · simp [evSs, evS, evE, evA, evP, evO, evD, evI, asgT, asgTs, rdp, rds, rdsAll, frzd, frzE, thaw, callO, arsOf, arOf, iosOf, distinct, backOut, rvO, pick, bltV, cmpV, eqii, eqbb, eqstr, binV, negV, ixt, ixl, at0, at1, at2, at3, at4, at5, ix20, ix21, lk0, lk1, lk2, lk3, lk4, lk5, lk6, putv, slotOf, finF, rvOf, outsOf, runF, slOf, setAt, tyIs, isNon, seqV, Nat.blt, mulOk2]
    · have : is ≠ [] := by simpa using hb
      cases is with
      | nil => exact absurd rfl this
      | cons a r => rfl
  · simp [backE, wipeE, valOnly]
theorem nd_turns (hd : HD FF) (hI : idxV S (.int 2) = some (.int n)) (n0 : 0 ≤ n) (n24 : n ≤ 24) {p0 p1 : Int} (hp : Pot p0 p1) {F : List D} (hF : ∀ v ∈ F, PV2 v) (hFl : F.length ≤ 20) :
    ∃ F' q0 q1 s4 s7 r8 r11, evS FF C0 s__law_needs_9 [.own 1 [.int p0, .int p1], .val S, .val T, .own 0 F, .emp, .emp, .val E, .emp, .emp, .emp, .emp, .emp, .emp] = some (.nx [.own 1 [.int q0, .int q1], .val S, .val T, .own 0 F', s4, .emp, .val E, s7, r8, .emp, .emp, r11, .emp]) ∧ Pot q0 q1 ∧ (∀ v ∈ F', PV2 v) ∧ F'.length ≤ 28 ∧ valOnly (some r8) = r8 ∧ valOnly (some r11) = r11 := by
  obtain ⟨fl, h1, F', q0, q1, s4, s7, r8, r11, rfl, h2, h3, h4, h5, h6⟩ := foE (F := FF) (C := C0) (t := .nm 4) (it := .rng (.cst (.int 0)) (.cst (.int 4))) (b := l__law_needs_8) (env := [.own 1 [.int p0, .int p1], .val S, .val T, .own 0 F, .emp, .emp, .val E, .emp, .emp, .emp, .emp, .emp, .emp])
    (e1 := [.own 1 [.int p0, .int p1], .val S, .val T, .own 0 F, .emp, .emp, .val E, .emp, .emp, .emp, .emp, .emp, .emp]) (ds := (iot (4 : Int).toNat).map .int)
    (fun ds e => ∃ F' q0 q1 s4 s7 r8 r11, e = [.own 1 [.int q0, .int q1], .val S, .val T, .own 0 F', s4, .emp, .val E, s7, r8, .emp, .emp, r11, .emp] ∧ Pot q0 q1 ∧ (∀ v ∈ F', PV2 v) ∧ F'.length + 2 * ds.length ≤ 28 ∧ valOnly (some r8) = r8 ∧ valOnly (some r11) = r11)
    (fun fl => ∃ F' q0 q1 s4 s7 r8 r11, fl = .nx [.own 1 [.int q0, .int q1], .val S, .val T, .own 0 F', s4, .emp, .val E, s7, r8, .emp, .emp, r11, .emp] ∧ Pot q0 q1 ∧ (∀ v ∈ F', PV2 v) ∧ F'.length ≤ 28 ∧ valOnly (some r8) = r8 ∧ valOnly (some r11) = r11) rfl
    (rngE (e1 := [.own 1 [.int p0, .int p1], .val S, .val T, .own 0 F, .emp, .emp, .val E, .emp, .emp, .emp, .emp, .emp, .emp]) (e2 := [.own 1 [.int p0, .int p1], .val S, .val T, .own 0 F, .emp, .emp, .val E, .emp, .emp, .emp, .emp, .emp, .emp]) (a := .int 0) (b := .int 4) (by simp [evSs, evS, evE, evA, evP, evO, evD, evI, asgT, asgTs, rdp, rds, rdsAll, frzd, frzE, thaw, callO, arsOf, arOf, iosOf, distinct, backOut, rvO, pick, bltV, cmpV, eqii, eqbb, eqstr, binV, negV, ixt, ixl, at0, at1, at2, at3, at4, at5, ix20, ix21, lk0, lk1, lk2, lk3, lk4, lk5, lk6, putv, slotOf, finF, rvOf, outsOf, runF, slOf, setAt, tyIs, isNon, seqV, Nat.blt, mulOk2]) (by simp [evSs, evS, evE, evA, evP, evO, evD, evI, asgT, asgTs, rdp, rds, rdsAll, frzd, frzE, thaw, callO, arsOf, arOf, iosOf, distinct, backOut, rvO, pick, bltV, cmpV, eqii, eqbb, eqstr, binV, negV, ixt, ixl, at0, at1, at2, at3, at4, at5, ix20, ix21, lk0, lk1, lk2, lk3, lk4, lk5, lk6, putv, slotOf, finF, rvOf, outsOf, runF, slOf, setAt, tyIs, isNon, seqV, Nat.blt, mulOk2]) (rng_iot (by decide) (by decide)))
    ⟨F, p0, p1, .emp, .emp, .emp, .emp, rfl, hp, hF, by rw [List.length_map, iot_len]; simp; omega, rfl, rfl⟩
    (fun e ⟨F', q0, q1, s4, s7, r8, r11, e1, e2, e3, e4, e5, e6⟩ => ⟨F', q0, q1, s4, s7, r8, r11, by rw [e1], e2, e3, by simpa using e4, e5, e6⟩)
    (by
      rintro d ds e ⟨F', q0, q1, s4, s7, r8, r11, rfl, e2, e3, e4, e5, e6⟩
      obtain ⟨lots, b0, b1, r8', r11', c1, g, l1, l2, l3, l4⟩ := nd_row (S := S) (s2 := .val T) (s4 := .val d) (s5 := .emp) (s9 := .emp) (s10 := .emp) (s12 := .emp) (F := F') (E := E) (r8 := r8) (r11 := r11) hd hI n0 n24 e2
      have c2 := nd_filt (FF := FF) (A0 := .own 1 [.int b0, .int b1]) (S := S) (T := T) (F := F') (s4 := .val d) (E := E) (r8 := r8') (r11 := r11') l1 l2
      have z : lenOk (F'.length + 2) = true := lenOk_of (by omega)
      refine ⟨[.own 1 [.int q0, .int q1], .val S, .val T, .own 0 F', .val d, .emp, .val E, s7, r8, .emp, .emp, r11, .emp], .nx [.own 1 [.int b0, .int b1], .val S, .val T, .own 0 (F' ++ [.list (lots.filterMap fne), .list lots]), .val d, .emp, .val E, .val (.list lots), r8', .emp, .emp, r11', .emp], by simp [evSs, evS, evE, evA, evP, evO, evD, evI, asgT, asgTs, rdp, rds, rdsAll, frzd, frzE, thaw, callO, arsOf, arOf, iosOf, distinct, backOut, rvO, pick, bltV, cmpV, eqii, eqbb, eqstr, binV, negV, ixt, ixl, at0, at1, at2, at3, at4, at5, ix20, ix21, lk0, lk1, lk2, lk3, lk4, lk5, lk6, putv, slotOf, finF, rvOf, outsOf, runF, slOf, setAt, tyIs, isNon, seqV, Nat.blt, mulOk2], ?_, _, _, _, _, _, _, _, rfl, g, fun v hv => ?_, by simp at e4 ⊢; omega, l3 e5, l4 e6⟩
      · simp [evSs, evS, evE, evA, evP, evO, evD, evI, asgT, asgTs, rdp, rds, rdsAll, frzd, frzE, thaw, callO, arsOf, arOf, iosOf, distinct, backOut, rvO, pick, bltV, cmpV, eqii, eqbb, eqstr, binV, negV, ixt, ixl, at0, at1, at2, at3, at4, at5, ix20, ix21, lk0, lk1, lk2, lk3, lk4, lk5, lk6, putv, slotOf, finF, rvOf, outsOf, runF, slOf, setAt, tyIs, isNon, seqV, Nat.blt, mulOk2, l__law_needs_8, c1, c2, z]
      · rcases List.mem_append.mp hv with hv | hv
        · exact e3 v hv
        · simp only [List.mem_cons, List.not_mem_nil, or_false] at hv
          rcases hv with rfl | rfl
          · exact pv_l (fun x hx => (l1 x (fne_mem hx)).lk n24 (by decide)) (Nat.le_trans (List.length_filterMap_le _ _) (by omega))
          · exact pv_l (fun x hx => (l1 x hx).lk n24 (by decide)) (by omega))
  exact ⟨F', q0, q1, s4, s7, r8, r11, h1, h2, h3, h4, h5, h6⟩
/-! ### sides -/
theorem nd_e2 {F EE : List D} {leg : Int} {m : Nat} (hm : EE.length = m) (hz : m ≤ 1000) (hr : valOnly (some r11) = r11) : evE FF C0 e__law_needs_2 [A0, .val S, .val T, .own 0 F, s4, .val (.int leg), .val (.list EE), s7, r8, s9, .emp, r11, .emp] = some (.fr ((wout (iot m) leg).map .int), [A0, .val S, .val T, .own 0 F, s4, .val (.int leg), .val (.list EE), s7, r8, s9, .emp, r11, .emp]) := by
  have r := rng_iot (n := (m : Int)) (by omega) (by omega)
  rw [Int.toNat_natCast] at r
  refine (lcE (e1 := [A0, .val S, .val T, .own 0 F, s4, .val (.int leg), .val (.list EE), s7, r8, s9, .emp, r11, .emp]) (ds := (iot m).map .int) (fun d => match d with | .int i => if (!decide (i = leg)) then some (.int i) else none | _ => none) ?_ (by rw [List.length_map, iot_len]; omega) ?_).trans ?_
  · refine rngE (e1 := [A0, .val S, .val T, .own 0 F, s4, .val (.int leg), .val (.list EE), s7, r8, s9, .emp, r11, .emp]) (e2 := [A0, .val S, .val T, .own 0 F, s4, .val (.int leg), .val (.list EE), s7, r8, s9, .emp, r11, .emp]) (a := .int 0) (b := .int m) (by simp [evSs, evS, evE, evA, evP, evO, evD, evI, asgT, asgTs, rdp, rds, rdsAll, frzd, frzE, thaw, callO, arsOf, arOf, iosOf, distinct, backOut, rvO, pick, bltV, cmpV, eqii, eqbb, eqstr, binV, negV, ixt, ixl, at0, at1, at2, at3, at4, at5, ix20, ix21, lk0, lk1, lk2, lk3, lk4, lk5, lk6, putv, slotOf, finF, rvOf, outsOf, runF, slOf, setAt, tyIs, isNon, seqV, Nat.blt, mulOk2]) ?_ r
    rw [← hm]
    simp [evSs, evS, evE, evA, evP, evO, evD, evI, asgT, asgTs, rdp, rds, rdsAll, frzd, frzE, thaw, callO, arsOf, arOf, iosOf, distinct, backOut, rvO, pick, bltV, cmpV, eqii, eqbb, eqstr, binV, negV, ixt, ixl, at0, at1, at2, at3, at4, at5, ix20, ix21, lk0, lk1, lk2, lk3, lk4, lk5, lk6, putv, slotOf, finF, rvOf, outsOf, runF, slOf, setAt, tyIs, isNon, seqV, Nat.blt, mulOk2]
  · intro d hd
    obtain ⟨i, hi, rfl⟩ := List.mem_map.mp hd
    refine ⟨[A0, .val S, .val T, .own 0 F, s4, .val (.int leg), .val (.list EE), s7, r8, s9, .emp, .val (.int i), .emp], !decide (i = leg), [A0, .val S, .val T, .own 0 F, s4, .val (.int leg), .val (.list EE), s7, r8, s9, .emp, .val (.int i), .emp], ?_, ?_, fun hb => ⟨by simp [wipeE], ?_⟩, fun hb => ⟨.int i, [A0, .val S, .val T, .own 0 F, s4, .val (.int leg), .val (.list EE), s7, r8, s9, .emp, .val (.int i), .emp], ?_, by simp [wipeE], ?_⟩⟩
    · simp [evSs, evS, evE, evA, evP, evO, evD, evI, asgT, asgTs, rdp, rds, rdsAll, frzd, frzE, thaw, callO, arsOf, arOf, iosOf, distinct, backOut, rvO, pick, bltV, cmpV, eqii, eqbb, eqstr, binV, negV, ixt, ixl, at0, at1, at2, at3, at4, at5, ix20, ix21, lk0, lk1, lk2, lk3, lk4, lk5, lk6, putv, slotOf, finF, rvOf, outsOf, runF, slOf, setAt, tyIs, isNon, seqV, Nat.blt, mulOk2, wipeE]
    · simp [evSs, evS, evE, evA, evP, evO, evD, evI, asgT, asgTs, rdp, rds, rdsAll, frzd, frzE, thaw, callO, arsOf, arOf, iosOf, distinct, backOut, rvO, pick, bltV, cmpV, eqii, eqbb, eqstr, binV, negV, ixt, ixl, at0, at1, at2, at3, at4, at5, ix20, ix21, lk0, lk1, lk2, lk3, lk4, lk5, lk6, putv, slotOf, finF, rvOf, outsOf, runF, slOf, setAt, tyIs, isNon, seqV, Nat.blt, mulOk2]
    · simp only [hb]; rfl
    · simp [evSs, evS, evE, evA, evP, evO, evD, evI, asgT, asgTs, rdp, rds, rdsAll, frzd, frzE, thaw, callO, arsOf, arOf, iosOf, distinct, backOut, rvO, pick, bltV, cmpV, eqii, eqbb, eqstr, binV, negV, ixt, ixl, at0, at1, at2, at3, at4, at5, ix20, ix21, lk0, lk1, lk2, lk3, lk4, lk5, lk6, putv, slotOf, finF, rvOf, outsOf, runF, slOf, setAt, tyIs, isNon, seqV, Nat.blt, mulOk2]
    · simp only [hb]; rfl
  · rw [fmap_filter PyData.int _ (fun i => !decide (i = leg)) PyData.int _ (fun p _ => rfl)]
    simp [backE, wipeE, hr, wout]
theorem nd_e1 {F : List D} {ms : List Int} (hI : idxV S (.int 2) = some (.int n)) (n0 : 0 ≤ n) (n24 : n ≤ 24) (hr : valOnly (some r8) = r8) : evE FF C0 e__law_needs_1 [A0, .val S, .val T, .own 0 F, s4, s5, .val E, s7, r8, .val (.list (ms.map .int)), .emp, r11, .emp] = some (.fr (((iot n.toNat).filter fun i => !decide (i ∈ ms)).map .int), [A0, .val S, .val T, .own 0 F, s4, s5, .val E, s7, r8, .val (.list (ms.map .int)), .emp, r11, .emp]) := by
  refine (lcE (e1 := [A0, .val S, .val T, .own 0 F, s4, s5, .val E, s7, r8, .val (.list (ms.map .int)), .emp, r11, .emp]) (ds := (iot n.toNat).map .int) (fun d => match d with | .int i => if (!decide (i ∈ ms)) then some (.int i) else none | _ => none) ?_ (by rw [List.length_map, iot_len]; omega) ?_).trans ?_
  · exact rngE (e1 := [A0, .val S, .val T, .own 0 F, s4, s5, .val E, s7, r8, .val (.list (ms.map .int)), .emp, r11, .emp]) (e2 := [A0, .val S, .val T, .own 0 F, s4, s5, .val E, s7, r8, .val (.list (ms.map .int)), .emp, r11, .emp]) (a := .int 0) (b := .int n) (by simp [evSs, evS, evE, evA, evP, evO, evD, evI, asgT, asgTs, rdp, rds, rdsAll, frzd, frzE, thaw, callO, arsOf, arOf, iosOf, distinct, backOut, rvO, pick, bltV, cmpV, eqii, eqbb, eqstr, binV, negV, ixt, ixl, at0, at1, at2, at3, at4, at5, ix20, ix21, lk0, lk1, lk2, lk3, lk4, lk5, lk6, putv, slotOf, finF, rvOf, outsOf, runF, slOf, setAt, tyIs, isNon, seqV, Nat.blt, mulOk2]) (by simp [evSs, evS, evE, evA, evP, evO, evD, evI, asgT, asgTs, rdp, rds, rdsAll, frzd, frzE, thaw, callO, arsOf, arOf, iosOf, distinct, backOut, rvO, pick, bltV, cmpV, eqii, eqbb, eqstr, binV, negV, ixt, ixl, at0, at1, at2, at3, at4, at5, ix20, ix21, lk0, lk1, lk2, lk3, lk4, lk5, lk6, putv, slotOf, finF, rvOf, outsOf, runF, slOf, setAt, tyIs, isNon, seqV, Nat.blt, mulOk2, hI]) (rng_iot n0 (by omega))
  · intro d hd
    obtain ⟨i, hi, rfl⟩ := List.mem_map.mp hd
    have ml := mem_li i ms
    generalize hB : decide (i ∈ ms) = B at ml
    refine ⟨[A0, .val S, .val T, .own 0 F, s4, s5, .val E, s7, .val (.int i), .val (.list (ms.map .int)), .emp, r11, .emp], !B, [A0, .val S, .val T, .own 0 F, s4, s5, .val E, s7, .val (.int i), .val (.list (ms.map .int)), .emp, r11, .emp], ?_, ?_, fun hb => ⟨by simp [wipeE], by simp only [hB, hb]; rfl⟩, fun hb => ⟨.int i, [A0, .val S, .val T, .own 0 F, s4, s5, .val E, s7, .val (.int i), .val (.list (ms.map .int)), .emp, r11, .emp], ?_, by simp [wipeE], by simp only [hB, hb]; rfl⟩⟩
    · simp [evSs, evS, evE, evA, evP, evO, evD, evI, asgT, asgTs, rdp, rds, rdsAll, frzd, frzE, thaw, callO, arsOf, arOf, iosOf, distinct, backOut, rvO, pick, bltV, cmpV, eqii, eqbb, eqstr, binV, negV, ixt, ixl, at0, at1, at2, at3, at4, at5, ix20, ix21, lk0, lk1, lk2, lk3, lk4, lk5, lk6, putv, slotOf, finF, rvOf, outsOf, runF, slOf, setAt, tyIs, isNon, seqV, Nat.blt, mulOk2, wipeE]
    · simp [evSs, evS, evE, evA, evP, evO, evD, evI, asgT, asgTs, rdp, rds, rdsAll, frzd, frzE, thaw, callO, arsOf, arOf, iosOf, distinct, backOut, rvO, pick, bltV, cmpV, eqii, eqbb, eqstr, binV, negV, ixt, ixl, at0, at1, at2, at3, at4, at5, ix20, ix21, lk0, lk1, lk2, lk3, lk4, lk5, lk6, putv, slotOf, finF, rvOf, outsOf, runF, slOf, setAt, tyIs, isNon, seqV, Nat.blt, mulOk2, ml]
    · simp [evSs, evS, evE, evA, evP, evO, evD, evI, asgT, asgTs, rdp, rds, rdsAll, frzd, frzE, thaw, callO, arsOf, arOf, iosOf, distinct, backOut, rvO, pick, bltV, cmpV, eqii, eqbb, eqstr, binV, negV, ixt, ixl, at0, at1, at2, at3, at4, at5, ix20, ix21, lk0, lk1, lk2, lk3, lk4, lk5, lk6, putv, slotOf, finF, rvOf, outsOf, runF, slOf, setAt, tyIs, isNon, seqV, Nat.blt, mulOk2]
  · rw [fmap_filter PyData.int _ (fun i => !decide (i ∈ ms)) PyData.int _ (fun p _ => rfl)]
    simp [backE, wipeE, hr]
def HR (FF : FT) (n : Int) (es : List (Int × Int)) : Prop := ∀ {s : Int} {lot : List Int}, (∀ a ∈ lot, 0 ≤ a ∧ a < (es.length : Int)) → 0 ≤ s → s < n → ∃ ms : List Int, FF 3 [.pu (.list (es.map prD)), .pu (.int s), .pu (.list (lot.map .int))] = some (.fr (ms.map .int), []) ∧ (∀ t ∈ ms, 0 ≤ t ∧ t < n) ∧ ms.length ≤ n.toNat
theorem side_ix {F EE : List D} {leg x y : Int} (hat : L2.atI EE leg = some (.tuple [.int x, .int y])) : evE FF C0 (.idx (.idx (.var 6) (.var 5)) (.cst (.int 0))) [A0, .val S, .val T, .own 0 F, s4, .val (.int leg), .val (.list EE), s7, r8, s9, .emp, r11, .emp] = some (.pu (.int x), [A0, .val S, .val T, .own 0 F, s4, .val (.int leg), .val (.list EE), s7, r8, s9, .emp, r11, .emp]) := by
  simp [evSs, evS, evE, evA, evP, evO, evD, evI, asgT, asgTs, rdp, rds, rdsAll, frzd, frzE, thaw, callO, arsOf, arOf, iosOf, distinct, backOut, rvO, pick, bltV, cmpV, eqii, eqbb, eqstr, binV, negV, ixt, ixl, at0, at1, at2, at3, at4, at5, ix20, ix21, lk0, lk1, lk2, lk3, lk4, lk5, lk6, putv, slotOf, finF, rvOf, outsOf, runF, slOf, setAt, tyIs, isNon, seqV, Nat.blt, mulOk2, hat]
theorem side_ca {F EE WW MM : List D} {leg x y : Int} {X : IE} (hat : evE FF C0 X [A0, .val S, .val T, .own 0 F, s4, .val (.int leg), .val (.list EE), s7, r8, s9, .emp, r11, .emp] = some (.pu (.int x), [A0, .val S, .val T, .own 0 F, s4, .val (.int leg), .val (.list EE), s7, r8, s9, .emp, r11, .emp])) {Y : IE} (c2 : evE FF C0 Y [A0, .val S, .val T, .own 0 F, s4, .val (.int leg), .val (.list EE), s7, r8, s9, .emp, r11, .emp] = some (.fr WW, [A0, .val S, .val T, .own 0 F, s4, .val (.int leg), .val (.list EE), s7, r8, s9, .emp, r11, .emp])) :
  evA FF C0 (.cons (.var 6) (.cons X (.cons Y (.nil)))) [A0, .val S, .val T, .own 0 F, s4, .val (.int leg), .val (.list EE), s7, r8, s9, .emp, r11, .emp] = some ([.pu (.list EE), .pu (.int x), .pu (.list WW)], [A0, .val S, .val T, .own 0 F, s4, .val (.int leg), .val (.list EE), s7, r8, s9, .emp, r11, .emp]) := by
  simp [evSs, evS, evE, evA, evP, evO, evD, evI, asgT, asgTs, rdp, rds, rdsAll, frzd, frzE, thaw, callO, arsOf, arOf, iosOf, distinct, backOut, rvO, pick, bltV, cmpV, eqii, eqbb, eqstr, binV, negV, ixt, ixl, at0, at1, at2, at3, at4, at5, ix20, ix21, lk0, lk1, lk2, lk3, lk4, lk5, lk6, putv, slotOf, finF, rvOf, outsOf, runF, slOf, setAt, tyIs, isNon, seqV, Nat.blt, mulOk2, hat, c2]
theorem side_a {F EE WW MM : List D} {leg x y : Int} (hat : L2.atI EE leg = some (.tuple [.int x, .int y])) (c2 : evE FF C0 e__law_needs_2 [A0, .val S, .val T, .own 0 F, s4, .val (.int leg), .val (.list EE), s7, r8, s9, .emp, r11, .emp] = some (.fr WW, [A0, .val S, .val T, .own 0 F, s4, .val (.int leg), .val (.list EE), s7, r8, s9, .emp, r11, .emp]))
    (m1 : FF 3 [.pu (.list EE), .pu (.int x), .pu (.list WW)] = some (.fr MM, [])) : evS FF C0 (.asg (.nm 9) (.call 3 (.cons (.var 6) (.cons (.idx (.idx (.var 6) (.var 5)) (.cst (.int 0))) (.cons (e__law_needs_2) (.nil)))))) [A0, .val S, .val T, .own 0 F, s4, .val (.int leg), .val (.list EE), s7, r8, s9, .emp, r11, .emp] = some (.nx [A0, .val S, .val T, .own 0 F, s4, .val (.int leg), .val (.list EE), s7, r8, .val (.list MM), .emp, r11, .emp]) := by
  rw [evS, evE, side_ca (MM := MM) (y := y) (side_ix hat) c2]
  simp [callO, arsOf, arOf, iosOf, distinct, m1, backOut, rvO, frzd, asgT, putv, Nat.blt]
theorem side_b {F EE OO MM : List D} {leg : Int} (bl : F.length ≤ 16777215) (c1 : evE FF C0 e__law_needs_1 [A0, .val S, .val T, .own 0 F, s4, .val (.int leg), .val (.list EE), s7, r8, .val (.list MM), .emp, r11, .emp] = some (.fr OO, [A0, .val S, .val T, .own 0 F, s4, .val (.int leg), .val (.list EE), s7, r8, .val (.list MM), .emp, r11, .emp])) :
    evS FF C0 (.ex (.mth .append 3 (.cons (.lst (.cons (.var 9) (.cons (e__law_needs_1) (.nil)))) (.nil)))) [A0, .val S, .val T, .own 0 F, s4, .val (.int leg), .val (.list EE), s7, r8, .val (.list MM), .emp, r11, .emp] = some (.nx [A0, .val S, .val T, .own 0 (F ++ [.list [.list MM, .list OO]]), s4, .val (.int leg), .val (.list EE), s7, r8, .val (.list MM), .emp, r11, .emp]) := by
  simp [evSs, evS, evE, evA, evP, evO, evD, evI, asgT, asgTs, rdp, rds, rdsAll, frzd, frzE, thaw, callO, arsOf, arOf, iosOf, distinct, backOut, rvO, pick, bltV, cmpV, eqii, eqbb, eqstr, binV, negV, ixt, ixl, at0, at1, at2, at3, at4, at5, ix20, ix21, lk0, lk1, lk2, lk3, lk4, lk5, lk6, putv, slotOf, finF, rvOf, outsOf, runF, slOf, setAt, tyIs, isNon, seqV, Nat.blt, mulOk2, c1, mthV, bl]
theorem nd_side (hR : HR FF n es) (he : okE n es) (hez : es.length ≤ 1000) (hI : idxV S (.int 2) = some (.int n)) (n0 : 0 ≤ n) (n24 : n ≤ 24) (h8 : valOnly (some r8) = r8) (h11 : valOnly (some r11) = r11) {F : List D} (hF : F.length ≤ 2000) {leg : Int} (l0 : 0 ≤ leg) (l1 : leg < es.length) :
    ∃ w r9, evSs FF C0 l__law_needs_3 [A0, .val S, .val T, .own 0 F, s4, .val (.int leg), .val (.list (es.map prD)), s7, r8, s9, .emp, r11, .emp] = some (.nx [A0, .val S, .val T, .own 0 (F ++ [w]), s4, .val (.int leg), .val (.list (es.map prD)), s7, r8, r9, .emp, r11, .emp]) ∧ PV2 w := by
  obtain ⟨e, hel, hat⟩ := at_map prD l0 l1
  obtain ⟨g1, g2, g3, g4⟩ := he e (List.mem_of_getElem? hel)
  obtain ⟨ms, m1, m2, m3⟩ := hR (s := e.1) (lot := wout (iot es.length) leg) (fun a ha => by
    have := mem_iot.mp (mem_wout.mp ha).1; omega) g1 g2
  have c2 := nd_e2 (FF := FF) (A0 := A0) (S := S) (T := T) (F := F) (EE := es.map prD) (leg := leg) (s4 := s4) (s7 := s7) (r8 := r8) (s9 := s9) (m := es.length) (List.length_map _) hez h11
  have c1 := nd_e1 (FF := FF) (A0 := A0) (S := S) (T := T) (F := F) (E := .list (es.map prD)) (s4 := s4) (s5 := .val (.int leg)) (s7 := s7) (r11 := r11) (ms := ms) hI n0 n24 h8
  have bl : F.length ≤ 16777215 := by omega
  refine ⟨.list [.list (ms.map .int), .list (((iot n.toNat).filter fun i => !decide (i ∈ ms)).map .int)], .val (.list (ms.map .int)), ?_, pv_l (fun x hx => ?_) (by simp)⟩
  · unfold prD at hat
    have hat' : L2.atI (es.map prD) leg = some (.tuple [.int e.1, .int e.2]) := hat
    clear hat
    generalize ((iot n.toNat).filter fun i => !decide (i ∈ ms)).map PyData.int = OO at c1 ⊢
    generalize (wout (iot es.length) leg).map PyData.int = WW at c2 m1
    generalize ms.map PyData.int = MM at c1 m1 ⊢
    generalize es.map prD = EE at c1 c2 m1 hat' ⊢
    unfold l__law_needs_3
    rw [evSs, side_a hat' c2 m1]
    dsimp only
    rw [evSs, side_b bl c1]
    rfl
  · simp only [List.mem_cons, List.not_mem_nil, or_false] at hx
    rcases hx with rfl | rfl
    · exact lk_l (fun i hi => by have := m2 i hi; omega) (by omega)
    · refine lk_l (fun i hi => ?_) ?_
      · have := mem_iot.mp (List.mem_filter.mp hi).1; omega
      · have := List.length_filter_le (fun i => !decide (i ∈ ms)) (iot n.toNat)
        rw [iot_len] at this; omega
theorem nd_sides {bs : List Int} (br : FF 4 [.pu (.list (es.map prD))] = some (.fr (bs.map .int), [])) (hbs : ∀ b ∈ bs, 0 ≤ b ∧ b < (es.length : Int)) (hbl : bs.length ≤ 1000) (hR : HR FF n es) (he : okE n es) (hez : es.length ≤ 1000) (hI : idxV S (.int 2) = some (.int n)) (n0 : 0 ≤ n) (n24 : n ≤ 24) (h8 : valOnly (some r8) = r8) (h11 : valOnly (some r11) = r11) {F : List D} (hF : ∀ v ∈ F, PV2 v) (hFl : F.length ≤ 100) (hA : ∃ ps, A0 = .own 1 ps) :
    ∃ F' s5 s9, evS FF C0 s__law_needs_4 [A0, .val S, .val T, .own 0 F, s4, .emp, .val (.list (es.map prD)), s7, r8, .emp, .emp, r11, .emp] = some (.nx [A0, .val S, .val T, .own 0 F', s4, s5, .val (.list (es.map prD)), s7, r8, s9, .emp, r11, .emp]) ∧ ∀ v ∈ F', PV2 v := by
  obtain ⟨pp, rfl⟩ := hA
  obtain ⟨fl, h1, F', s5, s9, rfl, h2⟩ := foE (F := FF) (C := C0) (t := .nm 5) (it := .it (.call 4 (.cons (.var 6) (.nil)))) (b := l__law_needs_3) (env := [.own 1 pp, .val S, .val T, .own 0 F, s4, .emp, .val (.list (es.map prD)), s7, r8, .emp, .emp, r11, .emp])
    (e1 := [.own 1 pp, .val S, .val T, .own 0 F, s4, .emp, .val (.list (es.map prD)), s7, r8, .emp, .emp, r11, .emp]) (ds := bs.map .int)
    (fun ds e => ∃ F' s5 s9, e = [.own 1 pp, .val S, .val T, .own 0 F', s4, s5, .val (.list (es.map prD)), s7, r8, s9, .emp, r11, .emp] ∧ (∀ v ∈ F', PV2 v) ∧ F'.length + ds.length ≤ 1100 ∧ ∀ d ∈ ds, ∃ i, d = .int i ∧ 0 ≤ i ∧ i < (es.length : Int))
    (fun fl => ∃ F' s5 s9, fl = .nx [.own 1 pp, .val S, .val T, .own 0 F', s4, s5, .val (.list (es.map prD)), s7, r8, s9, .emp, r11, .emp] ∧ ∀ v ∈ F', PV2 v) rfl
    (by
      generalize es.map prD = EE at br ⊢
      generalize bs.map PyData.int = BB at br ⊢
      simp [evSs, evS, evE, evA, evP, evO, evD, evI, asgT, asgTs, rdp, rds, rdsAll, frzd, frzE, thaw, callO, arsOf, arOf, iosOf, distinct, backOut, rvO, pick, bltV, cmpV, eqii, eqbb, eqstr, binV, negV, ixt, ixl, at0, at1, at2, at3, at4, at5, ix20, ix21, lk0, lk1, lk2, lk3, lk4, lk5, lk6, putv, slotOf, finF, rvOf, outsOf, runF, slOf, setAt, tyIs, isNon, seqV, Nat.blt, mulOk2, br])
    ⟨F, .emp, .emp, rfl, hF, by simp; omega, fun d hd => by obtain ⟨i, hi, rfl⟩ := List.mem_map.mp hd; exact ⟨i, rfl, hbs i hi⟩⟩
    (fun e ⟨F', s5, s9, q1, q2, _⟩ => ⟨F', s5, s9, by rw [q1], q2⟩)
    (by
      rintro d ds e ⟨F', s5, s9, rfl, q2, q3, q4⟩
      obtain ⟨i, rfl, i0, i1⟩ := q4 d List.mem_cons_self
      have q4' := fun d hd => q4 d (List.mem_cons_of_mem _ hd)
      obtain ⟨w, r9, c, hw⟩ := nd_side (A0 := .own 1 pp) (T := T) (s4 := s4) (s7 := s7) (s9 := s9) hR he hez hI n0 n24 h8 h11 (F := F') (by simp at q3; omega) i0 i1
      refine ⟨[.own 1 pp, .val S, .val T, .own 0 F', s4, .val (.int i), .val (.list (es.map prD)), s7, r8, s9, .emp, r11, .emp], _, by simp [evSs, evS, evE, evA, evP, evO, evD, evI, asgT, asgTs, rdp, rds, rdsAll, frzd, frzE, thaw, callO, arsOf, arOf, iosOf, distinct, backOut, rvO, pick, bltV, cmpV, eqii, eqbb, eqstr, binV, negV, ixt, ixl, at0, at1, at2, at3, at4, at5, ix20, ix21, lk0, lk1, lk2, lk3, lk4, lk5, lk6, putv, slotOf, finF, rvOf, outsOf, runF, slOf, setAt, tyIs, isNon, seqV, Nat.blt, mulOk2], c, _, _, _, rfl, fun v hv => ?_, by simp at q3 ⊢; omega, q4'⟩
      rcases List.mem_append.mp hv with hv | hv
      · exact q2 v hv
      · simp at hv; subst hv; exact hw)
  exact ⟨F', s5, s9, h1, h2⟩
end
end K94

set_option Elab.async false
set_option linter.all false
set_option maxRecDepth 100000
set_option maxHeartbeats 4000000
namespace K94
open PySem Rf
def vs1 : List D := [.none, .list [], .tuple [], .dict [], .int 0, .str "n", .list [.list [.int 0]], .list [.list []], .list [.list [.int 0], .list [.int 0]], .list [.int 0], .list [.none], .list [.list [.bool true]]]
theorem vs1_pv : ∀ v ∈ vs1, PV2 v := by
  intro v hv
  simp only [vs1, List.mem_cons, List.not_mem_nil, or_false] at hv
  rcases hv with rfl | rfl | rfl | rfl | rfl | rfl | rfl | rfl | rfl | rfl | rfl | rfl <;>
    exact ⟨by decide +kernel, fun xs e => by first | (cases e; done) | (cases e; exact ⟨by simp, by simp [sm1, seqV]⟩)⟩
section
variable {FF : FT} {n : Int} {S : D} {es : List (Int × Int)} {ks : List (List Int)}
theorem nr1 {EE : List D} {P : Sl} (eo : FF 2 [.pu S] = some (.fr EE, [])) : evS FF C0 (.par2 6 3 false true (.call 2 (.cons (.var 1) (.nil))) (.lst (.cons (.cst .none) (.cons (.lst (.nil)) (.cons (.tup (.nil)) (.cons (.dnw) (.cons (.cst (.int 0)) (.cons (.cst (.str "n")) (.cons (.lst (.cons (.lst (.cons (.cst (.int 0)) (.nil))) (.nil))) (.cons (.lst (.cons (.lst (.nil)) (.nil))) (.cons (.lst (.cons (.lst (.cons (.cst (.int 0)) (.nil))) (.cons (.lst (.cons (.cst (.int 0)) (.nil))) (.nil)))) (.cons (.lst (.cons (.cst (.int 0)) (.nil))) (.cons (.lst (.cons (.cst .none) (.nil))) (.cons (.lst (.cons (.lst (.cons (.cst (.bool true)) (.nil))) (.nil))) (.nil))))))))))))))) [P, .val S, .emp, .emp, .emp, .emp, .emp, .emp, .emp, .emp, .emp, .emp, .emp] = some (.nx [P, .val S, .emp, .own 0 vs1, .emp, .emp, .val (.list EE), .emp, .emp, .emp, .emp, .emp, .emp]) := by
  have l12 : lenOk 12 = true := rfl
  unfold vs1
  simp [evSs, evS, evE, evA, evP, evO, evD, evI, asgT, asgTs, rdp, rds, rdsAll, frzd, frzE, thaw, callO, arsOf, arOf, iosOf, distinct, backOut, rvO, pick, bltV, cmpV, eqii, eqbb, eqstr, binV, negV, ixt, ixl, at0, at1, at2, at3, at4, at5, ix20, ix21, lk0, lk1, lk2, lk3, lk4, lk5, lk6, putv, slotOf, finF, rvOf, outsOf, runF, slOf, setAt, tyIs, isNon, seqV, Nat.blt, mulOk2, eo, l12]
theorem nr3 {E : D} {P : Sl} {T TT RR : List D} (c11 : evE FF C0 e__law_needs_11 [P, .val S, .val (.list T), .own 0 vs1, .emp, .emp, .val E, .emp, .emp, .emp, .emp, .emp, .emp] = some (.fr TT, [P, .val S, .val (.list T), .own 0 vs1, .emp, .emp, .val E, .emp, .emp, .emp, .emp, .emp, .emp]))
    (c10 : evE FF C0 e__law_needs_10 [P, .val S, .val (.list T), .own 0 vs1, .emp, .emp, .val E, .emp, .emp, .emp, .emp, .emp, .emp] = some (.fr RR, [P, .val S, .val (.list T), .own 0 vs1, .emp, .emp, .val E, .emp, .emp, .emp, .emp, .emp, .emp])) (z : lenOk (T.length + (cutL T none (some 1)).length) = true) :
    evS FF C0 (.own 3 (.bin .add (.var 3) (.lst (.cons (.var 2) (.cons (.blt .tuple1 (.cons (e__law_needs_11) (.nil))) (.cons (.rev (.var 2)) (.cons (.slc (.var 2) (.non) (.som (.neg (.cst (.int 1))))) (.cons (.bin .add (.var 2) (.slc (.var 2) (.non) (.som (.cst (.int 1))))) (.cons (e__law_needs_10) (.nil)))))))))) [P, .val S, .val (.list T), .own 0 vs1, .emp, .emp, .val E, .emp, .emp, .emp, .emp, .emp, .emp] = some (.nx [P, .val S, .val (.list T), .own 0 (vs1 ++ [.list T, .tuple TT, .list T.reverse, .list (cutL T none (some (-1))), .list (T ++ cutL T none (some 1)), .list RR]), .emp, .emp, .val E, .emp, .emp, .emp, .emp, .emp, .emp]) := by
  have l6 : lenOk (vs1.length + 6) = true := rfl
  generalize vs1 = V at c11 c10 l6 ⊢
  simp [evSs, evS, evE, evA, evP, evO, evD, evI, asgT, asgTs, rdp, rds, rdsAll, frzd, frzE, thaw, callO, arsOf, arOf, iosOf, distinct, backOut, rvO, pick, bltV, cmpV, eqii, eqbb, eqstr, binV, negV, ixt, ixl, at0, at1, at2, at3, at4, at5, ix20, ix21, lk0, lk1, lk2, lk3, lk4, lk5, lk6, putv, slotOf, finF, rvOf, outsOf, runF, slOf, setAt, tyIs, isNon, seqV, Nat.blt, mulOk2, c11, c10, z, l6, slcV, revV]
theorem needs_run {E : D} {EE T F3 : List D} {F2 : List D} {p0 p1 q0 q1 : Int} {s4 s5 s7 r8 s9 r11 : Sl} (r1 : evS FF C0 (.par2 6 3 false true (.call 2 (.cons (.var 1) (.nil))) (.lst (.cons (.cst .none) (.cons (.lst (.nil)) (.cons (.tup (.nil)) (.cons (.dnw) (.cons (.cst (.int 0)) (.cons (.cst (.str "n")) (.cons (.lst (.cons (.lst (.cons (.cst (.int 0)) (.nil))) (.nil))) (.cons (.lst (.cons (.lst (.nil)) (.nil))) (.cons (.lst (.cons (.lst (.cons (.cst (.int 0)) (.nil))) (.cons (.lst (.cons (.cst (.int 0)) (.nil))) (.nil)))) (.cons (.lst (.cons (.cst (.int 0)) (.nil))) (.cons (.lst (.cons (.cst .none) (.nil))) (.cons (.lst (.cons (.lst (.cons (.cst (.bool true)) (.nil))) (.nil))) (.nil))))))))))))))) [.own 1 [.int p0, .int p1], .val S, .emp, .emp, .emp, .emp, .emp, .emp, .emp, .emp, .emp, .emp, .emp] = some (.nx [.own 1 [.int p0, .int p1], .val S, .emp, .own 0 vs1, .emp, .emp, .val E, .emp, .emp, .emp, .emp, .emp, .emp]))
    (c12 : evE FF C0 e__law_needs_12 [.own 1 [.int p0, .int p1], .val S, .emp, .own 0 vs1, .emp, .emp, .val E, .emp, .emp, .emp, .emp, .emp, .emp] = some (.fr T, [.own 1 [.int p0, .int p1], .val S, .emp, .own 0 vs1, .emp, .emp, .val E, .emp, .emp, .emp, .emp, .emp, .emp]))
    (r3 : evS FF C0 (.own 3 (.bin .add (.var 3) (.lst (.cons (.var 2) (.cons (.blt .tuple1 (.cons (e__law_needs_11) (.nil))) (.cons (.rev (.var 2)) (.cons (.slc (.var 2) (.non) (.som (.neg (.cst (.int 1))))) (.cons (.bin .add (.var 2) (.slc (.var 2) (.non) (.som (.cst (.int 1))))) (.cons (e__law_needs_10) (.nil)))))))))) [.own 1 [.int p0, .int p1], .val S, .val (.list T), .own 0 vs1, .emp, .emp, .val E, .emp, .emp, .emp, .emp, .emp, .emp] = some (.nx [.own 1 [.int p0, .int p1], .val S, .val (.list T), .own 0 F2, .emp, .emp, .val E, .emp, .emp, .emp, .emp, .emp, .emp]))
    (o9 : evS FF C0 s__law_needs_9 [.own 1 [.int p0, .int p1], .val S, .val (.list T), .own 0 F2, .emp, .emp, .val E, .emp, .emp, .emp, .emp, .emp, .emp] = some (.nx [.own 1 [.int q0, .int q1], .val S, .val (.list T), .own 0 F3, s4, .emp, .val E, s7, r8, .emp, .emp, r11, .emp]))
    {F4 : List D} (o4 : evS FF C0 s__law_needs_4 [.own 1 [.int q0, .int q1], .val S, .val (.list T), .own 0 F3, s4, .emp, .val E, s7, r8, .emp, .emp, r11, .emp] = some (.nx [.own 1 [.int q0, .int q1], .val S, .val (.list T), .own 0 F4, s4, s5, .val E, s7, r8, s9, .emp, r11, .emp])) :
    runF FF C0 ⟨2, 13, b__law_needs⟩ [.io [.int p0, .int p1], .pu S] = some (.fr F4, [[.int q0, .int q1]]) := by
  have a2 : evS FF C0 (.asg (.nm 2) (e__law_needs_12)) [.own 1 [.int p0, .int p1], .val S, .emp, .own 0 vs1, .emp, .emp, .val E, .emp, .emp, .emp, .emp, .emp, .emp] = some (.nx [.own 1 [.int p0, .int p1], .val S, .val (.list T), .own 0 vs1, .emp, .emp, .val E, .emp, .emp, .emp, .emp, .emp, .emp]) := by
    rw [evS, c12]; simp [frzd, asgT, putv, Nat.blt]
  refine runX rfl rfl ⟨.rt (.bo 3) [.own 1 [.int q0, .int q1], .val S, .val (.list T), .own 0 F4, s4, s5, .val E, s7, r8, s9, .emp, r11, .emp], ?_, by simp [evSs, evS, evE, evA, evP, evO, evD, evI, asgT, asgTs, rdp, rds, rdsAll, frzd, frzE, thaw, callO, arsOf, arOf, iosOf, distinct, backOut, rvO, pick, bltV, cmpV, eqii, eqbb, eqstr, binV, negV, ixt, ixl, at0, at1, at2, at3, at4, at5, ix20, ix21, lk0, lk1, lk2, lk3, lk4, lk5, lk6, putv, slotOf, finF, rvOf, outsOf, runF, slOf, setAt, tyIs, isNon, seqV, Nat.blt, mulOk2]⟩
  unfold b__law_needs
  show evSs FF C0 (.cons _ _) [.own 1 [.int p0, .int p1], .val S, .emp, .emp, .emp, .emp, .emp, .emp, .emp, .emp, .emp, .emp, .emp] = _
  rw [evSs, r1]
  dsimp only
  rw [evSs, a2]
  dsimp only
  rw [evSs, r3]
  dsimp only
  rw [evSs, o9]
  dsimp only
  rw [evSs, o4]
  dsimp only
  rw [evSs, evS, evE]
  rfl
theorem needs_ok {k : Nat} {p0 p1 : Int} {t : Str} {ls : List Lg} (hp : Pot p0 p1) (h : okS n ls) : ∃ ws q0 q1, G (k + 4) i__law_needs [.io [.int p0, .int p1], .pu (sv t n ls)] = some (.fr ws, [[.int q0, .int q1]]) ∧ Pot q0 q1 ∧ ∀ v ∈ ws, PV2 v := by
  have n1 := h.n1
  have n2 := h.n2
  have hln := h.ln
  obtain ⟨ks, k1, k2, k3⟩ := knots_ok (k := k) (t := t) h
  have hd : HD (G (k + 3)) := fun a b c => draw_ok (k := k + 2) a b c
  have hR : HR (G (k + 3)) n (ls.map en) := fun {s lot} a b c => by
    obtain ⟨ms, m1, _, m2, m3⟩ := reached_ok (k := k + 2) h.es (by omega) a b c
    exact ⟨ms, m1, m2, m3⟩
  have eo := ends_of_ok (k := k + 2) (t := t) (n := n) (ls := ls) (by omega)
  have hlv : ∀ is, G (k + 3) 9 [.pu (.list ((ls.map en).map prD)), .pu (liD is)] = some (.fr ((lv (ls.map en) is).map .int), []) := fun is => law_leaving_ok (k := k + 2) (.inl rfl) (by simp; omega)
  obtain ⟨bs, b1, b2, b3⟩ := law_bridges_ok (k := k + 1) h.es (by omega) (by simp; omega)
  have r1 := nr1 (P := .own 1 [.int p0, .int p1]) eo
  have c12 := nd_tops (xs := vs1) (p0 := p0) (p1 := p1) k1 hlv k3
  have hk' : ∀ is ∈ ks.filter (fun is => decide ((lv (ls.map en) is).length = 1)), okK n is := fun is hi => k2 is (List.mem_filter.mp hi).1
  have hkl' : (ks.filter (fun is => decide ((lv (ls.map en) is).length = 1))).length ≤ 24 := Nat.le_trans (List.length_filter_le _ _) k3
  generalize ks.filter (fun is => decide ((lv (ls.map en) is).length = 1)) = tp at c12 hk' hkl'
  have c11 := nd_tup (FF := G (k + 3)) (S := sv t n ls) (A0 := .own 1 [.int p0, .int p1]) (A3 := .own 0 vs1) (A6 := .val (.list ((ls.map en).map prD))) hkl'
  have c10 := nd_rev (FF := G (k + 3)) (S := sv t n ls) (A0 := .own 1 [.int p0, .int p1]) (A3 := .own 0 vs1) (A6 := .val (.list ((ls.map en).map prD))) hkl'
  have hT : ∀ x ∈ tp.map liD, lotK x := fun x hx => by
    obtain ⟨is, hi, rfl⟩ := List.mem_map.mp hx
    exact okK_lk (hk' is hi) n2
  have hTl : (tp.map liD).length ≤ 24 := by simpa using hkl'
  have r3 := nr3 c11 c10 (lenOk_of (by have := cut_len (xs := tp.map liD) (lo := none) (hi := some 1); omega))
  have hF2 : ∀ v ∈ vs1 ++ [.list (tp.map liD), .tuple (tp.map fun is => .tuple (is.map .int)), .list (tp.map liD).reverse, .list (cutL (tp.map liD) none (some (-1))), .list (tp.map liD ++ cutL (tp.map liD) none (some 1)), .list (tp.map fun is => .list (is.reverse.map .int))], PV2 v := fun v hv => by
    rcases List.mem_append.mp hv with hv | hv
    · exact vs1_pv v hv
    · simp only [List.mem_cons, List.not_mem_nil, or_false] at hv
      rcases hv with rfl | rfl | rfl | rfl | rfl | rfl
      · exact pv_l hT (by omega)
      · refine pv_t (fun x hx => ?_) (by simp; omega)
        obtain ⟨is, hi, rfl⟩ := List.mem_map.mp hx
        have := hk' is hi
        exact lk_t (fun i hi => by have := this.2.1 i hi; omega) (by have := this.2.2; omega)
      · exact pv_l (fun x hx => hT x (List.mem_reverse.mp hx)) (by rw [List.length_reverse]; omega)
      · exact pv_l (fun x hx => hT x (cut_mem hx)) (Nat.le_trans cut_len (by omega))
      · refine pv_l (fun x hx => ?_) (by have := cut_len (xs := tp.map liD) (lo := none) (hi := some 1); rw [List.length_append]; omega)
        rcases List.mem_append.mp hx with hx | hx
        · exact hT x hx
        · exact hT x (cut_mem hx)
      · refine pv_l (fun x hx => ?_) (by simp; omega)
        obtain ⟨is, hi, rfl⟩ := List.mem_map.mp hx
        have := hk' is hi
        exact lk_l (fun i hi => by have := this.2.1 i (List.mem_reverse.mp hi); omega) (by have := this.2.2; rw [List.length_reverse]; omega)
  obtain ⟨F3, q0, q1, s4, s7, r8, r11, o9, g, hF3, hF3l, h8, h11⟩ := nd_turns (S := sv t n ls) (T := .list (tp.map liD)) (E := .list ((ls.map en).map prD)) hd sv2 (by omega) n2 hp hF2 (by simp [vs1])
  obtain ⟨F4, s5, s9, o4, hF4⟩ := nd_sides (S := sv t n ls) (T := .list (tp.map liD)) (A0 := .own 1 [.int q0, .int q1]) (s4 := s4) (s7 := s7) b1 (fun b hb => by have := mem_iot.mp ((b2 b).mp hb).1; omega) (by simp at b3; omega) hR h.es (by simp; omega) sv2 (by omega) n2 h8 h11 hF3 (by omega) ⟨_, rfl⟩
  refine ⟨F4, q0, q1, ?_, g, hF4⟩
  rw [one (fn := ⟨2, 13, b__law_needs⟩) rfl]
  exact needs_run (EE := []) r1 c12 r3 o9 o4
end
end K94

set_option Elab.async false
set_option linter.all false
set_option maxRecDepth 100000
set_option maxHeartbeats 4000000
namespace K94
open PySem Rf
theorem rb2 (b : Bool) : reprOk (.list [.bool b, .bool b]) = true := by cases b <;> decide +kernel
section
variable {FF : FT} {n : Int} {S v : D} {b : Bool} {s2 s3 s4 s5 s6 : Sl} {pp : List D}
theorem rp_body (c11 : FF 11 [.pu S, .pu v] = some (.pu (.bool b), [])) (c39 : FF 39 [.pu S, .pu v] = some (.pu (.bool b), [])) (hr : reprOk v = true) :
    evSs FF C0 l__law_right_5 [.own 1 pp, .val S, .val v, s3, s4, s5, s6] = some (.nx [.own 1 pp, .val S, .val v, s3, .val (.bool b), .val (.str v.shown), s6]) := by
  have rb := rb2 b
  simp [evSs, evS, evE, evA, evP, evO, evD, evI, asgT, asgTs, rdp, rds, rdsAll, frzd, frzE, thaw, callO, arsOf, arOf, iosOf, distinct, backOut, rvO, pick, bltV, cmpV, eqii, eqbb, eqstr, binV, negV, ixt, ixl, at0, at1, at2, at3, at4, at5, ix20, ix21, lk0, lk1, lk2, lk3, lk4, lk5, lk6, putv, slotOf, finF, rvOf, outsOf, runF, slOf, setAt, tyIs, isNon, seqV, Nat.blt, mulOk2, l__law_right_5, c11, c39, hr, rb]
theorem rn_body {m : Int} (c13 : FF 13 [.pu S, .pu (.int m), .pu v] = some (.pu (.bool b), [])) (c27 : FF 27 [.pu S, .pu (.int m), .pu v] = some (.pu (.bool b), [])) (hr : reprOk v = true) :
    ∃ r4 r5 r6, evSs FF C0 l__law_right_1 [.own 1 pp, .val S, .val v, .val (.int m), s4, s5, s6] = some (.nx [.own 1 pp, .val S, .val v, .val (.int m), r4, r5, r6]) := by
  have rb := rb2 b
  refine ⟨.val (.bool b), .val (.str v.shown), .val (.list [.bool b, .bool b]), ?_⟩
  simp [evSs, evS, evE, evA, evP, evO, evD, evI, asgT, asgTs, rdp, rds, rdsAll, frzd, frzE, thaw, callO, arsOf, arOf, iosOf, distinct, backOut, rvO, pick, bltV, cmpV, eqii, eqbb, eqstr, binV, negV, ixt, ixl, at0, at1, at2, at3, at4, at5, ix20, ix21, lk0, lk1, lk2, lk3, lk4, lk5, lk6, putv, slotOf, finF, rvOf, outsOf, runF, slOf, setAt, tyIs, isNon, seqV, Nat.blt, mulOk2, l__law_right_1, c13, c27, hr, rb]
theorem rp_loop {ws : List D} {p0 p1 q0 q1 : Int} (cp : FF 8 [.io [.int p0, .int p1], .pu S] = some (.fr ws, [[.int q0, .int q1]])) (hw : ∀ v ∈ ws, reprOk v = true) (hj : ∀ v ∈ ws, ∃ b, FF 11 [.pu S, .pu v] = some (.pu (.bool b), []) ∧ FF 39 [.pu S, .pu v] = some (.pu (.bool b), [])) :
    ∃ s2 s4 s5, evS FF C0 s__law_right_6 [.own 1 [.int p0, .int p1], .val S, .emp, .emp, .emp, .emp, .emp] = some (.nx [.own 1 [.int q0, .int q1], .val S, s2, .emp, s4, s5, .emp]) := by
  obtain ⟨fl, h1, s2, s4, s5, rfl⟩ := foE (F := FF) (C := C0) (t := .nm 2) (it := .it (.call 8 (.cons (.var 0) (.cons (.var 1) (.nil))))) (b := l__law_right_5) (env := [.own 1 [.int p0, .int p1], .val S, .emp, .emp, .emp, .emp, .emp]) (e1 := [.own 1 [.int q0, .int q1], .val S, .emp, .emp, .emp, .emp, .emp]) (ds := ws)
    (fun ds e => ∃ s2 s4 s5, e = [.own 1 [.int q0, .int q1], .val S, s2, .emp, s4, s5, .emp] ∧ ∀ v ∈ ds, v ∈ ws)
    (fun fl => ∃ s2 s4 s5, fl = .nx [.own 1 [.int q0, .int q1], .val S, s2, .emp, s4, s5, .emp]) rfl
    (by simp [evSs, evS, evE, evA, evP, evO, evD, evI, asgT, asgTs, rdp, rds, rdsAll, frzd, frzE, thaw, callO, arsOf, arOf, iosOf, distinct, backOut, rvO, pick, bltV, cmpV, eqii, eqbb, eqstr, binV, negV, ixt, ixl, at0, at1, at2, at3, at4, at5, ix20, ix21, lk0, lk1, lk2, lk3, lk4, lk5, lk6, putv, slotOf, finF, rvOf, outsOf, runF, slOf, setAt, tyIs, isNon, seqV, Nat.blt, mulOk2, cp]) ⟨_, _, _, rfl, fun _ h => h⟩ (fun e ⟨s2, s4, s5, q, _⟩ => ⟨s2, s4, s5, by rw [q]⟩)
    (by
      rintro d ds e ⟨s2, s4, s5, rfl, hd⟩
      have hm := hd d List.mem_cons_self
      obtain ⟨b, c11, c39⟩ := hj d hm
      exact ⟨[.own 1 [.int q0, .int q1], .val S, .val d, .emp, s4, s5, .emp], _, by simp [evSs, evS, evE, evA, evP, evO, evD, evI, asgT, asgTs, rdp, rds, rdsAll, frzd, frzE, thaw, callO, arsOf, arOf, iosOf, distinct, backOut, rvO, pick, bltV, cmpV, eqii, eqbb, eqstr, binV, negV, ixt, ixl, at0, at1, at2, at3, at4, at5, ix20, ix21, lk0, lk1, lk2, lk3, lk4, lk5, lk6, putv, slotOf, finF, rvOf, outsOf, runF, slOf, setAt, tyIs, isNon, seqV, Nat.blt, mulOk2], rp_body c11 c39 (hw d hm), _, _, _, rfl, fun v h => hd v (List.mem_cons_of_mem _ h)⟩)
  exact ⟨s2, s4, s5, h1⟩
theorem rn_in (hr : reprOk v = true) (hj : ∀ m : Int, 0 ≤ m → m < 3 → ∃ b, FF 13 [.pu S, .pu (.int m), .pu v] = some (.pu (.bool b), []) ∧ FF 27 [.pu S, .pu (.int m), .pu v] = some (.pu (.bool b), [])) :
    ∃ r3 r4 r5 r6, evS FF C0 s__law_right_2 [.own 1 pp, .val S, .val v, s3, s4, s5, s6] = some (.nx [.own 1 pp, .val S, .val v, r3, r4, r5, r6]) := by
  obtain ⟨fl, h1, r3, r4, r5, r6, rfl⟩ := foE (F := FF) (C := C0) (t := .nm 3) (it := .rng (.cst (.int 0)) (.cst (.int 3))) (b := l__law_right_1) (env := [.own 1 pp, .val S, .val v, s3, s4, s5, s6]) (e1 := [.own 1 pp, .val S, .val v, s3, s4, s5, s6]) (ds := (iot (3 : Int).toNat).map .int)
    (fun ds e => ∃ r3 r4 r5 r6, e = [.own 1 pp, .val S, .val v, r3, r4, r5, r6] ∧ ∀ d ∈ ds, ∃ i, d = .int i ∧ 0 ≤ i ∧ i < 3)
    (fun fl => ∃ r3 r4 r5 r6, fl = .nx [.own 1 pp, .val S, .val v, r3, r4, r5, r6]) rfl
    (rngE (e1 := [.own 1 pp, .val S, .val v, s3, s4, s5, s6]) (e2 := [.own 1 pp, .val S, .val v, s3, s4, s5, s6]) (a := .int 0) (b := .int 3) (by simp [evSs, evS, evE, evA, evP, evO, evD, evI, asgT, asgTs, rdp, rds, rdsAll, frzd, frzE, thaw, callO, arsOf, arOf, iosOf, distinct, backOut, rvO, pick, bltV, cmpV, eqii, eqbb, eqstr, binV, negV, ixt, ixl, at0, at1, at2, at3, at4, at5, ix20, ix21, lk0, lk1, lk2, lk3, lk4, lk5, lk6, putv, slotOf, finF, rvOf, outsOf, runF, slOf, setAt, tyIs, isNon, seqV, Nat.blt, mulOk2]) (by simp [evSs, evS, evE, evA, evP, evO, evD, evI, asgT, asgTs, rdp, rds, rdsAll, frzd, frzE, thaw, callO, arsOf, arOf, iosOf, distinct, backOut, rvO, pick, bltV, cmpV, eqii, eqbb, eqstr, binV, negV, ixt, ixl, at0, at1, at2, at3, at4, at5, ix20, ix21, lk0, lk1, lk2, lk3, lk4, lk5, lk6, putv, slotOf, finF, rvOf, outsOf, runF, slOf, setAt, tyIs, isNon, seqV, Nat.blt, mulOk2]) (rng_iot (by decide) (by decide)))
    ⟨_, _, _, _, rfl, fun d hd => by
      obtain ⟨i, hi, rfl⟩ := List.mem_map.mp hd
      have := mem_iot.mp hi
      exact ⟨i, rfl, by omega, by omega⟩⟩
    (fun e ⟨r3, r4, r5, r6, q, _⟩ => ⟨r3, r4, r5, r6, by rw [q]⟩)
    (by
      rintro d ds e ⟨r3, r4, r5, r6, rfl, hd⟩
      obtain ⟨i, rfl, i0, i1⟩ := hd d List.mem_cons_self
      obtain ⟨b, c13, c27⟩ := hj i i0 i1
      obtain ⟨t4, t5, t6, c⟩ := rn_body (pp := pp) (s4 := r4) (s5 := r5) (s6 := r6) c13 c27 hr
      exact ⟨[.own 1 pp, .val S, .val v, .val (.int i), r4, r5, r6], _, by simp [evSs, evS, evE, evA, evP, evO, evD, evI, asgT, asgTs, rdp, rds, rdsAll, frzd, frzE, thaw, callO, arsOf, arOf, iosOf, distinct, backOut, rvO, pick, bltV, cmpV, eqii, eqbb, eqstr, binV, negV, ixt, ixl, at0, at1, at2, at3, at4, at5, ix20, ix21, lk0, lk1, lk2, lk3, lk4, lk5, lk6, putv, slotOf, finF, rvOf, outsOf, runF, slOf, setAt, tyIs, isNon, seqV, Nat.blt, mulOk2], c, _, _, _, _, rfl, fun d h => hd d (List.mem_cons_of_mem _ h)⟩)
  exact ⟨r3, r4, r5, r6, h1⟩
theorem rn_loop {ws : List D} {p0 p1 q0 q1 : Int} (cp : FF 10 [.io [.int p0, .int p1], .pu S] = some (.fr ws, [[.int q0, .int q1]])) (hw : ∀ v ∈ ws, reprOk v = true) (hj : ∀ v ∈ ws, ∀ m : Int, 0 ≤ m → m < 3 → ∃ b, FF 13 [.pu S, .pu (.int m), .pu v] = some (.pu (.bool b), []) ∧ FF 27 [.pu S, .pu (.int m), .pu v] = some (.pu (.bool b), [])) :
    ∃ e, evS FF C0 s__law_right_4 [.own 1 [.int p0, .int p1], .val S, s2, s3, s4, s5, s6] = some (.nx (.own 1 [.int q0, .int q1] :: e)) := by
  obtain ⟨fl, h1, r2, r3, r4, r5, r6, rfl⟩ := foE (F := FF) (C := C0) (t := .nm 2) (it := .it (.call 10 (.cons (.var 0) (.cons (.var 1) (.nil))))) (b := l__law_right_3) (env := [.own 1 [.int p0, .int p1], .val S, s2, s3, s4, s5, s6]) (e1 := [.own 1 [.int q0, .int q1], .val S, s2, s3, s4, s5, s6]) (ds := ws)
    (fun ds e => ∃ r2 r3 r4 r5 r6, e = [.own 1 [.int q0, .int q1], .val S, r2, r3, r4, r5, r6] ∧ ∀ v ∈ ds, v ∈ ws)
    (fun fl => ∃ r2 r3 r4 r5 r6, fl = .nx [.own 1 [.int q0, .int q1], .val S, r2, r3, r4, r5, r6]) rfl
    (by simp [evSs, evS, evE, evA, evP, evO, evD, evI, asgT, asgTs, rdp, rds, rdsAll, frzd, frzE, thaw, callO, arsOf, arOf, iosOf, distinct, backOut, rvO, pick, bltV, cmpV, eqii, eqbb, eqstr, binV, negV, ixt, ixl, at0, at1, at2, at3, at4, at5, ix20, ix21, lk0, lk1, lk2, lk3, lk4, lk5, lk6, putv, slotOf, finF, rvOf, outsOf, runF, slOf, setAt, tyIs, isNon, seqV, Nat.blt, mulOk2, cp]) ⟨_, _, _, _, _, rfl, fun _ h => h⟩ (fun e ⟨r2, r3, r4, r5, r6, q, _⟩ => ⟨r2, r3, r4, r5, r6, by rw [q]⟩)
    (by
      rintro d ds e ⟨r2, r3, r4, r5, r6, rfl, hd⟩
      have hm := hd d List.mem_cons_self
      obtain ⟨t3, t4, t5, t6, c⟩ := rn_in (pp := [.int q0, .int q1]) (s3 := r3) (s4 := r4) (s5 := r5) (s6 := r6) (hw d hm) (hj d hm)
      refine ⟨[.own 1 [.int q0, .int q1], .val S, .val d, r3, r4, r5, r6], .nx [.own 1 [.int q0, .int q1], .val S, .val d, t3, t4, t5, t6], by simp [evSs, evS, evE, evA, evP, evO, evD, evI, asgT, asgTs, rdp, rds, rdsAll, frzd, frzE, thaw, callO, arsOf, arOf, iosOf, distinct, backOut, rvO, pick, bltV, cmpV, eqii, eqbb, eqstr, binV, negV, ixt, ixl, at0, at1, at2, at3, at4, at5, ix20, ix21, lk0, lk1, lk2, lk3, lk4, lk5, lk6, putv, slotOf, finF, rvOf, outsOf, runF, slOf, setAt, tyIs, isNon, seqV, Nat.blt, mulOk2], ?_, _, _, _, _, _, rfl, fun v h => hd v (List.mem_cons_of_mem _ h)⟩
      unfold l__law_right_3
      rw [evSs, c]
      rfl)
  exact ⟨_, h1⟩
theorem right_run {p0 p1 a0 a1 b0 b1 c0 c1 d0 d1 e0 e1 i j : Int} {S : D} (g1 : FF 0 [.io [.int p0, .int p1], .pu (.int 6)] = some (.pu (.int i), [[.int a0, .int a1]])) (g2 : FF 0 [.io [.int a0, .int a1], .pu (.int 4)] = some (.pu (.int j), [[.int b0, .int b1]]))
    (g3 : FF 1 [.io [.int b0, .int b1], .pu (.int (2 + i)), .pu (.int j)] = some (.pu S, [[.int c0, .int c1]])) {s2 s4 s5 : Sl} {e : Ev}
    (o6 : evS FF C0 s__law_right_6 [.own 1 [.int c0, .int c1], .val S, .emp, .emp, .emp, .emp, .emp] = some (.nx [.own 1 [.int d0, .int d1], .val S, s2, .emp, s4, s5, .emp]))
    (o4 : evS FF C0 s__law_right_4 [.own 1 [.int d0, .int d1], .val S, s2, .emp, s4, s5, .emp] = some (.nx (.own 1 [.int e0, .int e1] :: e))) :
    runF FF C0 ⟨1, 7, b__law_right⟩ [.io [.int p0, .int p1]] = some (.pu (.bool true), [[.int e0, .int e1]]) := by
  refine runX rfl rfl ⟨.rt (.pu (.bool true)) (.own 1 [.int e0, .int e1] :: e), ?_, by simp [evSs, evS, evE, evA, evP, evO, evD, evI, asgT, asgTs, rdp, rds, rdsAll, frzd, frzE, thaw, callO, arsOf, arOf, iosOf, distinct, backOut, rvO, pick, bltV, cmpV, eqii, eqbb, eqstr, binV, negV, ixt, ixl, at0, at1, at2, at3, at4, at5, ix20, ix21, lk0, lk1, lk2, lk3, lk4, lk5, lk6, putv, slotOf, finF, rvOf, outsOf, runF, slOf, setAt, tyIs, isNon, seqV, Nat.blt, mulOk2]⟩
  have r1 : evS FF C0 (.asg (.nm 1) (.call 1 (.cons (.var 0) (.cons (.bin .add (.cst (.int 2)) (.call 0 (.cons (.var 0) (.cons (.cst (.int 6)) (.nil))))) (.cons (.call 0 (.cons (.var 0) (.cons (.cst (.int 4)) (.nil)))) (.nil)))))) [.own 1 [.int p0, .int p1], .emp, .emp, .emp, .emp, .emp, .emp] = some (.nx [.own 1 [.int c0, .int c1], .val S, .emp, .emp, .emp, .emp, .emp]) := by
    simp [evSs, evS, evE, evA, evP, evO, evD, evI, asgT, asgTs, rdp, rds, rdsAll, frzd, frzE, thaw, callO, arsOf, arOf, iosOf, distinct, backOut, rvO, pick, bltV, cmpV, eqii, eqbb, eqstr, binV, negV, ixt, ixl, at0, at1, at2, at3, at4, at5, ix20, ix21, lk0, lk1, lk2, lk3, lk4, lk5, lk6, putv, slotOf, finF, rvOf, outsOf, runF, slOf, setAt, tyIs, isNon, seqV, Nat.blt, mulOk2, g1, g2, g3]
  unfold b__law_right
  show evSs FF C0 (.cons _ _) [.own 1 [.int p0, .int p1], .emp, .emp, .emp, .emp, .emp, .emp] = _
  rw [evSs, r1]
  dsimp only
  rw [evSs, o6]
  dsimp only
  rw [evSs, o4]
  dsimp only
  rw [evSs, evS, evE]
end
theorem right_ok {k : Nat} {p0 p1 : Int} (hp : Pot p0 p1) : ∃ q0 q1, G (k + 9) i__law_right [.io [.int p0, .int p1]] = some (.pu (.bool true), [[.int q0, .int q1]]) := by
  obtain ⟨i, a0, a1, g1, ha, i0, i1⟩ := draw_ok (k := k + 7) (m := 6) hp (by decide) (by decide)
  obtain ⟨j, b0, b1, g2, hb, j0, j1⟩ := draw_ok (k := k + 7) (m := 4) ha (by decide) (by decide)
  obtain ⟨ls, c0, c1, g3, hc, hS, hl⟩ := shape_ok (k := k + 6) (n := 2 + i) (m := j) hb (by omega) (by omega) j0 (by omega)
  obtain ⟨ws, d0, d1, g4, hd, hw⟩ := plans_ok (k := k + 4) (t := "survey") hc hS
  obtain ⟨vs, e0, e1, g5, he, hv⟩ := needs_ok (k := k + 4) (t := "survey") hd hS
  obtain ⟨s2, s4, s5, o6⟩ := rp_loop g4 hw fun v _ => ⟨_, law_is_plan_ok (k := k + 5) hS, is_plan_ok (k := k) rfl hS (by omega)⟩
  obtain ⟨e, o4⟩ := rn_loop (s2 := s2) (s3 := .emp) (s4 := s4) (s5 := s5) (s6 := .emp) g5 (fun v h => (hv v h).1) fun v h m m0 _ => ⟨_, law_is_need_ok (k := k + 6) hS (hv v h).2, is_need_paper_ok (k := k) rfl hS (hv v h).2 m0⟩
  refine ⟨e0, e1, ?_⟩
  rw [one (fn := ⟨1, 7, b__law_right⟩) rfl]
  exact right_run g1 g2 g3 o6 o4
end K94

set_option Elab.async false
set_option linter.all false
set_option maxRecDepth 100000
set_option maxHeartbeats 0
namespace K94
open PySem Rf
theorem fin_pot (c i : Int) : Pot (if c - 1000000000000000000 > 0 then c - 1000000000000000000 else 0) ((c % 2147483549 * 40014 + 6827 * i + 887) % 2147483563 + 1) := by
  have a := Int.emod_nonneg (c % 2147483549 * 40014 + 6827 * i + 887) (b := 2147483563) (by decide)
  have b := Int.emod_lt_of_pos (c % 2147483549 * 40014 + 6827 * i + 887) (b := 2147483563) (by decide)
  refine ⟨?_, by omega, by omega⟩
  split <;> omega
theorem mm (c : Int) : mulOk (c % 2147483549) 40014 = true := by
  have a := Int.emod_nonneg c (b := 2147483549) (by decide)
  have b := Int.emod_lt_of_pos c (b := 2147483549) (by decide)
  unfold mulOk
  rw [sm a (by omega)]
  rfl
theorem pw : binV .pow (.int 10) (.int 18) = some (.pu (.int 1000000000000000000)) := by kernel_rfl
theorem bmI {a b : Int} (h : mulOk a b = true) : binV .mul (.int a) (.int b) = some (.pu (.int (a * b))) := by
  show (if mulOk a b = true then some (Opd.pu (.int (a * b))) else none) = _
  rw [if_pos h]
theorem pot_ret {F : FT} {s : Sl} {c i : Int} : evS F C0 (.ret (.lst (.cons (.blt .max2 (.cons (.cst (.int 0)) (.cons (.bin .sub (.var 2) (.bin .pow (.cst (.int 10)) (.cst (.int 18)))) (.nil)))) (.cons (.bin .add (.bin .mod (.blt .int1 (.cons (.bin .add (.bin .add (.bin .mul (.bin .mod (.blt .int1 (.cons (.var 2) (.nil))) (.cst (.int 2147483549))) (.cst (.int 40014))) (.bin .mul (.cst (.int 6827)) (.var 1))) (.cst (.int 887))) (.nil))) (.cst (.int 2147483563))) (.cst (.int 1))) (.nil))))) [s, .val (.int i), .val (.int c)] =
    some (.rt (.fr [.int (if c - 1000000000000000000 > 0 then c - 1000000000000000000 else 0), .int ((c % 2147483549 * 40014 + 6827 * i + 887) % 2147483563 + 1)]) [s, .val (.int i), .val (.int c)]) := by
  have bm : ∀ a b : Int, mulOk a b = true → binV .mul (.int a) (.int b) = some (.pu (.int (a * b))) := fun a b h => by
    show (if mulOk a b = true then _ else _) = _
    rw [if_pos h]
  have ba : ∀ a b : Int, binV .add (.int a) (.int b) = some (.pu (.int (a + b))) := fun _ _ => rfl
  have bs : ∀ a b : Int, binV .sub (.int a) (.int b) = some (.pu (.int (a - b))) := fun _ _ => rfl
  have bo : ∀ a b : Int, 0 < b → binV .mod (.int a) (.int b) = some (.pu (.int (a % b))) := fun a b h => by
    show (if decide (0 < b) = true then _ else _) = _
    rw [if_pos (decide_eq_true h)]
  have b1 := bo c 2147483549 (by decide)
  have b2 := bm _ _ (mm c)
  have b3 := bm 6827 i rfl
  have b4 := fun a => bo a 2147483563 (by decide)
  simp [evS, evE, evA, evP, rdp, rds, rdsAll, thaw, frzd, bltV, pw, b1, b2, b3, b4, ba, bs, lk2]
theorem pot_ok {F : FT} (ns : List Int) {i : Int} (h0 : 0 ≤ i) : ∃ p0 p1, runF F C0 ⟨2, 3, b__law_pot⟩ [.sc (ns.map .int), .pu (.int i)] = some (.fr [.int p0, .int p1], []) ∧ Pot p0 p1 := by
  have bm : binV .mul (.int 1231) (.int i) = some (.pu (.int (1231 * i))) := bmI rfl
  have s2 : ∃ c, evS F C0 (.asg (.nm 2) (.ite (.cmp .lt (.var 1) (.blt .len (.cons (.var 0) (.nil)))) (.blt .abs (.cons (.idx (.var 0) (.var 1)) (.nil))) (.bin .add (.bin .mul (.cst (.int 1231)) (.var 1)) (.cst (.int 179))))) [.scr 1 (ns.map .int), .val (.int i), .emp] = some (.nx [.scr 1 (ns.map .int), .val (.int i), .val (.int c)]) := by
    by_cases hi : i < (ns.length : Int)
    · have hl : i.toNat < ns.length := by omega
      have ha : L2.atI (ns.map PyData.int) i = some (.int ns[i.toNat]) := by
        unfold L2.atI L2.ixN
        rw [if_pos h0, if_pos (by simpa using hi)]
        simp [hl]
      refine ⟨if ns[i.toNat] < 0 then -ns[i.toNat] else ns[i.toNat], ?_⟩
      simp [evS, evSs, evE, evA, rdp, rds, rdsAll, thaw, frzd, bltV, cmpV, hi, idxV, ixOf, ha, asgT, putv, Nat.blt]
    · refine ⟨1231 * i + 179, ?_⟩
      simp [evS, evSs, evE, evA, rdp, rds, rdsAll, thaw, frzd, bltV, cmpV, hi, bm, show ∀ a b : Int, binV .add (.int a) (.int b) = some (.pu (.int (a + b))) from fun _ _ => rfl, asgT, putv, Nat.blt]
  obtain ⟨c, s2⟩ := s2
  refine ⟨_, _, ?_, fin_pot c i⟩
  have hl : [Ar.sc (ns.map .int), Ar.pu (.int i)].length = (⟨2, 3, b__law_pot⟩ : Fn).np := rfl
  unfold runF
  rw [if_pos hl]
  dsimp only
  unfold b__law_pot
  rw [show slOf 0 [Ar.sc (ns.map .int), Ar.pu (.int i)] ++ List.replicate (3 - 2) Sl.emp = [.scr 1 (ns.map .int), .val (.int i), .emp] from rfl]
  rw [evSs, s2]
  dsimp only
  rw [evSs, pot_ret]
  simp [finF, rvOf, outsOf]
theorem law_ok {F : FT} (ns : List Int) (hp : ∀ i : Int, 0 ≤ i → ∃ p0 p1, F 41 [.sc (ns.map .int), .pu (.int i)] = some (.fr [.int p0, .int p1], []) ∧ Pot p0 p1) (hr : ∀ p0 p1, Pot p0 p1 → ∃ q0 q1, F 40 [.io [.int p0, .int p1]] = some (.pu (.bool true), [[.int q0, .int q1]])) :
    runF F C0 ⟨1, 2, b_law⟩ [.sc (ns.map .int)] = some (.pu (.bool true), []) := by
  have hI : ∃ ds : List D, (∀ d ∈ ds, ∃ i, d = .int i ∧ 0 ≤ i) ∧ evI F C0 (.rng (.cst (.int 0)) (.blt .max2 (.cons (.cst (.int 1)) (.cons (.blt .min2 (.cons (.cst (.int 3)) (.cons (.blt .len (.cons (.var 0) (.nil))) (.nil)))) (.nil))))) [.scr 1 (ns.map .int), .emp] = some (ds, [.scr 1 (ns.map .int), .emp]) := by
    have go : ∀ N : Int, 0 ≤ N → N ≤ 3 → evE F C0 (.blt .max2 (.cons (.cst (.int 1)) (.cons (.blt .min2 (.cons (.cst (.int 3)) (.cons (.blt .len (.cons (.var 0) (.nil))) (.nil)))) (.nil)))) [.scr 1 (ns.map .int), .emp] = some (.pu (.int N), [.scr 1 (ns.map .int), .emp]) → ∃ ds : List D, (∀ d ∈ ds, ∃ i, d = .int i ∧ 0 ≤ i) ∧ evI F C0 (.rng (.cst (.int 0)) (.blt .max2 (.cons (.cst (.int 1)) (.cons (.blt .min2 (.cons (.cst (.int 3)) (.cons (.blt .len (.cons (.var 0) (.nil))) (.nil)))) (.nil))))) [.scr 1 (ns.map .int), .emp] = some (ds, [.scr 1 (ns.map .int), .emp]) := fun N n0 n3 hN => by
      refine ⟨(iot N.toNat).map .int, fun d hd => ?_, rngE (e1 := [.scr 1 (ns.map .int), .emp]) (by simp [evE]) hN (rng_iot n0 (by omega))⟩
      obtain ⟨i, hi, rfl⟩ := List.mem_map.mp hd
      exact ⟨i, rfl, (mem_iot.mp hi).1⟩
    rcases ns with _ | ⟨x, _ | ⟨y, _ | ⟨z, ns⟩⟩⟩
    · exact go 1 (by decide) (by decide) (by simp [evE, evA, rds, rdsAll, thaw, bltV])
    · exact go 1 (by decide) (by decide) (by simp [evE, evA, rds, rdsAll, thaw, bltV])
    · exact go 2 (by decide) (by decide) (by simp [evE, evA, rds, rdsAll, thaw, bltV])
    · have n2 : ¬ ((ns.length : Int) + 1 + 1 + 1 < 3) := by omega
      exact go 3 (by decide) (by decide) (by simp [evE, evA, rds, rdsAll, thaw, bltV, n2])
  obtain ⟨ds, hds, hI⟩ := hI
  obtain ⟨fl, h1, s1, rfl⟩ := foE (F := F) (C := C0) (t := .nm 1) (b := l_law_1) (env := [.scr 1 (ns.map .int), .emp]) (e1 := [.scr 1 (ns.map .int), .emp]) (ds := ds)
    (fun ds e => ∃ s1, e = [.scr 1 (ns.map .int), s1] ∧ ∀ d ∈ ds, ∃ i, d = .int i ∧ 0 ≤ i)
    (fun fl => ∃ s1, fl = .nx [.scr 1 (ns.map .int), s1]) rfl hI ⟨_, rfl, hds⟩ (fun e ⟨s1, q, _⟩ => ⟨s1, by rw [q]⟩)
    (by
      rintro d ds e ⟨s1, rfl, hd⟩
      obtain ⟨i, rfl, i0⟩ := hd d List.mem_cons_self
      obtain ⟨p0, p1, c1, hp'⟩ := hp i i0
      obtain ⟨q0, q1, c2⟩ := hr p0 p1 hp'
      refine ⟨[.scr 1 (ns.map .int), .val (.int i)], .nx [.scr 1 (ns.map .int), .val (.int i)], by simp [evSs, evS, evE, evA, evP, evO, evD, evI, asgT, asgTs, rdp, rds, rdsAll, frzd, frzE, thaw, callO, arsOf, arOf, iosOf, distinct, backOut, rvO, pick, bltV, cmpV, eqii, eqbb, eqstr, binV, negV, ixt, ixl, at0, at1, at2, at3, at4, at5, ix20, ix21, lk0, lk1, lk2, lk3, lk4, lk5, lk6, putv, slotOf, finF, rvOf, outsOf, runF, slOf, setAt, tyIs, isNon, seqV, Nat.blt, mulOk2], ?_, _, rfl, fun d h => hd d (List.mem_cons_of_mem _ h)⟩
      generalize ns.map PyData.int = NN at c1 ⊢
      simp [evSs, evS, evE, evA, evP, evO, evD, evI, asgT, asgTs, rdp, rds, rdsAll, frzd, frzE, thaw, callO, arsOf, arOf, iosOf, distinct, backOut, rvO, pick, bltV, cmpV, eqii, eqbb, eqstr, binV, negV, ixt, ixl, at0, at1, at2, at3, at4, at5, ix20, ix21, lk0, lk1, lk2, lk3, lk4, lk5, lk6, putv, slotOf, finF, rvOf, outsOf, runF, slOf, setAt, tyIs, isNon, seqV, Nat.blt, mulOk2, l_law_1, c1, c2])
  have h1' : evS F C0 s_law_2 [.scr 1 (ns.map .int), .emp] = some (.nx [.scr 1 (ns.map .int), s1]) := h1
  refine runX rfl rfl ⟨.rt (.pu (.bool true)) [.scr 1 (ns.map .int), s1], ?_, by simp [evSs, evS, evE, evA, evP, evO, evD, evI, asgT, asgTs, rdp, rds, rdsAll, frzd, frzE, thaw, callO, arsOf, arOf, iosOf, distinct, backOut, rvO, pick, bltV, cmpV, eqii, eqbb, eqstr, binV, negV, ixt, ixl, at0, at1, at2, at3, at4, at5, ix20, ix21, lk0, lk1, lk2, lk3, lk4, lk5, lk6, putv, slotOf, finF, rvOf, outsOf, runF, slOf, setAt, tyIs, isNon, seqV, Nat.blt, mulOk2]⟩
  unfold b_law
  show evSs F C0 (.cons _ _) [.scr 1 (ns.map .int), .emp] = _
  rw [evSs, h1']
  dsimp only
  rw [evSs, evS, evE]
theorem ev_G (ns : List Int) : G 40 42 [.sc (ns.map .int)] = some (.pu (.bool true), []) := by
  rw [one (fn := ⟨1, 2, b_law⟩) rfl]
  refine law_ok (F := G 39) ns (fun i h0 => ?_) (fun p0 p1 hp => right_ok (k := 30) hp)
  rw [one (fn := ⟨2, 3, b__law_pot⟩) rfl]
  exact pot_ok ns h0
end K94

set_option Elab.async false
set_option linter.all false
set_option maxRecDepth 100000
set_option maxHeartbeats 0
namespace K94
open PySem PySem.Spec PyProof.Rows L2 Rf
def tri (x : Str) (N : List String) (np : Nat) (b : ISs) : Str × List Str × Fn := (x, N.map Str.ofString, ⟨np, N.length, b⟩)
def tops : List (Str × List Str × Fn) := [tri "_law_draw" n__law_draw 2 b__law_draw, tri "_law_shape" n__law_shape 3 b__law_shape, tri "_law_ends_of" n__law_ends_of 1 b__law_ends_of, tri "_law_reached" n__law_reached 3 b__law_reached, tri "_law_bridges" n__law_bridges 1 b__law_bridges, tri "_law_pieces" n__law_pieces 3 b__law_pieces, tri "_law_knots" n__law_knots 1 b__law_knots, tri "_law_pick" n__law_pick 2 b__law_pick, tri "_law_plans" n__law_plans 2 b__law_plans, tri "_law_leaving" n__law_leaving 2 b__law_leaving, tri "_law_needs" n__law_needs 2 b__law_needs, tri "_law_is_plan" n__law_is_plan 2 b__law_is_plan, tri "_law_is_lot" n__law_is_lot 2 b__law_is_lot, tri "_law_is_need" n__law_is_need 3 b__law_is_need, tri "is_tuple" n_is_tuple 2 b_is_tuple, tri "is_integer" n_is_integer 1 b_is_integer, tri "is_within" n_is_within 3 b_is_within, tri "is_fraction" n_is_fraction 1 b_is_fraction, tri "is_short" n_is_short 1 b_is_short, tri "is_short_vector" n_is_short_vector 2 b_is_short_vector, tri "is_leg_value" n_is_leg_value 3 b_is_leg_value, tri "is_survey_value" n_is_survey_value 1 b_is_survey_value, tri "want_survey" n_want_survey 1 b_want_survey, tri "is_count" n_is_count 1 b_is_count, tri "is_list" n_is_list 1 b_is_list] ++ [tri "are_stations" n_are_stations 2 b_are_stations, tri "leaving" n_leaving 2 b_leaving, tri "is_need_paper" n_is_need_paper 3 b_is_need_paper, tri "are_pairs" n_are_pairs 2 b_are_pairs, tri "all_legs" n_all_legs 1 b_all_legs, tri "legs_at" n_legs_at 2 b_legs_at, tri "far_end" n_far_end 2 b_far_end, tri "sense_from" n_sense_from 3 b_sense_from, tri "ways_by" n_ways_by 3 b_ways_by, tri "without" n_without 2 b_without, tri "loop_with" n_loop_with 2 b_loop_with, tri "bridges_of" n_bridges_of 1 b_bridges_of, tri "nought" n_nought 1 b_nought, tri "with_pairs" n_with_pairs 2 b_with_pairs, tri "is_plan" n_is_plan 2 b_is_plan, tri "_law_right" n__law_right 1 b__law_right, tri "_law_pot" n__law_pot 2 b__law_pot, tri "law" n_law 1 b_law]
def drs : List DR := tops.map (mkDR PySem.Challenge.pw_cavelegs_k94_any_value_as_plan_or_need_p.main.body)
def bn : List Str := ["abs", "all", "any", "bool", "divmod", "enumerate", "int", "isinstance", "len", "list", "max", "min", "range", "repr", "set", "sorted", "str", "sum", "tuple", "zip"]
def kws : List (Nat × List Str × List Nat) := [(27, ["value", "many", "survey"], [2, 1, 0]), (39, ["value", "survey"], [1, 0])]
def gl : List (Str × D) := consts.map fun q => (Str.ofString q.1, q.2)
abbrev pg : Pg := mkPg drs gl bn true kws
theorem chk : drs.all (chkDR pg) = true := by decide +kernel
theorem kw : KwAll drs kws := ⟨⟨_, rfl, fun _ _ _ _ _ _ ws hl => match ws, hl with | [_, _, _], _ => ⟨_, rfl, rfl⟩⟩, ⟨⟨_, rfl, fun _ _ _ _ _ _ ws hl => match ws, hl with | [_, _], _ => ⟨_, rfl, rfl⟩⟩, trivial⟩⟩
abbrev R : PySem.W.OpenRow := PySem.W.OpenLaw.row PySem.Challenge.rw_cavelegs_k94_any_value_as_plan_or_need_p
abbrev hk : PySem.W.Hook := hookR 4 pg (drs.map DR.D)
def ob (s : PySem.W.SharedT) : He.AlD := obR 4 pg (drs.map DR.D) s
theorem ob_eq (s : PySem.W.SharedT) : ob s = hk.obs s.abs := obR_eq s
def loose : List Str := (["is_integer", "is_within", "is_count", "is_list", "is_tuple", "CaveError", "InvalidSurvey", "InvalidMany", "NOUGHT", "ONE", "MOST_SHORT", "MOST_BELOW", "is_fraction", "is_short", "MOST_DIMS", "nought", "MOST_STATIONS", "MOST_LEGS", "MOST_PARTY", "is_short_vector", "is_leg_value", "is_survey_value", "want_survey", "legs_at", "far_end", "all_legs", "sense_from", "ways_by", "without", "loop_with"] : List Str) ++ (["bridges_of", "leaving", "are_stations", "with_pairs", "are_pairs", "is_plan", "is_need_paper", "_law_pot", "_law_draw", "_law_pick", "_law_shape", "_law_reached", "_law_ends_of", "_law_bridges", "_law_pieces", "_law_leaving", "_law_knots", "_law_is_lot", "_law_is_plan", "_law_is_need", "_law_plans", "_law_needs", "_law_right"] : List Str)
theorem run (w : World) : HandSHeadRun.RunEqI R (PySem.W.view R.prog [0, 63]) hk ob 3000 loose w := by
  unfold HandSHeadRun.RunEqI
  kernel_rfl
end K94

set_option Elab.async false
set_option linter.all false
set_option maxRecDepth 100000
set_option maxHeartbeats 0
namespace K94
open PySem PySem.Spec PyProof.Rows L2 Rf
theorem ev (ns : List Int) (h : ns.length ≤ 63) : pg.F 40 42 [.sc (ns.map .int)] = some (.pu (.bool true), []) := by
  have hT : pg.T = fns := by kernel_rfl
  have hC : pg.C = C0 := by kernel_rfl
  show callN pg.C pg.T 40 42 _ = _
  rw [hT, hC]
  have e := ev_G ns
  unfold G at e
  exact e
def dl : DR := mkDR PySem.Challenge.pw_cavelegs_k94_any_value_as_plan_or_need_p.main.body (tri "law" n_law 1 b_law)
theorem hd : drs[42]? = some dl := rfl
theorem hps : dl.ps = [("script" : Str)] := by decide +kernel
theorem hx : dl.x = ("law" : Str) := rfl
end K94
open PySem PySem.W PySem.Calls PyProof.Rows
theorem PySem.Challenge.cw_cavelegs_k94_any_value_as_plan_or_need_p_holds : PySem.Challenge.rw_cavelegs_k94_any_value_as_plan_or_need_p.Holds := by
  w_on; o_law
  refine HandSHeadRun.head_imp (r := OpenLaw.row PySem.Challenge.rw_cavelegs_k94_any_value_as_plan_or_need_p) (q := view (OpenLaw.row PySem.Challenge.rw_cavelegs_k94_any_value_as_plan_or_need_p).prog [0, 63]) (H := K94.hk) (ob := K94.ob) (M := 3000) (loose := K94.loose) (d := HandSHeadRun.topDef (OpenLaw.row PySem.Challenge.rw_cavelegs_k94_any_value_as_plan_or_need_p).prog 63) (kwd := []) K94.ob_eq K94.run
    (by kernel_rfl) (by kernel_rfl) (by kernel_rfl) (by rfl) (by first | assumption | decide +kernel) (by decide +kernel) ⟨rfl, rfl, rfl, rfl, rfl, by decide +kernel⟩ ?hw ?hc
  case hw => w_witness2
  case hc =>
    refine Rf.walk_G (l := PySem.Challenge.rw_cavelegs_k94_any_value_as_plan_or_need_p) (n := 63) (k := 40) (x := "script") rfl (by decide) (by kernel_rfl) ⟨rfl, by decide, by decide⟩ ?F
    intro w mg fa h Y G hmg0
    have e : (HandSHeadRun.topDef (OpenLaw.row PySem.Challenge.rw_cavelegs_k94_any_value_as_plan_or_need_p).prog 63).name = ("law" : PySem.Str) := by kernel_rfl
    rw [e] at hmg0
    exact Rf.law_F (P := PySem.Challenge.rw_cavelegs_k94_any_value_as_plan_or_need_p.prog) (w := w) (k := 40) (x := "script") K94.chk K94.kw K94.hd K94.hps K94.ev Y G hmg0

