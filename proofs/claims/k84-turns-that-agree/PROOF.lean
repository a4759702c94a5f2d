import PyProof.Rows.All
import Wide.All
import OpenK.AllK
import Wide.FinOn
import HandS.ForMost
import HandS.Deep
import HandS.Conv
import HandS.IsInst
import HandS.TupMul
import HandS.TupAny
import HandS.Gcd
import HandS.Style
import HandS.Wide
import HandS.Zip
import HandS.Defaults
import KE.SortData
import PyProof.ListMulRoad
import PyProof.FactsAll.tuple_2
import KE.KTupSum
import HandS.More
import HandS.Iter
import KE.GoesEnum
import HandS.NoneIn
import HandS.Dict
import PyProof.Rows.SetFrom
import HandS.SetFor
import HandS.Strs
import HandS.Head2
import HandS.HeadHook2
import HandS.HeadEnd
import PyProof.Rows.SortWalkRead
import HandS.Head3
import PySem.Challenge.RW_cavelegs_k84_whole_turns_that_agree
set_option Elab.async false
set_option linter.all false
set_option maxRecDepth 100000
/-! Rf: a pure evaluator for the plain part of Python that the program is written in. -/
namespace Rf
open PySem

abbrev D := PyData

/-- what a name of a def holds: nothing; a value that is never changed from now on; a list that this name alone holds (t: 0, or the parameter's place and 1); the script -/
inductive Sl where
  | emp
  | val (d : D)
  | own (t : Nat) (xs : List D)
  | scr (t : Nat) (xs : List D)
  | dic (kvs : List (D × D))
abbrev Ev := List Sl

/-- an expression's value: never changed from now on; the list that slot i holds; a list just made -/
inductive Opd where
  | pu (d : D)
  | bo (i : Nat)
  | fr (xs : List D)
  | fo (xs : List D)
  | fd (kvs : List (D × D))

inductive BOp where
  | add | sub | mul | fdiv | mod | pow
  deriving DecidableEq
inductive COp where
  | eq | ne | lt | le | gt | ge | isN | notN | isB | notB | mem | nmem
  deriving DecidableEq
inductive Ty where
  | int | bool | str | list | tuple | dict
  deriving DecidableEq
inductive Blt where
  | len | abs | max2 | min2 | int1 | tuple1 | list1 | all1 | any1 | sum1 | sorted1 | repr1 | gcd2 | divmod2
  deriving DecidableEq
inductive Mth where
  | append | extend | pop0 | pop1 | insert
  deriving DecidableEq

mutual
inductive IE where
  | var (i : Nat)
  | frz (i : Nat)
  | cst (d : D)
  | glo (n : Nat)
  | bin (o : BOp) (a b : IE)
  | neg (a : IE)
  | cmp (o : COp) (a b : IE)
  | chn (o o' : COp) (a b c : IE)
  | and2 (a b : IE)
  | or2 (a b : IE)
  | nt (a : IE)
  | ite (c a b : IE)
  | tup (es : IEs)
  | lst (es : IEs)
  | idx (a i : IE)
  | slc (a : IE) (lo hi : IO)
  | rev (a : IE)
  | call (f : Nat) (es : IEs)
  | callk (f : Nat) (p : List Nat) (es : IEs)
  | blt (b : Blt) (es : IEs)
  | isi (a : IE) (ts : List Ty)
  | lrg (lo hi : IE)
  | trg (lo hi : IE)
  | lc (elt : IE) (tg : IT) (it : II) (cd : IO) (own : List Nat)
  | mth (m : Mth) (i : Nat) (es : IEs)
  | rpr (es : IEs)
  | giv (e : IE)
  | dnw
  | ds1 (k v : IE)
  | dof (a : IE)
  | dix (a k : IE)
  | din (n : Bool) (a b : IE)
  | dgt (a k d : IE)
  | lset (a : IE)
  | sset (a : IE)
  | lw (i : Nat) (elt : IE) (tg : IT) (cd : IO) (own : List Nat)
inductive IEs where
  | nil
  | cons (e : IE) (es : IEs)
inductive IO where
  | non
  | som (e : IE)
inductive II where
  | it (a : IE)
  | rng (lo hi : IE)
  | enu (a : IE)
  | zip (a b : IE)
  | dks (a : IE)
inductive IT where
  | nm (i : Nat)
  | tp (ts : ITs)
  | sub (i : Nat) (e : IE)
inductive ITs where
  | nil
  | cons (t : IT) (ts : ITs)
end
mutual
inductive IS where
  | asg (t : IT) (e : IE)
  | own (i : Nat) (e : IE)
  | par2 (i j : Nat) (u v : Bool) (a b : IE)
  | par3 (i j l : Nat) (u v w : Bool) (a b c : IE)
  | ex (e : IE)
  | ret (e : IE)
  | ite (c : IE) (a b : ISs)
  | fo (t : IT) (it : II) (b : ISs)
  | wh (c : IE) (b : ISs)
  | pass | brk | cnt
  | nev
  | dpt (i : Nat) (k e : IE)
inductive ISs where
  | nil
  | cons (s : IS) (ss : ISs)
end

/-- an argument: a value; a list that the callee may change; the script -/
inductive Ar where
  | pu (d : D)
  | io (xs : List D)
  | sc (xs : List D)
inductive Rv where
  | pu (d : D)
  | fr (xs : List D)
abbrev Rt := Rv × List (List D)
abbrev FT := Nat → List Ar → Option Rt

/-! ### operations by values -/
def lenOk (n : Nat) : Bool := Nat.ble n 16777216
def small64 (i : Int) : Bool := Nat.blt i.natAbs 18446744073709551616
def mulOk (i j : Int) : Bool := small64 i || small64 j || Nat.blt (i.natAbs.log2 + j.natAbs.log2) 1000000

/-- keys: ints and texts -/
def keyD : D → Option L2.Key
  | .int i => some (.inl i)
  | .str x => some (.inr x)
  | _ => none
def isKey (d : D) : Bool := (keyD d).isSome
def keq : D → D → Bool
  | .int i, .int j => decide (i = j)
  | .str x, .str y => decide (x = y)
  | _, _ => false
def kget : List (D × D) → D → Option D
  | [], _ => none
  | p :: r, k => if keq p.1 k then some p.2 else kget r k
def khas (kvs : List (D × D)) (k : D) : Bool := (kget kvs k).isSome
def kmap (k v : D) : List (D × D) → List (D × D)
  | [] => []
  | p :: r => (if keq p.1 k then (p.1, v) else p) :: kmap k v r
def kput (kvs : List (D × D)) (k v : D) : List (D × D) := if khas kvs k then kmap k v kvs else kvs ++ [(k, v)]
def kmrg : List (D × D) → List (D × D) → List (D × D)
  | kvs, [] => kvs
  | kvs, p :: r => kmrg (kput kvs p.1 p.2) r
def prsOf : List D → Option (List (D × D))
  | [] => some []
  | .tuple [k, v] :: r => if isKey k then (prsOf r).map ((k, v) :: ·) else none
  | _ => none
/-- ints, each the first time -/
def dedup : List Int → List Int → List Int
  | acc, [] => acc
  | acc, n :: r => dedup (if acc.any (· == n) then acc else acc ++ [n]) r
def rdp (env : Ev) : Opd → Option D
  | .pu d => some d
  | .fr xs => some (.list xs)
  | .bo i => match env[i]? with
    | some (.own _ xs) => some (.list xs)
    | some (.dic kvs) => some (.dict kvs)
    | _ => none
  | .fo _ => none
  | .fd _ => none
/-- the script too -/
def rds (env : Ev) : Opd → Option D
  | .pu d => some d
  | .fr xs => some (.list xs)
  | .bo i => match env[i]? with
    | some (.own _ xs) => some (.list xs)
    | some (.scr _ xs) => some (.list xs)
    | some (.dic kvs) => some (.dict kvs)
    | _ => none
  | .fo _ => none
  | .fd _ => none
def rdsAll (env : Ev) : List Opd → Option (List D)
  | [] => some []
  | o :: r => match rds env o, rdsAll env r with
    | some d, some ds => some (d :: ds)
    | _, _ => none
/-- a value from now on -/
def frzd : Opd → Option D
  | .pu d => some d
  | .fr xs => some (.list xs)
  | .fd kvs => some (.dict kvs)
  | .bo _ => none
  | .fo _ => none

def thaw : Opd → Opd
  | .fr xs => .pu (.list xs)
  | .fd kvs => .pu (.dict kvs)
  | o => o
def repL (k : Nat) (xs : List D) : List D := match k with
  | 0 => []
  | k + 1 => xs ++ repL k xs

def binV : BOp → D → D → Option Opd
  | .add, .int i, .int j => some (.pu (.int (i + j)))
  | .add, .str x, .str y => if lenOk (x.length + y.length) then some (.pu (.str (x ++ y))) else none
  | .add, .list xs, .list ys => if lenOk (xs.length + ys.length) then some (.fr (xs ++ ys)) else none
  | .add, .tuple xs, .tuple ys => if lenOk (xs.length + ys.length) then some (.pu (.tuple (xs ++ ys))) else none
  | .sub, .int i, .int j => some (.pu (.int (i - j)))
  | .mul, .int i, .int j => if mulOk i j then some (.pu (.int (i * j))) else none
  | .mul, .list xs, .int k => if small64 k && decide (-9223372036854775808 ≤ k) && decide (k < 9223372036854775808) && lenOk (xs.length * k.toNat) then some (.fr (repL k.toNat xs)) else none
  | .mul, .tuple xs, .int k => if decide (2 ≤ k) && decide (k ≤ 1000) && Nat.ble xs.length 1000 && !xs.isEmpty then some (.pu (.tuple (repL k.toNat xs))) else if decide (k = 1) then some (.pu (.tuple xs)) else none
  | .fdiv, .int i, .int j => if decide (0 < j) && Nat.blt j.natAbs.log2 9000 then some (.pu (.int (i / j))) else none
  | .mod, .int i, .int j => if decide (0 < j) then some (.pu (.int (i % j))) else none
  | .pow, .int i, .int j => if decide (0 ≤ j) && decide (j ≤ 1000000) && small64 i then some (.pu (.int (i ^ j.toNat))) else none
  | _, _, _ => none

/-- None, bools, ints, texts, told apart as data does -/
def scalD : D → D → Option Bool
  | .none, .none => some true
  | .none, .int _ => some false
  | .int _, .none => some false
  | .none, .bool _ => some false
  | .bool _, .none => some false
  | .none, .str _ => some false
  | .str _, .none => some false
  | .int i, .int j => some (decide (i = j))
  | .bool a, .bool b => some (decide (a = b))
  | .str x, .str y => some (decide (x = y))
  | .int _, .str _ => some false
  | .str _, .int _ => some false
  | .bool _, .str _ => some false
  | .str _, .bool _ => some false
  | _, _ => none
def eqD (a b : D) : Option Bool := match scalD a b with
  | some r => some r
  | none => if SeqAt.shaped a && SeqAt.shaped b then some (PyData.eqv a b) else none
def memD (a : D) : D → Option Bool
  | .list ds => if SeqAt.shaped a && SeqAt.shaped (.list ds) then some (ds.any fun z => PyData.eqv z a) else none
  | .tuple ds => if SeqAt.shaped a && SeqAt.shaped (.list ds) then some (ds.any fun z => PyData.eqv z a) else none
  | _ => none
def isNon : D → Bool
  | .none => true
  | _ => false
def cmpV : COp → D → D → Option Bool
  | .eq, a, b => eqD a b
  | .ne, a, b => (eqD a b).map not
  | .lt, .int i, .int j => some (decide (i < j))
  | .le, .int i, .int j => some (decide (i ≤ j))
  | .gt, .int i, .int j => some (decide (j < i))
  | .ge, .int i, .int j => some (decide (j ≤ i))
  | .isN, a, .none => some (isNon a)
  | .notN, a, .none => some (!isNon a)
  | .isB, .bool a, .bool b => some (decide (a = b))
  | .notB, .bool a, .bool b => some (!decide (a = b))
  | .mem, a, b => memD a b
  | .nmem, a, b => (memD a b).map not
  | _, _, _ => none

def ixOf {α : Type} (xs : List α) (i : Int) : Option α := L2.atI xs i
def idxV : D → D → Option D
  | .list xs, .int i => ixOf xs i
  | .tuple xs, .int i => ixOf xs i
  | _, _ => none
def cutL (xs : List D) (lo hi : Option Int) : List D := (xs.drop (HT.sIx xs.length 0 lo)).take (HT.sIx xs.length xs.length hi - HT.sIx xs.length 0 lo)
def slcV (d : D) (lo hi : Option Int) : Option Opd := match d with
  | .list xs => some (.fr (cutL xs lo hi))
  | .tuple xs => some (.pu (.tuple (cutL xs lo hi)))
  | _ => none
def revV : D → Option Opd
  | .list xs => some (.fr xs.reverse)
  | .tuple xs => some (.pu (.tuple xs.reverse))
  | _ => none
def negV : D → Option D
  | .int i => some (.int (-i))
  | _ => none

def boolsOf : List D → Option (List Bool)
  | [] => some []
  | .bool b :: r => (boolsOf r).map (b :: ·)
  | _ => none
def intsOf : List D → Option (List Int)
  | [] => some []
  | .int i :: r => (intsOf r).map (i :: ·)
  | _ => none

def tyIs : Ty → D → Bool
  | .int, .int _ => true
  | .int, .bool _ => true
  | .bool, .bool _ => true
  | .str, .str _ => true
  | .list, .list _ => true
  | .tuple, .tuple _ => true
  | .dict, .dict _ => true
  | _, _ => false

/-- sorting by insertion, equal ones in their order -/
def ins {α : Type} (le : α → α → Bool) (a : α) : List α → List α
  | [] => [a]
  | b :: r => if le a b then a :: b :: r else b :: ins le a r
def isort {α : Type} (le : α → α → Bool) : List α → List α
  | [] => []
  | a :: r => ins le a (isort le r)
def alikes (d : D) : List D → Bool
  | [] => true
  | e :: r => PySem.W.alike d e && PySem.W.alike e d && alikes d r
def allAlike : List D → Bool
  | [] => true
  | d :: r => PySem.W.alike d d && alikes d r && allAlike r
def tupNE : D → Bool
  | .tuple (_ :: _) => true
  | _ => false
def noTupNone : D → Bool
  | .none => false
  | .tuple _ => false
  | _ => true
def deepMax (ds : List D) : Nat := PyData.depthAll ds
def sortOk (ds : List D) : Bool := allAlike ds && (ds.all tupNE || ds.all noTupNone) && Nat.ble (deepMax ds) 64 && !PyData.hasDictAll ds
def sortV (ds : List D) : Option (List D) := if sortOk ds then some (isort (PySem.W.dataLe false id) ds) else none

mutual
/-- what repr shows in a bounded text -/
def rOk : D → Bool
  | .none => true
  | .bool _ => true
  | .int i => Nat.blt i.natAbs 1000000000000 || (Nat.blt i.natAbs.log2 1920 && Nat.ble (PyData.shown (.int i)).length 1000)
  | .str x => PyData.strOk x && Nat.ble (reprText x).length 1000
  | .list xs => rOkAll xs
  | .tuple xs => rOkAll xs
  | .dict kvs => kvs.isEmpty
def rOkAll : List D → Bool
  | [] => true
  | x :: xs => rOk x && rOkAll xs
end
mutual
/-- no list within -/
def noLst : D → Bool
  | .none => true
  | .bool _ => true
  | .int _ => true
  | .str _ => true
  | .list _ => false
  | .tuple xs => noLsts xs
  | .dict _ => true
def noLsts : List D → Bool
  | [] => true
  | x :: xs => noLst x && noLsts xs
end
mutual
/-- no list, no dict within -/
def scl : D → Bool
  | .none => true
  | .bool _ => true
  | .int _ => true
  | .str _ => true
  | .list _ => false
  | .tuple xs => scls xs
  | .dict _ => false
def scls : List D → Bool
  | [] => true
  | x :: xs => scl x && scls xs
end
def reprOk (d : D) : Bool := rOk d && (!d.hasDict || noLst d) && Nat.ble d.depth 64 && Nat.ble d.bulk 15000

def bltV : Blt → List D → Option Opd
  | .len, [.list xs] => some (.pu (.int xs.length))
  | .len, [.tuple xs] => some (.pu (.int xs.length))
  | .len, [.str s] => if lenOk s.length then some (.pu (.int s.length)) else none
  | .abs, [.int i] => some (.pu (.int (if i < 0 then -i else i)))
  | .max2, [.int i, .int j] => some (.pu (.int (if j > i then j else i)))
  | .min2, [.int i, .int j] => some (.pu (.int (if j < i then j else i)))
  | .int1, [.int i] => some (.pu (.int i))
  | .tuple1, [.list xs] => some (.pu (.tuple xs))
  | .tuple1, [.tuple xs] => some (.pu (.tuple xs))
  | .list1, [.list xs] => some (.fr xs)
  | .list1, [.tuple xs] => some (.fr xs)
  | .all1, [.list xs] => (boolsOf xs).map fun bs => .pu (.bool (bs.all id))
  | .any1, [.list xs] => (boolsOf xs).map fun bs => .pu (.bool (bs.any id))
  | .sum1, [.list xs] => (intsOf xs).map fun ns => .pu (.int ns.sum)
  | .sum1, [.tuple xs] => (intsOf xs).map fun ns => .pu (.int ns.sum)
  | .sorted1, [.list xs] => (sortV xs).map .fr
  | .repr1, [d] => if reprOk d then some (.pu (.str d.shown)) else none
  | .gcd2, [.int i, .int j] => some (.pu (.int ((Nat.gcd i.natAbs j.natAbs : Nat) : Int)))
  | .divmod2, [.int i, .int j] => if decide (0 < j) && decide (j < 1073741824) then some (.pu (.tuple [.int (i / j), .int (i % j)])) else none
  | _, _ => none

def rngOk (a b : Int) : Bool := decide (-4611686018427387904 ≤ a) && decide (a < 4611686018427387904) && decide (-4611686018427387904 ≤ b) && decide (b < 4611686018427387904)
/-- lo, lo + 1, .. n of them -/
def ups (lo : Int) : Nat → List D
  | 0 => []
  | n + 1 => .int lo :: ups (lo + 1) n
def rngV : D → D → Option (List D)
  | .int a, .int b => if rngOk a b then some (ups a (b - a).toNat) else none
  | _, _ => none
def enuL (k : Nat) : List D → List D
  | [] => []
  | d :: r => .tuple [.int k, d] :: enuL (k + 1) r
def seqV : D → Option (List D)
  | .list xs => some xs
  | .tuple xs => some xs
  | _ => none
def zipL : List D → List D → List D
  | a :: r, b :: s => .tuple [a, b] :: zipL r s
  | _, _ => []
def zipV : D → D → Option (List D)
  | .list xs, .list ys => some (zipL xs ys)
  | .tuple xs, .tuple ys => some (zipL xs ys)
  | _, _ => none

/-! ### slots -/
def slv (d : D) : Sl := .val d
def putv (env : Ev) (i : Nat) (s : Sl) : Option Ev := if Nat.blt i env.length then some (env.set i s) else none
def wipeE (env : Ev) : List Nat → Ev
  | [] => env
  | i :: is => (wipeE env is).set i .emp
def valOnly : Option Sl → Sl
  | some (.val d) => .val d
  | _ => .emp
/-- the slots of a comprehension's own names as they were (values alone) -/
def backE (env0 : Ev) (env : Ev) : List Nat → Ev
  | [] => env
  | i :: is => (backE env0 env is).set i (valOnly env0[i]?)
/-- while an own list is walked, no own list can be touched; the one that is walked is a value -/
def mskS : Sl → Sl
  | .own _ _ => .emp
  | .dic _ => .emp
  | s => s
def mskE (env : Ev) (i : Nat) (xs : List D) : Ev := (env.map mskS).set i (.val (.list xs))
def lwV (env : Ev) (own : List Nat) : Option (List D × Ev) → Option (Opd × Ev)
  | none => none
  | some (ys, _) => if lenOk ys.length && scls ys then some (.fr ys, backE env env own) else none
def distinct : List (Option Nat) → Bool
  | [] => true
  | i :: r => !r.contains i && distinct r
/-- the lists handed in: the slots that hold them, or none's -/
def iosOf (env : Ev) : List Opd → List (Option Nat)
  | [] => []
  | .bo i :: r => (match env[i]? with | some (.own _ _) => some i :: iosOf env r | _ => iosOf env r)
  | .fo _ :: r => none :: iosOf env r
  | _ :: r => iosOf env r
def arOf (env : Ev) : Opd → Option Ar
  | .pu d => some (.pu d)
  | .fr xs => some (.pu (.list xs))
  | .bo i => match env[i]? with
    | some (.own _ xs) => some (.io xs)
    | some (.scr _ xs) => some (.sc xs)
    | _ => none
  | .fo xs => some (.io xs)
  | .fd _ => none
def arsOf (env : Ev) : List Opd → Option (List Ar)
  | [] => some []
  | o :: r => match arOf env o, arsOf env r with
    | some a, some s => some (a :: s)
    | _, _ => none
def backOut (env : Ev) : List (Option Nat) → List (List D) → Option Ev
  | [], [] => some env
  | none :: is, _ :: xss => backOut env is xss
  | some i :: is, xs :: xss => match env[i]? with
    | some (.own t _) => backOut (env.set i (.own t xs)) is xss
    | _ => none
  | _, _ => none
def pick {α : Type} (os : List α) : List Nat → Option (List α)
  | [] => some []
  | p :: ps => match os[p]?, pick os ps with
    | some o, some r => some (o :: r)
    | _, _ => none
def rvO : Rv → Opd
  | .pu d => .pu d
  | .fr xs => .fr xs
def callO (F : FT) (f : Nat) (os : List Opd) (env : Ev) : Option (Opd × Ev) :=
  match arsOf env os with
  | none => none
  | some as => if distinct (iosOf env os) then
      match F f as with
      | none => none
      | some (rv, outs) => match backOut env (iosOf env os) outs with
        | none => none
        | some env' => some (rvO rv, env')
    else none

def setAt (env : Ev) (i : Nat) (k d : D) : Option Ev := match env[i]?, k with
  | some (.own t xs), .int j => match L2.ixN xs.length j with
    | some m => some (env.set i (.own t (xs.set m d)))
    | none => none
  | _, _ => none
def mthV (m : Mth) (env : Ev) (i : Nat) (os : List Opd) : Option (Opd × Ev) := match env[i]? with
  | some (.own t xs) => match m, os with
    | .append, [o] => match frzd o with
      | some d => if Nat.blt xs.length 16777216 then some (.pu .none, env.set i (.own t (xs ++ [d]))) else none
      | none => none
    | .extend, [o] => match frzd o with
      | some (.list ys) => if lenOk (xs.length + ys.length) then some (.pu .none, env.set i (.own t (xs ++ ys))) else none
      | _ => none
    | .pop0, [] => match xs[xs.length - 1]? with
      | some d => some (.pu d, env.set i (.own t xs.dropLast))
      | none => none
    | .pop1, [.pu (.int k)] => if decide (-9223372036854775808 ≤ k) && decide (k < 9223372036854775808) then match L2.ixN xs.length k with
        | some n => match xs[n]? with
          | some d => some (.pu d, env.set i (.own t (xs.eraseIdx n)))
          | none => none
        | none => none
      else none
    | .insert, [.pu (.int k), o] => match frzd o with
      | some d => if decide (0 ≤ k) && decide (k ≤ xs.length) && Nat.blt xs.length 16777216 then some (.pu .none, env.set i (.own t (xs.take k.toNat ++ d :: xs.drop k.toNat))) else none
      | none => none
    | _, _ => none
  | _ => none

/-! ### loops -/
inductive Fl where
  | nx (e : Ev) | rt (o : Opd) (e : Ev) | bk (e : Ev) | ct (e : Ev)
def lcLoop (st : D → Ev → Option Ev) (ts : Ev → Option (Bool × Ev)) (el : Ev → Option (D × Ev)) (own : List Nat) : List D → Ev → Option (List D × Ev)
  | [], env => some ([], env)
  | d :: ds, env => match st d env with
    | none => none
    | some e1 => match ts e1 with
      | none => none
      | some (false, e2) => lcLoop st ts el own ds (wipeE e2 own)
      | some (true, e2) => match el e2 with
        | none => none
        | some (x, e3) => match lcLoop st ts el own ds (wipeE e3 own) with
          | none => none
          | some (xs, e4) => some (x :: xs, e4)
def foLoop (st : D → Ev → Option Ev) (bd : Ev → Option Fl) : List D → Ev → Option Fl
  | [], env => some (.nx env)
  | d :: ds, env => match st d env with
    | none => none
    | some e1 => match bd e1 with
      | some (.nx e2) => foLoop st bd ds e2
      | some (.ct e2) => foLoop st bd ds e2
      | some (.bk e2) => some (.nx e2)
      | some (.rt o e2) => some (.rt o e2)
      | none => none
def whLoop (ts : Ev → Option (Bool × Ev)) (bd : Ev → Option Fl) : Nat → Ev → Option Fl
  | 0, _ => none
  | n + 1, env => match ts env with
    | none => none
    | some (false, e1) => some (.nx e1)
    | some (true, e1) => match bd e1 with
      | some (.nx e2) => whLoop ts bd n e2
      | some (.ct e2) => whLoop ts bd n e2
      | some (.bk e2) => some (.nx e2)
      | some (.rt o e2) => some (.rt o e2)
      | none => none
mutual
/-- the names that a target stores -/
def tgS : IT → List Nat
  | .nm i => [i]
  | .tp ts => tgSs ts
  | .sub _ _ => []
def tgSs : ITs → List Nat
  | .nil => []
  | .cons t ts => tgS t ++ tgSs ts
end
mutual
def noSub : IT → Bool
  | .nm _ => true
  | .tp ts => noSubs ts
  | .sub _ _ => false
def noSubs : ITs → Bool
  | .nil => true
  | .cons t ts => noSub t && noSubs ts
end

def frzE : Option (Opd × Ev) → Option (D × Ev)
  | none => none
  | some (o, e) => match frzd o with
    | some d => some (d, e)
    | none => none
def lcV (st : D → Ev → Option Ev) (ts : Ev → Option (Bool × Ev)) (el : Ev → Option (D × Ev)) (own : List Nat) : Option (List D × Ev) → Option (Opd × Ev)
  | none => none
  | some (ds, e1) => match lcLoop st ts el own ds (wipeE e1 own) with
    | none => none
    | some (xs, e2) => if lenOk xs.length then some (.fr xs, backE e1 e2 own) else none
mutual
/-- an expression -/
def evE (F : FT) (C : List D) : IE → Ev → Option (Opd × Ev)
  | .var i, env => match env[i]? with
    | some (.val d) => some (.pu d, env)
    | some (.own _ _) => some (.bo i, env)
    | some (.scr _ _) => some (.bo i, env)
    | some (.dic _) => some (.bo i, env)
    | _ => none
  | .frz i, env => match env[i]? with
    | some (.val d) => some (.pu d, env)
    | some (.own 0 xs) => some (.pu (.list xs), env.set i (.val (.list xs)))
    | some (.dic kvs) => some (.pu (.dict kvs), env.set i (.val (.dict kvs)))
    | _ => none
  | .cst d, env => some (.pu d, env)
  | .glo n, env => match C[n]? with
    | some d => some (.pu d, env)
    | none => none
  | .bin o a b, env => match evE F C a env with
    | none => none
    | some (x, e1) => match evE F C b e1 with
      | none => none
      | some (y, e2) => match rdp e2 x, rdp e2 y with
        | some p, some q => (binV o p q).map (·, e2)
        | _, _ => none
  | .neg a, env => match evE F C a env with
    | some (.pu d, e1) => (negV d).map fun r => (.pu r, e1)
    | _ => none
  | .cmp o a b, env => match evE F C a env with
    | none => none
    | some (x, e1) => match evE F C b e1 with
      | none => none
      | some (y, e2) => match rds e2 x, rds e2 y with
        | some p, some q => (cmpV o p q).map fun r => (.pu (.bool r), e2)
        | _, _ => none
  | .chn o o' a b c, env => match evE F C a env with
    | none => none
    | some (x, e1) => match evE F C b e1 with
      | none => none
      | some (y, e2) => match rds e2 x, rds e2 y with
        | some p, some q => match cmpV o p q with
          | none => none
          | some false => some (.pu (.bool false), e2)
          | some true => match evE F C c e2 with
            | none => none
            | some (z, e3) => match rds e3 y, rds e3 z with
              | some q', some r => (cmpV o' q' r).map fun k => (.pu (.bool k), e3)
              | _, _ => none
        | _, _ => none
  | .and2 a b, env => match evE F C a env with
    | some (.pu (.bool true), e1) => evE F C b e1
    | some (.pu (.bool false), e1) => some (.pu (.bool false), e1)
    | _ => none
  | .or2 a b, env => match evE F C a env with
    | some (.pu (.bool false), e1) => evE F C b e1
    | some (.pu (.bool true), e1) => some (.pu (.bool true), e1)
    | _ => none
  | .nt a, env => match evE F C a env with
    | some (.pu (.bool b), e1) => some (.pu (.bool (!b)), e1)
    | _ => none
  | .ite c a b, env => match evE F C c env with
    | some (.pu (.bool true), e1) => evE F C a e1
    | some (.pu (.bool false), e1) => evE F C b e1
    | _ => none
  | .tup es, env => match evP F C es env with
    | some (ds, e1) => if lenOk ds.length then some (.pu (.tuple ds), e1) else none
    | none => none
  | .lst es, env => match evP F C es env with
    | some (ds, e1) => if lenOk ds.length then some (.fr ds, e1) else none
    | none => none
  | .idx a i, env => match evE F C a env with
    | none => none
    | some (x, e1) => match evE F C i e1 with
      | some (.pu k, e2) => match rds e2 x with
        | some d => (idxV d k).map fun r => (.pu r, e2)
        | none => none
      | _ => none
  | .slc a lo hi, env => match evE F C a env with
    | none => none
    | some (x, e1) => match evO F C lo e1 with
      | none => none
      | some (l, e2) => match evO F C hi e2 with
        | none => none
        | some (h, e3) => match rds e3 x with
          | some d => (slcV d l h).map (·, e3)
          | none => none
  | .rev a, env => match evE F C a env with
    | none => none
    | some (x, e1) => match rds e1 x with
      | some d => (revV d).map (·, e1)
      | none => none
  | .call f es, env => match evA F C es env with
    | none => none
    | some (os, e1) => callO F f os e1
  | .callk f p es, env => match evA F C es env with
    | none => none
    | some (os, e1) => match pick os p with
      | some os' => callO F f os' e1
      | none => none
  | .blt b es, env => match evA F C es env with
    | none => none
    | some (os, e1) => match rdsAll e1 os with
      | some ds => (bltV b ds).map (·, e1)
      | none => none
  | .isi a ts, env => match evE F C a env with
    | none => none
    | some (x, e1) => match rdp e1 x with
      | some d => some (.pu (.bool (ts.any fun t => tyIs t d)), e1)
      | none => none
  | .lrg lo hi, env => match evE F C lo env with
    | some (.pu a, e1) => match evE F C hi e1 with
      | some (.pu b, e2) => match rngV a b with
        | some xs => if lenOk xs.length then some (.fr xs, e2) else none
        | none => none
      | _ => none
    | _ => none
  | .trg lo hi, env => match evE F C lo env with
    | some (.pu a, e1) => match evE F C hi e1 with
      | some (.pu b, e2) => match rngV a b with
        | some xs => if lenOk xs.length then some (.pu (.tuple xs), e2) else none
        | none => none
      | _ => none
    | _ => none
  | .lc elt tg it cd own, env => lcV (fun d e => asgT F C tg d e) (fun e => evD F C cd e) (fun e => frzE (evE F C elt e)) own (evI F C it env)
  | .mth m i es, env => match env[i]? with
    | some (.own _ _) => match evA F C es env with
      | none => none
      | some (os, e1) => mthV m e1 i os
    | _ => none
  | .rpr es, env => match evA F C es env with
    | none => none
    | some (os, e1) => match rdsAll e1 os with
      | some ds => if lenOk ds.length && reprOk (.list ds) then some (.pu (.str (PyData.shown (.list ds))), e1) else none
      | none => none
  | .giv e, env => match evE F C e env with
    | some (.fr xs, e1) => some (.fo xs, e1)
    | _ => none
  | .dnw, env => some (.fd [], env)
  | .ds1 k v, env => match evE F C k env with
    | some (.pu p, e1) => match evE F C v e1 with
      | none => none
      | some (o, e2) => match frzd o with
        | none => none
        | some d => if isKey p then some (.fd [(p, d)], e2) else none
    | _ => none
  | .dof a, env => match evE F C a env with
    | none => none
    | some (o, e1) => match frzd o with
      | none => none
      | some d => match seqV d with
        | none => none
        | some xs => match prsOf xs with
          | some kvs => if lenOk kvs.length then some (.fd (kmrg [] kvs), e1) else none
          | none => none
  | .dix a k, env => match evE F C a env with
    | none => none
    | some (x, e1) => match evE F C k e1 with
      | some (.pu p, e2) => match rds e2 x with
        | some (.dict kvs) => if isKey p then (kget kvs p).map fun r => (.pu r, e2) else none
        | _ => none
      | _ => none
  | .din n a b, env => match evE F C a env with
    | some (.pu p, e1) => match evE F C b e1 with
      | none => none
      | some (y, e2) => match rds e2 y with
        | some (.dict kvs) => if isKey p then some (.pu (.bool (khas kvs p != n)), e2) else none
        | _ => none
    | _ => none
  | .dgt a k d, env => match evE F C a env with
    | some (.pu (.dict kvs), e1) => match evE F C k e1 with
      | some (.pu p, e2) => match evE F C d e2 with
        | some (.pu q, e3) => if isKey p then some (.pu ((kget kvs p).getD q), e3) else none
        | _ => none
      | _ => none
    | _ => none
  | .lset a, env => match evE F C a env with
    | none => none
    | some (x, e1) => match rds e1 x with
      | some (.list xs) => match intsOf xs with
        | some ns => if Nat.ble ns.length 4000 then some (.pu (.int (dedup [] ns).length), e1) else none
        | none => none
      | _ => none
  | .sset a, env => match evE F C a env with
    | none => none
    | some (x, e1) => match rds e1 x with
      | some (.list xs) => match intsOf xs with
        | some ns => if Nat.ble ns.length 60 then some (.fr ((isort (fun a b : Int => decide (a ≤ b)) (dedup [] ns)).map .int), e1) else none
        | none => none
      | _ => none
  | .lw i elt tg cd own, env => match env[i]? with
    | some (.own _ xs) => lwV env own (lcLoop (fun d e => asgT F C tg d e) (fun e => evD F C cd e) (fun e => frzE (evE F C elt e)) own xs (wipeE (mskE env i xs) own))
    | _ => none
/-- an optional int -/
def evO (F : FT) (C : List D) : IO → Ev → Option (Option Int × Ev)
  | .non, env => some (none, env)
  | .som e, env => match evE F C e env with
    | some (.pu (.int i), e1) => some (some i, e1)
    | _ => none
/-- a comprehension's test -/
def evD (F : FT) (C : List D) : IO → Ev → Option (Bool × Ev)
  | .non, env => some (true, env)
  | .som e, env => match evE F C e env with
    | some (.pu (.bool b), e1) => some (b, e1)
    | _ => none
/-- items, each a value from now on -/
def evP (F : FT) (C : List D) : IEs → Ev → Option (List D × Ev)
  | .nil, env => some ([], env)
  | .cons e es, env => match evE F C e env with
    | none => none
    | some (o, e1) => match frzd o with
      | none => none
      | some d => match evP F C es e1 with
        | none => none
        | some (ds, e2) => some (d :: ds, e2)
/-- arguments -/
def evA (F : FT) (C : List D) : IEs → Ev → Option (List Opd × Ev)
  | .nil, env => some ([], env)
  | .cons e es, env => match evE F C e env with
    | none => none
    | some (o, e1) => match evA F C es e1 with
      | none => none
      | some (os, e2) => some (thaw o :: os, e2)
/-- what is walked -/
def evI (F : FT) (C : List D) : II → Ev → Option (List D × Ev)
  | .it a, env => match evE F C a env with
    | none => none
    | some (o, e1) => match frzd o with
      | none => none
      | some d => (seqV d).map (·, e1)
  | .rng lo hi, env => match evE F C lo env with
    | some (.pu a, e1) => match evE F C hi e1 with
      | some (.pu b, e2) => (rngV a b).map (·, e2)
      | _ => none
    | _ => none
  | .enu a, env => match evE F C a env with
    | none => none
    | some (o, e1) => match frzd o with
      | none => none
      | some d => (seqV d).map fun xs => (enuL 0 xs, e1)
  | .zip a b, env => match evE F C a env with
    | none => none
    | some (x, e1) => match frzd x with
      | none => none
      | some p => match evE F C b e1 with
        | none => none
        | some (y, e2) => match frzd y with
          | none => none
          | some q => (zipV p q).map (·, e2)
  | .dks a, env => match evE F C a env with
    | none => none
    | some (o, e1) => match frzd o with
      | some (.dict kvs) => some (kvs.map (·.1), e1)
      | _ => none
/-- a value stored -/
def asgT (F : FT) (C : List D) : IT → D → Ev → Option Ev
  | .nm i, d, env => putv env i (.val d)
  | .tp ts, .tuple ds, env => asgTs F C ts ds env
  | .tp ts, .list ds, env => asgTs F C ts ds env
  | .tp _, _, _ => none
  | .sub i e, d, env => match env[i]? with
    | some (.own _ _) => match evE F C e env with
      | some (.pu k, e1) => setAt e1 i k d
      | _ => none
    | _ => none
def asgTs (F : FT) (C : List D) : ITs → List D → Ev → Option Ev
  | .nil, [], env => some env
  | .cons t ts, d :: ds, env => match asgT F C t d env with
    | none => none
    | some e1 => asgTs F C ts ds e1
  | _, _, _ => none
end

/-- a new list, or a value, as slot i is to hold it -/
def slotOf (own : Bool) : Opd → Option Sl
  | .fr xs => some (if own then .own 0 xs else .val (.list xs))
  | .pu d => if own then none else some (.val d)
  | .fd kvs => some (if own then .dic kvs else .val (.dict kvs))
  | .bo _ => none
  | .fo _ => none
mutual
def evS (F : FT) (C : List D) : IS → Ev → Option Fl
  | .asg t e, env => match evE F C e env with
    | none => none
    | some (o, e1) => match frzd o with
      | none => none
      | some d => (asgT F C t d e1).map .nx
  | .own i e, env => match evE F C e env with
    | some (.fr xs, e1) => (putv e1 i (.own 0 xs)).map .nx
    | some (.fd kvs, e1) => (putv e1 i (.dic kvs)).map .nx
    | some (.pu d, e1) => (putv e1 i (.val d)).map .nx
    | _ => none
  | .par2 i j u v a b, env => match evE F C a env with
    | none => none
    | some (x, e1) => match slotOf u x with
      | none => none
      | some s => match evE F C b e1 with
        | none => none
        | some (y, e2) => match slotOf v y with
          | none => none
          | some r => match putv e2 i s with
            | none => none
            | some e3 => (putv e3 j r).map .nx
  | .par3 i j l u v w a b c, env => match evE F C a env with
    | none => none
    | some (x, e1) => match slotOf u x with
      | none => none
      | some s => match evE F C b e1 with
        | none => none
        | some (y, e2) => match slotOf v y with
          | none => none
          | some r => match evE F C c e2 with
            | none => none
            | some (z, e3) => match slotOf w z with
              | none => none
              | some q => match putv e3 i s with
                | none => none
                | some e4 => match putv e4 j r with
                  | none => none
                  | some e5 => (putv e5 l q).map .nx
  | .ex e, env => match evE F C e env with
    | none => none
    | some (_, e1) => some (.nx e1)
  | .ret e, env => match evE F C e env with
    | none => none
    | some (o, e1) => some (.rt o e1)
  | .ite c a b, env => match evE F C c env with
    | some (.pu (.bool true), e1) => evSs F C a e1
    | some (.pu (.bool false), e1) => evSs F C b e1
    | _ => none
  | .fo t it b, env => if noSub t then match evI F C it env with
      | none => none
      | some (ds, e1) => foLoop (fun d e => asgT F C t d e) (fun e => evSs F C b e) ds e1
    else none
  | .wh c b, env => whLoop (fun e => match evE F C c e with
      | some (.pu (.bool k), e1) => some (k, e1)
      | _ => none) (fun e => evSs F C b e) 1000000 env
  | .pass, env => some (.nx env)
  | .brk, env => some (.bk env)
  | .cnt, env => some (.ct env)
  | .nev, _ => none
  | .dpt i k e, env => match evE F C e env with
    | none => none
    | some (o, e1) => match frzd o with
      | none => none
      | some d => match e1[i]? with
        | some (.dic _) => match evE F C k e1 with
          | some (.pu p, e2) => match e2[i]? with
            | some (.dic kvs) => if isKey p && Nat.blt kvs.length 16777216 then some (.nx (e2.set i (.dic (kput kvs p d)))) else none
            | _ => none
          | _ => none
        | _ => none
def evSs (F : FT) (C : List D) : ISs → Ev → Option Fl
  | .nil, env => some (.nx env)
  | .cons s ss, env => match evS F C s env with
    | some (.nx e1) => evSs F C ss e1
    | r => r
end

/-! ### defs -/
structure Fn where
  np : Nat
  ns : Nat
  body : ISs
def slOf : Nat → List Ar → Ev
  | _, [] => []
  | t, .pu d :: r => .val d :: slOf (t + 1) r
  | t, .io xs :: r => .own (t + 1) xs :: slOf (t + 1) r
  | t, .sc xs :: r => .scr (t + 1) xs :: slOf (t + 1) r
def outsOf (env : Ev) : Nat → List Ar → Option (List (List D))
  | _, [] => some []
  | t, .io _ :: r => match env[t]?, outsOf env (t + 1) r with
    | some (.own u xs), some xss => if u = t + 1 then some (xs :: xss) else none
    | _, _ => none
  | t, _ :: r => outsOf env (t + 1) r
def rvOf (env : Ev) : Opd → Option Rv
  | .pu d => some (.pu d)
  | .fr xs => some (.fr xs)
  | .bo i => match env[i]? with
    | some (.own 0 xs) => some (.fr xs)
    | _ => none
  | .fo _ => none
  | .fd _ => none
def finF (as : List Ar) : Fl → Option Rt
  | .nx e => match outsOf e 0 as with
    | some os => some (.pu .none, os)
    | none => none
  | .rt o e => match rvOf e o, outsOf e 0 as with
    | some r, some os => some (r, os)
    | _, _ => none
  | _ => none
def runF (F : FT) (C : List D) (fn : Fn) (as : List Ar) : Option Rt :=
  if as.length = fn.np then match evSs F C fn.body (slOf 0 as ++ List.replicate (fn.ns - fn.np) .emp) with
    | some r => finF as r
    | none => none
  else none
def callN (C : List D) (T : List Fn) : Nat → FT
  | 0, _, _ => none
  | k + 1, f, as => match T[f]? with
    | some fn => runF (callN C T k) C fn as
    | none => none
end Rf

set_option Elab.async false
set_option linter.all false
set_option maxRecDepth 100000
set_option maxHeartbeats 4000000
namespace Rf
open PySem PySem.Spec PyProof.Rows L2

/-! ### values and what stands for them -/
mutual
inductive Pu (K : PySem.W.Frag) (G : Hp) : D → V → Prop
  | non : Pu K G .none .non
  | bl (b : Bool) : Pu K G (.bool b) (.bl b)
  | int (i : Int) : Pu K G (.int i) (.int i)
  | str (x : Str) : Pu K G (.str x) (.str x)
  | lst {a : Addr} {ys : List V} {ds : List D} : G a = some (.lst ys) → PuA K G ds ys → Pu K G (.list ds) (.ref a)
  | tup {a : Addr} {ys : List V} {ds : List D} : SqT K G a ys → PuA K G ds ys → Pu K G (.tuple ds) (.ref a)
  | dic {a : Addr} {qs : List (Key × V)} {kvs : List (D × D)} : G a = some (.dK qs) → PuK K G kvs qs → Pu K G (.dict kvs) (.ref a)
inductive PuA (K : PySem.W.Frag) (G : Hp) : List D → List V → Prop
  | nil : PuA K G [] []
  | cons {d : D} {v : V} {ds : List D} {vs : List V} : Pu K G d v → PuA K G ds vs → PuA K G (d :: ds) (v :: vs)
inductive PuK (K : PySem.W.Frag) (G : Hp) : List (D × D) → List (Key × V) → Prop
  | nil : PuK K G [] []
  | cons {p d : D} {k : Key} {v : V} {ds : List (D × D)} {vs : List (Key × V)} : keyD p = some k → Pu K G d v → PuK K G ds vs → PuK K G ((p, d) :: ds) ((k, v) :: vs)
end

abbrev Sub (G H : Hp) : Prop := ∀ a o, G a = some o → H a = some o
theorem Sub.refl (G : Hp) : Sub G G := fun _ _ e => e
theorem Sub.trans {G H J : Hp} (a : Sub G H) (b : Sub H J) : Sub G J := fun x o e => b x o (a x o e)
theorem sqT_sub {K : PySem.W.Frag} {G H : Hp} (s : Sub G H) {a : Addr} {ys : List V} (h : SqT K G a ys) : SqT K H a ys := by
  rcases h with (h | ⟨o, h⟩) | h
  · exact .inl (.inl (s _ _ h))
  · exact .inl (.inr ⟨o, s _ _ h⟩)
  · exact .inr h
section
variable {K : PySem.W.Frag} {G H : Hp}
mutual
theorem Pu.mono (s : Sub G H) : ∀ {d : D} {v : V}, Pu K G d v → Pu K H d v
  | _, _, .non => .non
  | _, _, .bl b => .bl b
  | _, _, .int i => .int i
  | _, _, .str x => .str x
  | _, _, .lst e r => .lst (s _ _ e) (PuA.mono s r)
  | _, _, .tup e r => .tup (sqT_sub s e) (PuA.mono s r)
  | _, _, .dic e r => .dic (s _ _ e) (PuK.mono s r)
theorem PuA.mono (s : Sub G H) : ∀ {ds : List D} {vs : List V}, PuA K G ds vs → PuA K H ds vs
  | _, _, .nil => .nil
  | _, _, .cons a b => .cons (Pu.mono s a) (PuA.mono s b)
theorem PuK.mono (s : Sub G H) : ∀ {ds : List (D × D)} {vs : List (Key × V)}, PuK K G ds vs → PuK K H ds vs
  | _, _, .nil => .nil
  | _, _, .cons e a b => .cons e (Pu.mono s a) (PuK.mono s b)
end
mutual
theorem Pu.dp : ∀ {d : D} {v : V}, d.hasDict = false → Pu K G d v → Dp K G v d
  | _, _, _, .non => .non
  | _, _, _, .bl b => .bl b
  | _, _, _, .int i => .int i
  | _, _, _, .str x => .str x
  | _, _, h, .lst e r => .lst (SqL.of e) (PuA.dp (by simpa only [PyData.hasDict] using h) r)
  | _, _, h, .tup e r => .tup e (PuA.dp (by simpa only [PyData.hasDict] using h) r)
  | _, _, h, .dic e r => by simp only [PyData.hasDict] at h; cases h
theorem PuA.dp : ∀ {ds : List D} {vs : List V}, PyData.hasDictAll ds = false → PuA K G ds vs → DpAll K G vs ds
  | _, _, _, .nil => .nil
  | _, _, h, .cons a b => by
    simp only [PyData.hasDictAll, Bool.or_eq_false_iff] at h
    exact .cons (Pu.dp h.1 a) (PuA.dp h.2 b)
end
theorem PuK.length : ∀ {ds : List (D × D)} {vs : List (Key × V)}, PuK K G ds vs → ds.length = vs.length
  | _, _, .nil => rfl
  | _, _, .cons _ _ b => congrArg Nat.succ (PuK.length b)
theorem PuA.length : ∀ {ds : List D} {vs : List V}, PuA K G ds vs → ds.length = vs.length
  | _, _, .nil => rfl
  | _, _, .cons _ b => congrArg Nat.succ (PuA.length b)
theorem PuA.get : ∀ {ds : List D} {vs : List V} {i : Nat} {d : D}, PuA K G ds vs → ds[i]? = some d → ∃ v, vs[i]? = some v ∧ Pu K G d v
  | _, _, _, _, .nil, e => by simp at e
  | _, _, 0, _, .cons a _, e => by simp at e; subst e; exact ⟨_, rfl, a⟩
  | _, _, i + 1, _, .cons _ b, e => by
    obtain ⟨v, h1, h2⟩ := PuA.get (i := i) b (by simpa using e)
    exact ⟨v, by simpa using h1, h2⟩
theorem PuA.getv : ∀ {ds : List D} {vs : List V} {i : Nat} {v : V}, PuA K G ds vs → vs[i]? = some v → ∃ d, ds[i]? = some d ∧ Pu K G d v
  | _, _, _, _, .nil, e => by simp at e
  | _, _, 0, _, .cons a _, e => by simp at e; subst e; exact ⟨_, rfl, a⟩
  | _, _, i + 1, _, .cons _ b, e => by
    obtain ⟨v, h1, h2⟩ := PuA.getv (i := i) b (by simpa using e)
    exact ⟨v, by simpa using h1, h2⟩
theorem PuA.append : ∀ {ds es : List D} {vs ws : List V}, PuA K G ds vs → PuA K G es ws → PuA K G (ds ++ es) (vs ++ ws)
  | _, _, _, _, .nil, s => s
  | _, _, _, _, .cons a b, s => .cons a (PuA.append b s)
theorem PuA.take : ∀ {ds : List D} {vs : List V} (n : Nat), PuA K G ds vs → PuA K G (ds.take n) (vs.take n)
  | _, _, 0, _ => .nil
  | _, _, _ + 1, .nil => .nil
  | _, _, n + 1, .cons a b => .cons a (PuA.take n b)
theorem PuA.drop : ∀ {ds : List D} {vs : List V} (n : Nat), PuA K G ds vs → PuA K G (ds.drop n) (vs.drop n)
  | _, _, 0, r => r
  | _, _, _ + 1, .nil => .nil
  | _, _, n + 1, .cons _ b => PuA.drop n b
theorem PuA.set {d : D} {v : V} (r : Pu K G d v) : ∀ {ds : List D} {vs : List V} (i : Nat), PuA K G ds vs → PuA K G (ds.set i d) (vs.set i v)
  | _, _, _, .nil => .nil
  | _, _, 0, .cons _ b => .cons r b
  | _, _, i + 1, .cons a b => .cons a (PuA.set r i b)
theorem PuA.eraseIdx : ∀ {ds : List D} {vs : List V} (i : Nat), PuA K G ds vs → PuA K G (ds.eraseIdx i) (vs.eraseIdx i)
  | _, _, _, .nil => .nil
  | _, _, 0, .cons _ b => b
  | _, _, i + 1, .cons a b => .cons a (PuA.eraseIdx i b)
theorem PuA.dropLast {ds : List D} {vs : List V} (h : PuA K G ds vs) : PuA K G ds.dropLast vs.dropLast := by
  rw [List.dropLast_eq_take, List.dropLast_eq_take, h.length]
  exact PuA.take _ h
theorem PuA.reverse : ∀ {ds : List D} {vs : List V}, PuA K G ds vs → PuA K G ds.reverse vs.reverse
  | _, _, .nil => .nil
  | _, _, .cons a b => by
    rw [List.reverse_cons, List.reverse_cons]
    exact PuA.append (PuA.reverse b) (.cons a .nil)
theorem PuA.rep {ds : List D} {vs : List V} (h : PuA K G ds vs) : ∀ k : Nat, PuA K G (repL k ds) (List.replicate k vs).flatten
  | 0 => .nil
  | k + 1 => by
    rw [List.replicate_succ, List.flatten_cons]
    exact PuA.append h (PuA.rep h k)
theorem repL_length (ds : List D) : ∀ k, (repL k ds).length = k * ds.length
  | 0 => by simp [repL]
  | k + 1 => by simp only [repL, List.length_append, repL_length ds k]; rw [Nat.succ_mul, Nat.add_comm]
end

/-! ### the slots -/
/-- what the def's entry told: the addresses of the lists handed in, the heap -/
structure Gam where
  τ : Nat → Addr
  h0 : Hp

def ScrR (K : PySem.W.Frag) (H : Hp) (a : Addr) (ys : List V) : Prop := (∃ o, H a = some (.frz o (.lst ys))) ∨ ∀ H' : Hp, SqL K H' a ys
theorem ScrR.sq {K : PySem.W.Frag} {H : Hp} {a : Addr} {ys : List V} (h : ScrR K H a ys) : SqL K H a ys := by
  rcases h with ⟨o, h⟩ | h
  · exact .inl (.inr ⟨o, h⟩)
  · exact h H
def SlotR (K : PySem.W.Frag) (γ : Gam) (G H : Hp) (x : Option (Option V)) : Sl → Prop
  | .emp => True
  | .val d => ∃ v, x = some (some v) ∧ Pu K G d v
  | .own t xs => ∃ a ys, x = some (some (.ref a)) ∧ G a = none ∧ H a = some (.lst ys) ∧ PuA K G xs ys ∧ (t = 0 → γ.h0 a = none) ∧ (t ≠ 0 → a = γ.τ t)
  | .scr t xs => ∃ a ys, x = some (some (.ref a)) ∧ ScrR K H a ys ∧ PuA K G xs ys
  | .dic kvs => ∃ a qs, x = some (some (.ref a)) ∧ G a = none ∧ H a = some (.dK qs) ∧ PuK K G kvs qs ∧ γ.h0 a = none
def isOwn : Sl → Bool
  | .own _ _ => true
  | .dic _ => true
  | _ => false
/-- slot i holds a list, or a dict, at a -/
def OwnAt (env : Ev) (σ : L2.St) (i : Nat) (a : Addr) : Prop := (∃ s, env[i]? = some s ∧ isOwn s = true) ∧ σ[i]? = some (some (.ref a))
def Ow (env : Ev) (σ : L2.St) (a : Addr) : Prop := ∃ i, OwnAt env σ i a

structure Sr (K : PySem.W.Frag) (γ : Gam) (G H : Hp) (env : Ev) (σ : L2.St) : Prop where
  sub : Sub G H
  len : env.length = σ.length
  slot : ∀ (i : Nat) (s : Sl), env[i]? = some s → SlotR K γ G H (σ[i]?) s
  inj : ∀ i j a, OwnAt env σ i a → OwnAt env σ j a → i = j

/-- from one moment to a later one: what was told stays, what no slot held is as it was -/
structure Step (O : Addr → Prop) (G H : Hp) (O' : Addr → Prop) (G' H' : Hp) : Prop where
  g : Sub G G'
  h : ∀ a o, H a = some o → ¬ O a → H' a = some o
  n : ∀ a, H a ≠ none → G a = none → ¬ O a → G' a = none
  f : ∀ a, H a ≠ none → H' a ≠ none
  o : ∀ a, O' a → O a ∨ H a = none
section
variable {O O1 O2 : Addr → Prop} {G H G1 H1 G2 H2 : Hp}
theorem Step.refl : Step O G H O G H := ⟨Sub.refl G, fun _ _ e _ => e, fun _ _ e _ => e, fun _ e => e, fun _ h => .inl h⟩
theorem Step.trans (a : Step O G H O1 G1 H1) (b : Step O1 G1 H1 O2 G2 H2) : Step O G H O2 G2 H2 := by
  have key : ∀ x, H x ≠ none → ¬ O x → ¬ O1 x := fun x hx ho h1 => (a.o x h1).elim ho hx
  refine ⟨a.g.trans b.g, fun x o e ho => ?_, fun x hx hg ho => ?_, fun x hx => b.f x (a.f x hx), fun x h2 => ?_⟩
  · exact b.h x o (a.h x o e ho) (key x (by rw [e]; simp) ho)
  · exact b.n x (a.f x hx) (a.n x hx hg ho) (key x hx ho)
  · rcases b.o x h2 with h1 | h1
    · exact a.o x h1
    · refine .inr ?_
      cases q : H x with
      | none => rfl
      | some u => exact absurd h1 (a.f x (by rw [q]; simp))
end

section
variable {K : PySem.W.Frag} {γ : Gam} {G H G' H' : Hp} {env : Ev} {σ : L2.St}
theorem Sr.ow_at (s : Sr K γ G H env σ) {i t : Nat} {xs : List D} (e : env[i]? = some (.own t xs)) : ∃ a ys, σ[i]? = some (some (.ref a)) ∧ G a = none ∧ H a = some (.lst ys) ∧ PuA K G xs ys ∧ OwnAt env σ i a := by
  obtain ⟨a, ys, h1, h2, h3, h4, _⟩ := s.slot i _ e
  exact ⟨a, ys, h1, h2, h3, h4, ⟨_, e, rfl⟩, h1⟩
theorem Sr.dc_at (s : Sr K γ G H env σ) {i : Nat} {kvs : List (D × D)} (e : env[i]? = some (.dic kvs)) : ∃ a qs, σ[i]? = some (some (.ref a)) ∧ G a = none ∧ H a = some (.dK qs) ∧ PuK K G kvs qs ∧ γ.h0 a = none ∧ OwnAt env σ i a := by
  obtain ⟨a, qs, h1, h2, h3, h4, h5⟩ := s.slot i _ e
  exact ⟨a, qs, h1, h2, h3, h4, h5, ⟨_, e, rfl⟩, h1⟩
theorem Sr.ow_some (s : Sr K γ G H env σ) {a : Addr} (h : Ow env σ a) : G a = none ∧ ∃ o, H a = some o := by
  obtain ⟨i, ⟨sl, e, q⟩, h1⟩ := h
  cases sl with
  | own t xs =>
    obtain ⟨b, ys, h2, h3, h4, _⟩ := s.ow_at e
    rw [h1] at h2; cases h2
    exact ⟨h3, _, h4⟩
  | dic kvs =>
    obtain ⟨b, ys, h2, h3, h4, _⟩ := s.dc_at e
    rw [h1] at h2; cases h2
    exact ⟨h3, _, h4⟩
  | emp => cases q
  | val d => cases q
  | scr t xs => cases q
/-- a new object, not told yet -/
theorem Sr.newH (s : Sr K γ G H env σ) {p : Addr} {o : HO} (hp : H p = none) : Sr K γ G (upd H p o) env σ := by
  have up : Sub H (upd H p o) := fun a u e => by rw [upd_ne (ne_of_none e hp)]; exact e
  refine ⟨s.sub.trans up, s.len, fun i sl e => ?_, s.inj⟩
  have q := s.slot i sl e
  cases sl with
  | emp => trivial
  | val d => exact q
  | own t xs =>
    obtain ⟨a, ys, h1, h2, h3, h4, h5⟩ := q
    exact ⟨a, ys, h1, h2, up _ _ h3, h4, h5⟩
  | scr t xs =>
    obtain ⟨a, ys, h1, h2, h3⟩ := q
    refine ⟨a, ys, h1, ?_, h3⟩
    rcases h2 with ⟨o, h2⟩ | h2
    · exact .inl ⟨o, up _ _ h2⟩
    · exact .inr h2
  | dic kvs =>
    obtain ⟨a, qs, h1, h2, h3, h4, h5⟩ := q
    exact ⟨a, qs, h1, h2, up _ _ h3, h4, h5⟩
theorem Step.newH {O : Addr → Prop} {p : Addr} {o : HO} (hp : H p = none) : Step O G H O G (upd H p o) := by
  refine ⟨Sub.refl G, fun a u e _ => by rw [upd_ne (ne_of_none e hp)]; exact e, fun _ _ e _ => e, fun a e => ?_, fun _ h => .inl h⟩
  by_cases q : a = p
  · rw [q, upd_same]; simp
  · rw [upd_ne q]; exact e
theorem Sr.gnone (s : Sr K γ G H env σ) {p : Addr} (hp : H p = none) : G p = none := by
  cases q : G p with
  | none => rfl
  | some u => rw [s.sub _ _ q] at hp; cases hp
/-- an object told: it stands, and no slot holds it -/
theorem Sr.tell (s : Sr K γ G H env σ) {p : Addr} {o : HO} (hp : H p = some o) (hg : G p = none) (no : ¬ Ow env σ p) : Sr K γ (upd G p o) H env σ := by
  have up : Sub G (upd G p o) := fun a u e => by rw [upd_ne (ne_of_none e hg)]; exact e
  refine ⟨fun a u e => ?_, s.len, fun i sl e => ?_, s.inj⟩
  · by_cases q : a = p
    · subst q; rw [upd_same] at e; cases e; exact hp
    · rw [upd_ne q] at e; exact s.sub _ _ e
  · have q := s.slot i sl e
    cases sl with
    | emp => trivial
    | val d =>
      obtain ⟨v, h1, h2⟩ := q
      exact ⟨v, h1, h2.mono up⟩
    | own t xs =>
      obtain ⟨a, ys, h1, h2, h3, h4, h5⟩ := q
      refine ⟨a, ys, h1, ?_, h3, h4.mono up, h5⟩
      rw [upd_ne (fun z => no (by subst z; exact ⟨i, ⟨_, e, rfl⟩, h1⟩))]
      exact h2
    | scr t xs =>
      obtain ⟨a, ys, h1, h2, h3⟩ := q
      exact ⟨a, ys, h1, h2, h3.mono up⟩
    | dic kvs =>
      obtain ⟨a, qs, h1, h2, h3, h4, h5⟩ := q
      refine ⟨a, qs, h1, ?_, h3, h4.mono up, h5⟩
      rw [upd_ne (fun z => no (by subst z; exact ⟨i, ⟨_, e, rfl⟩, h1⟩))]
      exact h2
theorem sub_tell {p : Addr} {o : HO} (hg : G p = none) : Sub G (upd G p o) := fun a u e => by rw [upd_ne (ne_of_none e hg)]; exact e
/-- what is told was new, or nobody's -/
theorem Step.tell {O O1 : Addr → Prop} {Gs Hs : Hp} {p : Addr} {o : HO} (st : Step O Gs Hs O1 G H) (hs : Hs p = none ∨ O p) (hg : G p = none) : Step O Gs Hs O1 (upd G p o) H := by
  refine ⟨st.g.trans (sub_tell hg), st.h, fun a h1 h2 h3 => ?_, st.f, st.o⟩
  rw [upd_ne (fun z => ?_)]
  · exact st.n a h1 h2 h3
  · subst z
    exact hs.elim h1 h3
end

/-! ### operands -/
def OpdR (K : PySem.W.Frag) (G H : Hp) (env : Ev) (σ : L2.St) (Hs : Hp) (x : V) : Opd → Prop
  | .pu d => Pu K G d x
  | .bo i => σ[i]? = some (some x)
  | .fr xs => ∃ a ys, x = .ref a ∧ G a = none ∧ H a = some (.lst ys) ∧ PuA K G xs ys ∧ ¬ Ow env σ a ∧ Hs a = none
  | .fo xs => ∃ a ys, x = .ref a ∧ G a = none ∧ H a = some (.lst ys) ∧ PuA K G xs ys ∧ ¬ Ow env σ a ∧ Hs a = none
  | .fd kvs => ∃ a qs, x = .ref a ∧ G a = none ∧ H a = some (.dK qs) ∧ PuK K G kvs qs ∧ ¬ Ow env σ a ∧ Hs a = none
section
variable {K : PySem.W.Frag} {γ : Gam} {G H G' H' Hs Hs' : Hp} {env env' : Ev} {σ : L2.St} {x : V} {o : Opd}
/-- later -/
theorem OpdR.later (r : OpdR K G H env σ Hs x o) (st : Step (Ow env σ) G H (Ow env' σ) G' H') : OpdR K G' H' env' σ Hs x o := by
  cases o with
  | pu d => exact Pu.mono st.g r
  | bo i => exact r
  | fr xs =>
    obtain ⟨a, ys, rfl, h1, h2, h3, h4, h5⟩ := r
    refine ⟨a, ys, rfl, st.n a (by rw [h2]; simp) h1 h4, st.h a _ h2 h4, h3.mono st.g, fun z => ?_, h5⟩
    exact (st.o a z).elim h4 (by rw [h2]; simp)
  | fo xs =>
    obtain ⟨a, ys, rfl, h1, h2, h3, h4, h5⟩ := r
    refine ⟨a, ys, rfl, st.n a (by rw [h2]; simp) h1 h4, st.h a _ h2 h4, h3.mono st.g, fun z => ?_, h5⟩
    exact (st.o a z).elim h4 (by rw [h2]; simp)
  | fd xs =>
    obtain ⟨a, ys, rfl, h1, h2, h3, h4, h5⟩ := r
    refine ⟨a, ys, rfl, st.n a (by rw [h2]; simp) h1 h4, st.h a _ h2 h4, h3.mono st.g, fun z => ?_, h5⟩
    exact (st.o a z).elim h4 (by rw [h2]; simp)
theorem OpdR.start (r : OpdR K G H env σ Hs x o) (h : ∀ a, Hs a = none → Hs' a = none) : OpdR K G H env σ Hs' x o := by
  cases o with
  | pu d => exact r
  | bo i => exact r
  | fr xs => obtain ⟨a, ys, h1, h2, h3, h4, h5, h6⟩ := r; exact ⟨a, ys, h1, h2, h3, h4, h5, h _ h6⟩
  | fo xs => obtain ⟨a, ys, h1, h2, h3, h4, h5, h6⟩ := r; exact ⟨a, ys, h1, h2, h3, h4, h5, h _ h6⟩
  | fd xs => obtain ⟨a, ys, h1, h2, h3, h4, h5, h6⟩ := r; exact ⟨a, ys, h1, h2, h3, h4, h5, h _ h6⟩
/-- what is read now -/
inductive Rdv (K : PySem.W.Frag) (G H : Hp) : D → V → Prop
  | pu {d : D} {x : V} : Pu K G d x → Rdv K G H d x
  | li {xs : List D} {ys : List V} {a : Addr} : H a = some (.lst ys) → PuA K G xs ys → Rdv K G H (.list xs) (.ref a)
  | di {kvs : List (D × D)} {qs : List (Key × V)} {a : Addr} : H a = some (.dK qs) → PuK K G kvs qs → Rdv K G H (.dict kvs) (.ref a)
theorem Rdv.list {d : D} {xs : List D} (s : Sub G H) (r : Rdv K G H d x) (e : d = .list xs) : ∃ a ys, x = .ref a ∧ H a = some (.lst ys) ∧ PuA K G xs ys := by
  subst e
  cases r with
  | pu p => cases p with
    | lst h q => exact ⟨_, _, rfl, s _ _ h, q⟩
  | li h q => exact ⟨_, _, rfl, h, q⟩
theorem Rdv.dict {d : D} {kvs : List (D × D)} (s : Sub G H) (r : Rdv K G H d x) (e : d = .dict kvs) : ∃ a qs, x = .ref a ∧ H a = some (.dK qs) ∧ PuK K G kvs qs := by
  subst e
  cases r with
  | pu p => cases p with
    | dic h q => exact ⟨_, _, rfl, s _ _ h, q⟩
  | di h q => exact ⟨_, _, rfl, h, q⟩
theorem Rdv.tuple {d : D} {xs : List D} (r : Rdv K G H d x) (e : d = .tuple xs) : ∃ a ys, x = .ref a ∧ SqT K G a ys ∧ PuA K G xs ys := by
  subst e
  cases r with
  | pu p => cases p with
    | tup h q => exact ⟨_, _, rfl, h, q⟩
theorem Rdv.int {d : D} {i : Int} (r : Rdv K G H d x) (e : d = .int i) : x = .int i := by
  subst e
  cases r with
  | pu p => cases p; rfl
theorem Rdv.bl {d : D} {i : Bool} (r : Rdv K G H d x) (e : d = .bool i) : x = .bl i := by
  subst e
  cases r with
  | pu p => cases p; rfl
theorem Rdv.str {d : D} {i : Str} (r : Rdv K G H d x) (e : d = .str i) : x = .str i := by
  subst e
  cases r with
  | pu p => cases p; rfl
theorem Rdv.dp {d : D} (n : d.hasDict = false) (s : Sub G H) (r : Rdv K G H d x) : Dp K H x d := by
  cases r with
  | pu p => exact (p.mono s).dp n
  | li h q => exact .lst (SqL.of h) ((q.mono s).dp (by simpa only [PyData.hasDict] using n))
  | di h q => simp only [PyData.hasDict] at n; cases n
theorem rdp_ok (s : Sr K γ G H env σ) (r : OpdR K G H env σ Hs x o) {d : D} (e : rdp env o = some d) : Rdv K G H d x := by
  cases o with
  | pu d' =>
    have e' : d' = d := by simpa [rdp] using e
    subst e'
    exact .pu r
  | fr xs =>
    have e' : PyData.list xs = d := by simpa [rdp] using e
    subst e'
    obtain ⟨a, ys, rfl, h1, h2, h3, _⟩ := r
    exact .li h2 h3
  | fo xs => simp [rdp] at e
  | fd xs => simp [rdp] at e
  | bo i =>
    have r' : σ[i]? = some (some x) := r
    simp only [rdp] at e
    split at e
    · rename_i t xs q
      cases e
      obtain ⟨a, ys, h1, h2, h3, h4, _⟩ := s.ow_at q
      rw [r'] at h1; cases h1
      exact .li h3 h4
    · rename_i kvs q
      cases e
      obtain ⟨a, ys, h1, h2, h3, h4, _⟩ := s.dc_at q
      rw [r'] at h1; cases h1
      exact .di h3 h4
    · cases e
/-- .. the script too -/
inductive Rds (K : PySem.W.Frag) (G H : Hp) : D → V → Prop
  | rd {d : D} {x : V} : Rdv K G H d x → Rds K G H d x
  | sc {xs : List D} {ys : List V} {a : Addr} : SqL K H a ys → PuA K G xs ys → Rds K G H (.list xs) (.ref a)
theorem Rds.list {d : D} {xs : List D} (s : Sub G H) (r : Rds K G H d x) (e : d = .list xs) : ∃ a ys, x = .ref a ∧ SqL K H a ys ∧ PuA K G xs ys := by
  cases r with
  | rd r =>
    obtain ⟨a, ys, h1, h2, h3⟩ := r.list s e
    exact ⟨a, ys, h1, SqL.of h2, h3⟩
  | sc h q =>
    cases e
    exact ⟨_, _, rfl, h, q⟩
theorem Rds.dict {d : D} {kvs : List (D × D)} (s : Sub G H) (r : Rds K G H d x) (e : d = .dict kvs) : ∃ a qs, x = .ref a ∧ H a = some (.dK qs) ∧ PuK K G kvs qs := by
  cases r with
  | rd r => exact r.dict s e
  | sc h q => cases e
theorem Rds.dp {d : D} (n : d.hasDict = false) (s : Sub G H) (r : Rds K G H d x) : Dp K H x d := by
  cases r with
  | rd r => exact r.dp n s
  | sc h q => exact .lst h ((q.mono s).dp (by simpa only [PyData.hasDict] using n))
theorem rds_ok (s : Sr K γ G H env σ) (r : OpdR K G H env σ Hs x o) {d : D} (e : rds env o = some d) : Rds K G H d x := by
  cases o with
  | pu d' => exact .rd (rdp_ok s r (by simpa [rdp, rds] using e))
  | fr xs => exact .rd (rdp_ok s r (by simpa [rdp, rds] using e))
  | fo xs => simp [rds] at e
  | fd xs => simp [rds] at e
  | bo i =>
    have r' : σ[i]? = some (some x) := r
    simp only [rds] at e
    split at e
    · rename_i t xs q
      exact .rd (rdp_ok s r (by simp only [rdp, q]; exact e))
    · rename_i t xs q
      cases e
      obtain ⟨a, ys, h1, h2, h3⟩ := s.slot i _ q
      rw [r'] at h1; cases h1
      exact .sc h2.sq h3
    · rename_i kvs q
      exact .rd (rdp_ok s r (by simp only [rdp, q]; exact e))
    · cases e
/-- frozen: told from now on -/
theorem frz_ok {O : Addr → Prop} (s : Sr K γ G H env σ) (st : Step O G' H' (Ow env σ) G H) (r : OpdR K G H env σ H' x o) {d : D} (e : frzd o = some d) :
    ∃ G1, Sr K γ G1 H env σ ∧ Step O G' H' (Ow env σ) G1 H ∧ Sub G G1 ∧ Pu K G1 d x ∧ (∀ b, H b ≠ none → G1 b = G b ∨ x = .ref b) := by
  cases o with
  | pu d' =>
    have e' : d' = d := by simpa [frzd] using e
    subst e'
    exact ⟨G, s, st, Sub.refl G, r, fun _ _ => .inl rfl⟩
  | fr xs =>
    have e' : PyData.list xs = d := by simpa [frzd] using e
    subst e'
    obtain ⟨a, ys, rfl, h1, h2, h3, h4, h5⟩ := r
    refine ⟨upd G a (.lst ys), s.tell h2 h1 h4, st.tell (.inl h5) h1, sub_tell h1, .lst upd_same (h3.mono (sub_tell h1)), fun b _ => ?_⟩
    by_cases q : b = a
    · exact .inr (by rw [q])
    · exact .inl (upd_ne q)
  | fd kvs =>
    have e' : PyData.dict kvs = d := by simpa [frzd] using e
    subst e'
    obtain ⟨a, ys, rfl, h1, h2, h3, h4, h5⟩ := r
    refine ⟨upd G a (.dK ys), s.tell h2 h1 h4, st.tell (.inl h5) h1, sub_tell h1, .dic upd_same (h3.mono (sub_tell h1)), fun b _ => ?_⟩
    by_cases q : b = a
    · exact .inr (by rw [q])
    · exact .inl (upd_ne q)
  | bo i => simp [frzd] at e
  | fo xs => simp [frzd] at e
end
end Rf

set_option Elab.async false
set_option linter.all false
set_option maxRecDepth 100000
set_option maxHeartbeats 4000000
/-! Rf: tuple * 1, sum of a tuple. -/
namespace Rf
open PySem PySem.Spec PyProof.Rows L2
theorem tuple_mul1 (l : Addr) (items : Array Value) (n : Nat) (dd : Option Addr) (sl : Array (Option Value)) (u : Tok) :
    Meets (Builtin.«tuple.__mul__» ⟨[.ref l, .int 1 u], []⟩) (fun _ R s => s.heap.get? l = some { cls := .type "tuple", dict := dd, data := .seq items n, slots := sl } ∧
      R (.ok (.ret (Value.ref l))) s) :=
  .of_wp fun prog w A R s h => by
    obtain ⟨hp, g, d, tk, os⟩ := s
    obtain ⟨hl, h⟩ := h
    have f1 := AutoSeq1.idx_int
    have c0 : (decide ((1 : Int) < -(2 ^ 63)) || decide ((1 : Int) ≥ 2 ^ 63)) = false := by decide
    have c1 : (items.isEmpty || (1 : Int) == 1) = true := by simp
    wp_walk using AutoSeq1.wpAny_loadPart' hl
    repeat (first
      | (refine wpAny_ite_false (decide_eq_false (by rw [c0]; exact Bool.false_ne_true)) ?_; wp_walk using AutoSeq1.wpAny_loadPart' hl)
      | (refine wpAny_ite_true (decide_eq_true (by rw [c1])) ?_; wp_walk using AutoSeq1.wpAny_loadPart' hl))
    exact ⟨_, rfl, h⟩
def rRep1 (K : PySem.W.Frag) : R2 := fun x y H Q => ∃ l xs, x = .ref l ∧ y = .int 1 ∧ SqT K H l xs ∧ Q (.ref l) H
section
variable {X : Cx}
theorem op_rep1 : OpR X (binaryOp .Mult) (rRep1 X.K) := by
  intro pins s σ H x y v u Q I rx ry h
  obtain ⟨l, xs, rfl, rfl, hT, q⟩ := h
  cases rx
  obtain ⟨t, rfl⟩ := ry
  obtain ⟨its, r, ⟨⟨cls, dd, data, sl⟩, ho, hc, n, hd⟩, hs⟩ := I.tuple hT
  simp only at hc hd
  subst hc hd
  refine wpAny_binaryOp_repeat_ref (T := "tuple") (U := "int") (by decide) ⟨_, ho, rfl⟩ (fun s' => typeIs_int s' 1 t) noFill_tuple_mul F.fills_int_mul F.slot_int_rmul repeat_tuple F.slot_int_index.lookup
    (call_meets F.slot_int_rmul (typeIs_int s 1 t) F.entry_int_rmul (F.args_int_rmul_2 _ _) (int_rmul_tuple 1 t l its.toArray n dd sl)
      ⟨ho, rfl, ⟨_, ho, rfl⟩, call_meets F.slot_tuple_mul ⟨_, ho, rfl⟩ F.entry_tuple_mul (F.args_tuple_mul_2 _ _) (tuple_mul1 l its.toArray n dd sl t) ⟨ho, ?_⟩⟩)
  exact ⟨.ref l, H, I, rfl, q⟩
def rSumT (K : PySem.W.Frag) : List V → Hp → VK → Prop := fun vs H Q => ∃ (a : Addr) (ns : List Int), vs = [V.ref a] ∧ SqT K H a (ns.map V.int) ∧ Q (.int ns.sum) H
theorem cr_sumT (hc : X.calm = true) : CallR X (.builtin "sum") (rSumT X.K) := by
  intro pins s σ H vs us Q I r h
  obtain ⟨a, ns, rfl, hs, q⟩ := h
  obtain ⟨its, rv, ⟨o, ho, hcl, n, hd⟩, _⟩ := I.tuple hs
  rw [Vals.ref1 r]
  have hi : IntsAre its ns := rv.ints
  have hl : s.heap.IsTuple a its.toArray := ⟨o, ho, hcl, n, hd⟩
  obtain ⟨xs, hx⟩ := hi.allInts.items
  have hn : numsOf its.toArray.toList = ns := by rw [show its.toArray.toList = its from rfl, hi.numsOf]
  rw [hx] at hl hn
  rw [nums_intItems] at hn
  refine PySem.W.ktm_sumG (I.ok.hd hc) hl fun h' tk t' hk => ?_
  rw [preSum_eq, List.take_of_length_le (by simp), hn]
  exact ⟨.int _, H, I.kept hk, ⟨_, rfl⟩, q⟩
end
end Rf

set_option Elab.async false
set_option linter.all false
set_option maxRecDepth 100000
set_option maxHeartbeats 4000000
/-! Rf: t[::-1] of a tuple. -/
namespace Rf
open PySem PySem.Spec PyProof.Rows L2
theorem places_rev (n : Nat) : Builtin.Slice.slicePlaces ((n : Int) - 1) (-1) (-1) = n := by
  unfold Builtin.Slice.slicePlaces
  have h1 : ¬ ((-1 : Int) > 0) := by omega
  rw [if_neg h1]
  by_cases h : (n : Int) - 1 > -1
  · rw [if_pos h]
    have : (((n : Int) - 1 - (-1) - 1) / (-(-1)) + 1).toNat = n := by
      rw [show -(-1 : Int) = 1 by rfl, Int.ediv_one]; omega
    exact this
  · rw [if_neg h]; omega
theorem fmr_congr {α β : Type} {f g : α → Option β} : ∀ l : List α, (∀ x ∈ l, f x = g x) → l.filterMap f = l.filterMap g
  | [], _ => rfl
  | a :: l, h => by
    rw [List.filterMap_cons, List.filterMap_cons, h a List.mem_cons_self, fmr_congr l fun x hx => h x (List.mem_cons_of_mem _ hx)]
theorem fmr_all {α : Type} : ∀ l : List α, (List.range l.length).filterMap (fun m => l[m]?) = l
  | [] => rfl
  | a :: l => by
    have ih := fmr_all l
    rw [List.length_cons, List.range_succ_eq_map, List.filterMap_cons, List.filterMap_map]
    simp only [List.getElem?_cons_zero]
    have e : ((fun m => (a :: l)[m]?) ∘ Nat.succ) = fun m => l[m]? := by
      funext m; simp
    rw [e, ih]
theorem pick_rev (xs : Array Value) : ((List.range xs.size).filterMap fun (m : Nat) => xs[(((xs.size : Int) - 1) + (m : Int) * (-1)).toNat]?).toArray = xs.toList.reverse.toArray := by
  congr 1
  have e := fmr_all xs.toList.reverse
  rw [List.length_reverse, Array.length_toList] at e
  rw [← e]
  refine (fmr_congr _ fun m hm => ?_).trans (by rw [e])
  have hm' := List.mem_range.mp hm
  have h0 : (((xs.size : Int) - 1) + (m : Int) * (-1)).toNat = xs.size - 1 - m := by omega
  rw [h0, List.getElem?_reverse (by simpa using hm')]
  simp
section
variable {prog : Program} {w : World} {A : Around} {E : Value → Shared → Prop} {s : Shared}
theorem sliceApplied_rev {sl : Addr} {vs : Value} {n : Nat} {Q : Int × Int × Nat → Shared → Prop} (hs : s.heap.IsSliceOf sl .none .none vs) (ps : IsPart vs (some (-1)))
    (h : Q ((n : Int) - 1, -1, n) s) : wpAny (model prog w) A (Builtin.Slice.sliceApplied (.ref sl) (pure (n : Int))) Q E s := by
  obtain ⟨os, hos, hcs, hds⟩ := id hs
  unfold Builtin.Slice.sliceApplied Builtin.Slice.sliceFields
  refine wpAny_bind (wpAny_bind (wpAny_field hos hds (x := .none) rfl (wpAny_bind (wpAny_field hos hds (x := .none) rfl (wpAny_bind (wpAny_field hos hds (x := vs) rfl (wpAny_pure ?_)))))))
  refine wpAny_bind (HT.slicePart_ ps ?_)
  show wpAny _ _ (if ((-1 : Int) == 0) = true then _ else _) _ _ s
  rw [if_neg (by decide)]
  refine wpAny_bind (HT.slicePart_ .none (wpAny_bind (HT.slicePart_ .none (wpAny_bind (wpAny_pure ?_)))))
  show wpAny _ _ (pure ((n : Int) - 1, (-1 : Int), Builtin.Slice.slicePlaces ((n : Int) - 1) (-1) (-1))) _ _ s
  rw [places_rev]
  exact wpAny_pure h
theorem getItem_tuple_rev {t sl : Addr} {items : Array Value} {vs : Value} {Q : Value → Shared → Prop} (ht : IsTup s.heap t items) (hs : s.heap.IsSliceOf sl .none .none vs) (ps : IsPart vs (some (-1)))
    (h : Q (.ref s.heap.objs.size) { s with heap := s.heap.push { cls := .type "tuple", data := .seq items.toList.reverse.toArray } })
    (hsz : items.size ≤ sizeLine) : wpAny (model prog w) A (getItem (.ref t) (.ref sl)) Q E s := by
  have htake : sizeOk (.seq items.toList.reverse.toArray) := by
    show items.toList.reverse.toArray.size ≤ sizeLine
    rw [List.size_toArray, List.length_reverse, Array.length_toList]
    omega
  obtain ⟨os, hos, hcs, hds⟩ := id hs
  have hTs : s.TypeIs (.ref sl) "slice" := ⟨os, hos, hcs⟩
  unfold getItem
  try with_reducible refine wpAny_holding ?_
  first | refine wpAny_bind (wpAny_pure ?_) | skip
  refine wpAny_bind (wpAny_sequenceKey ht.typeIs (by decide) ?_)
  refine wpAny_bind (wpAny_callSpecial?_slot (name := Str.ofString "__getitem__") ht.typeIs PyProof.Rows.slot_tuple_getitem
    (wpAny_call_entry PyProof.Rows.slot_tuple_getitem ht.typeIs entry_tuple_getitem ?_ (args_tuple_getitem _ _)))
  show wpAny _ _ (Builtin.Tuple.tupleItemsOf (.ref t) >>= _) _ _ s
  refine wpAny_bind (tupleItemsOf_ ht ?_)
  refine wpAny_bind (wpAny_typeOf hTs ?_)
  rw [if_pos (by decide)]
  refine wpAny_bind (sliceApplied_rev hs ps ?_)
  have hno : ¬ (((((items.size : Int) - 1)) == 0 && (-1 : Int) == 1 && items.size == items.size) = true) := by
    intro q
    rw [Bool.and_eq_true, Bool.and_eq_true] at q
    exact absurd q.1.2 (by decide)
  show wpAny _ _ (if ((((items.size : Int) - 1)) == 0 && (-1 : Int) == 1 && items.size == items.size) = true then _ else _) _ _ s
  rw [if_neg hno, pick_rev]
  first
    | exact wpAny_bind (m := Builtin.Tuple.tupleExact _) (wpAny_newObj_type (wpAny_pure ⟨_, rfl, wpAny_pure h⟩) htake)
    | exact wpAny_bind (m := Builtin.Tuple.tupleExact _) (wpAny_newObj_type (wpAny_bind (wpAny_pure (wpAny_pure ⟨_, rfl, wpAny_pure h⟩))) htake)
    | exact wpAny_bind (wpAny_bind (m := Builtin.Tuple.tupleExact _) (wpAny_newObj_type (wpAny_pure (wpAny_pure ⟨_, rfl, wpAny_pure h⟩)) htake))
    | exact wpAny_bind (wpAny_bind (m := Builtin.Tuple.tupleExact _) (wpAny_newObj_type (wpAny_pure ⟨_, rfl, wpAny_pure h⟩) htake))
end
section
variable {X : Cx}
/-- x[::-1]: a new list, a new tuple -/
def tRevA (K : PySem.W.Frag) (te : TE) : TE := fun σ H Q => te σ H fun x H1 => ∃ a xs, x = .ref a ∧ ((SqL K H1 a xs ∧ ∀ p, H1 p = none → Q (.ref p) (upd H1 p (.lst xs.reverse))) ∨ (SqT K H1 a xs ∧ ∀ p, H1 p = none → Q (.ref p) (upd H1 p (.tup xs.reverse))))
theorem pe_revA {e : Expr} {te : TE} {k : Nat} {p1 p2 p3 pos : Pos} (he : PE X e te) : PE X (.Subscript e (.Slice none none (some (.UnaryOp .USub (.Constant (.int 1) k p1) p2)) p3) pos) (tRevA X.K te) := by
  refine ⟨fun pins s σ H Q I h => ?_⟩
  refine Subscript_ (thn (he.run pins s σ H _ I h) fun v s1 ⟨x, H1, I1, r1, q1⟩ => ?_)
  obtain ⟨a, xs, ex, hxq⟩ := q1
  subst ex
  cases r1
  have hst : PO X (some (.UnaryOp .USub (.Constant (.int 1) k p1) p2)) (tPart (tUn (rU fun i => .int (-i)) (tC (.int 1)))) := po_some (pe_un un_neg pe_int)
  refine wpAny_Slice (thn (po_none.run pins s1 σ H1 (fun o H2 => o = none ∧ H2 = H1) I1 ⟨rfl, rfl⟩) fun vl s2 ⟨l, H2, I2, pl, el, e2⟩ => ?_)
  subst el e2
  refine thn (po_none.run pins s2 σ H2 (fun o H3 => o = none ∧ H3 = H2) I2 ⟨rfl, rfl⟩) fun vu s3 ⟨u, H3, I3, pu, eu, e3⟩ => ?_
  subst eu e3
  refine thn (hst.run pins s3 σ H3 (fun o H4 => o = some (-1) ∧ H4 = H3) I3 ⟨1, rfl, -1, rfl, rfl, rfl⟩) fun vs s4 ⟨o, H4, I4, ps, eo, e4⟩ => ?_
  subst eo e4
  have I5 : Inv X pins σ H4 { s4 with heap := s4.heap.push { cls := .type "slice", data := .fields #[vl, vu, vs] } } := I4.kept (t' := s4.toks) fun b ob q => Heap.get?_push_of_some _ q
  rcases hxq with ⟨hx, q⟩ | ⟨hx, q⟩
  · obtain ⟨its, r, ht, hz⟩ := I5.list hx
    have hlen := r.length
    show wpAny (model X.prog X.w) X.A (subscriptTail e (.Slice none none (some (.UnaryOp .USub (.Constant (.int 1) k p1) p2)) p3) (.ref a) (.ref s4.heap.objs.size)) (EP X pins σ Q) X.xe { s4 with heap := s4.heap.push { cls := .type "slice", data := .fields #[vl, vu, vs] } }
    refine tail_any (ops := [.ref a, .ref s4.heap.objs.size]) ht.isList.typeIs (PySem.slot_list_getitem.lookup) ?_ (by with_unfolding_all rfl)
    refine wpAny_getItem_list_slice ht.isList (Heap.IsSliceOf.new _ vl vu vs) pl pu ps (by decide) ?_ (by rw [List.size_toArray]; omega)
    rw [PySem.W.krv_pick]
    refine ⟨.ref _, _, I5.laid (t' := s4.toks) (o := .lst xs.reverse) (fun b ob q => Heap.get?_push_of_some _ q) (Nat.le_refl _) ?_, rfl, q _ (I5.hok.fresh (Nat.le_refl _))⟩
    exact ⟨by rw [List.length_reverse]; exact hz, _, 0, r.reverse, Heap.get?_push_size _ rfl⟩
  · obtain ⟨its, r, ht, hz⟩ := I5.tuple hx
    have hlen := r.length
    cases pl
    cases pu
    show wpAny (model X.prog X.w) X.A (subscriptTail e (.Slice none none (some (.UnaryOp .USub (.Constant (.int 1) k p1) p2)) p3) (.ref a) (.ref s4.heap.objs.size)) (EP X pins σ Q) X.xe { s4 with heap := s4.heap.push { cls := .type "slice", data := .fields #[.none, .none, vs] } }
    refine tail_any (ops := [.ref a, .ref s4.heap.objs.size]) ht.typeIs (PyProof.Rows.slot_tuple_getitem.lookup) ?_ (by with_unfolding_all rfl)
    refine getItem_tuple_rev ht (Heap.IsSliceOf.new _ .none .none vs) ps ?_ (by rw [List.size_toArray]; omega)
    refine ⟨.ref _, _, I5.laid (t' := s4.toks) (o := .tup xs.reverse) (fun b ob q => Heap.get?_push_of_some _ q) (Nat.le_refl _) ?_, rfl, q _ (I5.hok.fresh (Nat.le_refl _))⟩
    exact ⟨by rw [List.length_reverse]; exact hz, _, r.reverse, IsTup.new _ _⟩
end
end Rf

set_option Elab.async false
set_option linter.all false
set_option maxRecDepth 100000
set_option maxHeartbeats 4000000
namespace Rf
open PySem PySem.Spec PyProof.Rows L2

/-- only new objects came -/
structure Ext (G H G' H' : Hp) : Prop where
  g : Sub G G'
  h : Sub H H'
  s : Sub G' H'
  n : ∀ a, H a ≠ none → G a = none → G' a = none
theorem Ext.refl {G H : Hp} (s : Sub G H) : Ext G H G H := ⟨Sub.refl G, Sub.refl H, s, fun _ _ e => e⟩
theorem up_sub {H : Hp} {p : Addr} {o : HO} (hp : H p = none) : Sub H (upd H p o) := fun a u e => by rw [upd_ne (ne_of_none e hp)]; exact e
theorem none_of {G H : Hp} (s : Sub G H) {p : Addr} (hp : H p = none) : G p = none := by
  cases q : G p with
  | none => rfl
  | some u => rw [s _ _ q] at hp; cases hp
theorem Ext.newH {G H : Hp} (s : Sub G H) {p : Addr} {o : HO} (hp : H p = none) : Ext G H G (upd H p o) := ⟨Sub.refl G, up_sub hp, s.trans (up_sub hp), fun _ _ e => e⟩
theorem Ext.newG {G H : Hp} (s : Sub G H) {p : Addr} {o : HO} (hp : H p = none) : Ext G H (upd G p o) (upd H p o) := by
  refine ⟨up_sub (none_of s hp), up_sub hp, fun a u e => ?_, fun a h1 h2 => ?_⟩
  · by_cases q : a = p
    · subst q; rw [upd_same] at e ⊢; exact e
    · rw [upd_ne q] at e ⊢; exact s _ _ e
  · rw [upd_ne (fun z => by subst z; exact h1 hp)]; exact h2
theorem Ext.trans {G H G1 H1 G2 H2 : Hp} (a : Ext G H G1 H1) (b : Ext G1 H1 G2 H2) : Ext G H G2 H2 :=
  ⟨a.g.trans b.g, a.h.trans b.h, b.s, fun x h1 h2 => b.n x (by
    cases q : H x with
    | none => exact absurd q h1
    | some u => rw [a.h _ _ q]; simp) (a.n x h1 h2)⟩
section
variable {K : PySem.W.Frag} {γ : Gam} {G H G' H' : Hp} {env : Ev} {σ : L2.St}
theorem Sr.ext (s : Sr K γ G H env σ) (x : Ext G H G' H') : Sr K γ G' H' env σ := by
  refine ⟨x.s, s.len, fun i sl e => ?_, s.inj⟩
  have q := s.slot i sl e
  cases sl with
  | emp => trivial
  | val d => obtain ⟨v, h1, h2⟩ := q; exact ⟨v, h1, h2.mono x.g⟩
  | own t xs =>
    obtain ⟨a, ys, h1, h2, h3, h4, h5⟩ := q
    exact ⟨a, ys, h1, x.n a (by rw [h3]; simp) h2, x.h _ _ h3, h4.mono x.g, h5⟩
  | scr t xs =>
    obtain ⟨a, ys, h1, h2, h3⟩ := q
    refine ⟨a, ys, h1, ?_, h3.mono x.g⟩
    rcases h2 with ⟨o, h2⟩ | h2
    · exact .inl ⟨o, x.h _ _ h2⟩
    · exact .inr h2
  | dic kvs =>
    obtain ⟨a, ys, h1, h2, h3, h4, h5⟩ := q
    exact ⟨a, ys, h1, x.n a (by rw [h3]; simp) h2, x.h _ _ h3, h4.mono x.g, h5⟩
theorem Step.ext {O : Addr → Prop} (x : Ext G H G' H') : Step O G H O G' H' :=
  ⟨x.g, fun a o e _ => x.h a o e, fun a h1 h2 _ => x.n a h1 h2, fun a h1 => by
    cases q : H a with
    | none => exact absurd q h1
    | some u => rw [x.h _ _ q]; simp, fun _ h => .inl h⟩
end
/-- what came of an operation -/
def ResR (K : PySem.W.Frag) (G H Hs : Hp) (x : V) : Opd → Prop
  | .pu d => Pu K G d x
  | .fr xs => ∃ a ys, x = .ref a ∧ G a = none ∧ H a = some (.lst ys) ∧ PuA K G xs ys ∧ Hs a = none
  | .fd kvs => ∃ a qs, x = .ref a ∧ G a = none ∧ H a = some (.dK qs) ∧ PuK K G kvs qs ∧ Hs a = none
  | _ => False
def RQ (K : PySem.W.Frag) (G H : Hp) (res : Opd) (Q : VK) : Prop := ∀ G' H' x, Ext G H G' H' → ResR K G' H' H x res → Q x H'
section
variable {K : PySem.W.Frag} {γ : Gam} {G H G' H' Hs : Hp} {env : Ev} {σ : L2.St} {Q : VK} {x : V} {d : D} {xs : List D} {ys : List V}
theorem RQ.pu (q : RQ K G H (.pu d) Q) (s : Sub G H) (r : Pu K G d x) : Q x H := q G H x (Ext.refl s) r
theorem RQ.fr (q : RQ K G H (.fr xs) Q) (s : Sub G H) (r : PuA K G xs ys) {p : Addr} (hp : H p = none) : Q (.ref p) (upd H p (.lst ys)) :=
  q G _ _ (Ext.newH s hp) ⟨p, ys, rfl, none_of s hp, upd_same, r, hp⟩
theorem RQ.fd {kvs : List (D × D)} {qs : List (Key × V)} (q : RQ K G H (.fd kvs) Q) (s : Sub G H) (r : PuK K G kvs qs) {p : Addr} (hp : H p = none) : Q (.ref p) (upd H p (.dK qs)) :=
  q G _ _ (Ext.newH s hp) ⟨p, qs, rfl, none_of s hp, upd_same, r, hp⟩
theorem RQ.tup (q : RQ K G H (.pu (.tuple xs)) Q) (s : Sub G H) (r : PuA K G xs ys) {p : Addr} (hp : H p = none) : Q (.ref p) (upd H p (.tup ys)) :=
  q (upd G p (.tup ys)) _ _ (Ext.newG s hp) (.tup (SqT.of upd_same) (r.mono (up_sub (none_of s hp))))
theorem no_ow (s : Sr K γ G H env σ) {a : Addr} (h : H a = none) : ¬ Ow env σ a := fun z => by
  obtain ⟨_, ys, e⟩ := s.ow_some z
  rw [h] at e; cases e
theorem opd_of (s : Sr K γ G H env σ) {o : Opd} (x' : Ext G H G' H') (r : ResR K G' H' H x o) : OpdR K G' H' env σ H x o := by
  cases o with
  | pu d => exact r
  | fr xs =>
    obtain ⟨a, ys, h1, h2, h3, h4, h5⟩ := r
    exact ⟨a, ys, h1, h2, h3, h4, no_ow s h5, h5⟩
  | fd xs =>
    obtain ⟨a, ys, h1, h2, h3, h4, h5⟩ := r
    exact ⟨a, ys, h1, h2, h3, h4, no_ow s h5, h5⟩
  | bo i => exact r.elim
  | fo xs => exact r.elim
end
theorem lenOk_le {n : Nat} (h : lenOk n = true) : n ≤ sizeLine := by
  rw [sizeLine_eq]; exact Nat.le_of_ble_eq_true h
theorem small_bd {i : Int} (h : small64 i = true) : -(2 ^ 64) < i ∧ i < 2 ^ 64 := by
  have h1 : i.natAbs < 18446744073709551616 := by
    unfold small64 at h
    exact Nat.le_of_ble_eq_true h
  omega
theorem ands {a b : Bool} (h : (a && b) = true) : a = true ∧ b = true := by simpa using h
theorem mulOk_ok {i j : Int} (h : mulOk i j = true) : IntMulOk i j := by
  unfold mulOk at h
  simp only [Bool.or_eq_true] at h
  rcases h with (h | h) | h
  · exact L2.CMul.ok (.inl (small_bd h))
  · exact L2.CMul.ok (.inr (small_bd h))
  · exact L2.CMulW.ok (show i.natAbs.log2 + j.natAbs.log2 < 1000000 from Nat.le_of_ble_eq_true h)

/-! ### operators -/
def rBin (K : PySem.W.Frag) (o : BOp) : R2 := fun x y H Q => ∃ G p q res, Sub G H ∧ Rdv K G H p x ∧ Rdv K G H q y ∧ binV o p q = some res ∧ RQ K G H res Q
def bopOf : BOp → Operator
  | .add => .Add | .sub => .Sub | .mul => .Mult | .fdiv => .FloorDiv | .mod => .Mod | .pow => .Pow
section
variable {X : Cx}
theorem op_mulI : OpR X (binaryOp .Mult) (rI (fun i j => mulOk i j = true) fun i j => .int (i * j)) := opI fun _ _ _ _ _ _ _ hc q => mul_int q (mulOk_ok hc)
theorem op_bin (o : BOp) : OpR X (binaryOp (bopOf o)) (rBin X.K o) := by
  intro pins s σ H x y v u Q I rx ry h
  obtain ⟨G, p, q, res, sb, rp, rq, e, hq⟩ := h
  have fin : ∀ {d : D} {z : V}, res = .pu d → Pu X.K G d z → Q z H := fun {d z} e1 e2 => by subst e1; exact RQ.pu hq sb e2
  cases o with
  | add =>
    cases p <;> cases q <;> simp only [binV] at e <;> (try cases e)
    · have e1 := rp.int rfl; have e2 := rq.int rfl; subst e1; subst e2
      exact L2.op_add pins s σ H _ _ v u Q I rx ry ⟨_, _, rfl, rfl, fin rfl (.int _)⟩
    · rename_i a b
      have e1 := rp.str rfl; have e2 := rq.str rfl; subst e1; subst e2
      split at e <;> (try cases e)
      rename_i hz
      exact L2.op_add_str pins s σ H _ _ v u Q I rx ry ⟨_, _, rfl, rfl, lenOk_le hz, fin rfl (.str _)⟩
    · rename_i a b
      split at e <;> (try cases e)
      rename_i hz
      obtain ⟨l, ys, rfl, h1, h2⟩ := rp.list sb rfl
      obtain ⟨m, zs, rfl, h3, h4⟩ := rq.list sb rfl
      exact L2.op_cat pins s σ H _ _ v u Q I rx ry ⟨l, m, ys, zs, rfl, rfl, h1, h3, by rw [← h2.length, ← h4.length]; exact lenOk_le hz, fun p hp => RQ.fr hq sb (h2.append h4) hp⟩
    · rename_i a b
      split at e <;> (try cases e)
      rename_i hz
      obtain ⟨l, ys, rfl, h1, h2⟩ := rp.tuple rfl
      obtain ⟨m, zs, rfl, h3, h4⟩ := rq.tuple rfl
      have hz' : ys.length + zs.length ≤ sizeLine := by rw [← h2.length, ← h4.length]; exact lenOk_le hz
      have r1 : Pu X.K G (.tuple a) (.ref l) := .tup h1 h2
      have r2 : Pu X.K G (.tuple b) (.ref m) := .tup h3 h4
      refine L2.op_catA pins s σ H _ _ v u Q I rx ry ⟨l, m, ys, zs, rfl, rfl, sqT_sub sb h1, sqT_sub sb h3, hz', fun e1 => ?_, fun _ e2 => ?_, fun _ _ p hp => RQ.tup hq sb (h2.append h4) hp⟩
      · subst e1
        cases h2
        exact fin rfl r2
      · subst e2
        cases h4
        exact fin (by rw [List.append_nil]) r1
  | sub =>
    cases p <;> cases q <;> simp only [binV] at e <;> (try cases e)
    have e1 := rp.int rfl; have e2 := rq.int rfl; subst e1; subst e2
    exact L2.op_sub pins s σ H _ _ v u Q I rx ry ⟨_, _, rfl, rfl, fin rfl (.int _)⟩
  | mul =>
    cases p <;> cases q <;> simp only [binV] at e <;> (try cases e)
    · have e1 := rp.int rfl; have e2 := rq.int rfl; subst e1; subst e2
      split at e <;> (try cases e)
      rename_i hz
      exact op_mulI pins s σ H _ _ v u Q I rx ry ⟨_, _, rfl, rfl, hz, fin rfl (.int _)⟩
    · rename_i a k
      split at e <;> (try cases e)
      rename_i hz
      obtain ⟨hz1, hz4⟩ := ands hz
      obtain ⟨hz2, hz3⟩ := ands hz1
      obtain ⟨_, hz2⟩ := ands hz2
      obtain ⟨l, ys, rfl, h1, h2⟩ := rp.list sb rfl
      have e2 := rq.int rfl; subst e2
      have b1 := of_decide_eq_true hz2
      have b2 := of_decide_eq_true hz3
      exact L2.op_rep pins s σ H _ _ v u Q I rx ry ⟨l, k, ys, rfl, rfl, h1, by omega, by omega, by rw [← h2.length]; exact lenOk_le hz4, fun p hp => RQ.fr hq sb (h2.rep _) hp⟩
    · rename_i a k
      split at e
      rotate_left
      · split at e <;> (try cases e)
        rename_i hz
        have hk := of_decide_eq_true hz
        subst hk
        obtain ⟨l, ys, rfl, h1, h2⟩ := rp.tuple rfl
        have e2 := rq.int rfl; subst e2
        exact op_rep1 pins s σ H _ _ v u Q I rx ry ⟨l, ys, rfl, rfl, sqT_sub sb h1, fin rfl (.tup h1 h2)⟩
      cases e
      rename_i hz
      obtain ⟨hz1, hz4⟩ := ands hz
      obtain ⟨hz2, hz3⟩ := ands hz1
      obtain ⟨hz0, hz2⟩ := ands hz2
      obtain ⟨l, ys, rfl, h1, h2⟩ := rp.tuple rfl
      have e2 := rq.int rfl; subst e2
      have b1 := of_decide_eq_true hz0
      have b2 := of_decide_eq_true hz2
      have b3 : a.length ≤ 1000 := Nat.le_of_ble_eq_true hz3
      refine L2.op_repT pins s σ H _ _ v u Q I rx ry ⟨l, k, ys, rfl, rfl, sqT_sub sb h1, ?_, b1, b2, by rw [← h2.length]; exact b3, fun p hp => RQ.tup hq sb (h2.rep _) hp⟩
      rintro rfl
      cases h2
      simp at hz4
  | fdiv =>
    cases p <;> cases q <;> simp only [binV] at e <;> (try cases e)
    have e1 := rp.int rfl; have e2 := rq.int rfl; subst e1; subst e2
    split at e <;> (try cases e)
    rename_i hz
    obtain ⟨h1, h2⟩ := ands hz
    exact L2.op_fdivW pins s σ H _ _ v u Q I rx ry ⟨_, _, rfl, rfl, ⟨of_decide_eq_true h1, Nat.le_of_ble_eq_true h2⟩, fin rfl (.int _)⟩
  | mod =>
    cases p <;> cases q <;> simp only [binV] at e <;> (try cases e)
    have e1 := rp.int rfl; have e2 := rq.int rfl; subst e1; subst e2
    split at e <;> (try cases e)
    rename_i hz
    exact L2.op_mod pins s σ H _ _ v u Q I rx ry ⟨_, _, rfl, rfl, of_decide_eq_true hz, fin rfl (.int _)⟩
  | pow =>
    cases p <;> cases q <;> simp only [binV] at e <;> (try cases e)
    have e1 := rp.int rfl; have e2 := rq.int rfl; subst e1; subst e2
    split at e <;> (try cases e)
    rename_i hz
    obtain ⟨h12, h3⟩ := ands hz
    obtain ⟨h1, h2⟩ := ands h12
    refine L2.op_pow pins s σ H _ _ v u Q I rx ry ⟨_, _, rfl, rfl, ⟨of_decide_eq_true h1, of_decide_eq_true h2, ?_⟩, fin rfl (.int _)⟩
    exact Nat.le_of_ble_eq_true h3
end
end Rf

set_option Elab.async false
set_option linter.all false
set_option maxRecDepth 100000
set_option maxHeartbeats 4000000
namespace Rf
open PySem PySem.Spec PyProof.Rows L2
section
variable {K : PySem.W.Frag} {G H : Hp} {x : V} {d : D}
theorem Rds.tuple {xs : List D} (r : Rds K G H d x) (e : d = .tuple xs) : ∃ a ys, x = .ref a ∧ SqT K G a ys ∧ PuA K G xs ys := by
  cases r with
  | rd r => exact r.tuple e
  | sc h q => cases e
theorem Rds.int {i : Int} (r : Rds K G H d x) (e : d = .int i) : x = .int i := by
  cases r with
  | rd r => exact r.int e
  | sc h q => cases e
theorem Rds.bl {i : Bool} (r : Rds K G H d x) (e : d = .bool i) : x = .bl i := by
  cases r with
  | rd r => exact r.bl e
  | sc h q => cases e
theorem Rds.str {i : Str} (r : Rds K G H d x) (e : d = .str i) : x = .str i := by
  cases r with
  | rd r => exact r.str e
  | sc h q => cases e
theorem Rds.non (r : Rds K G H d x) (e : d = .none) : x = .non := by
  subst e
  cases r with
  | rd r => cases r with
    | pu p => cases p; rfl
theorem Rds.pu (r : Pu K G d x) : Rds K G H d x := .rd (.pu r)
end

/-! ### comparisons -/
def copOf : COp → CmpOp
  | .eq => .Eq | .ne => .NotEq | .lt => .Lt | .le => .LtE | .gt => .Gt | .ge => .GtE | .isN => .Is | .notN => .IsNot | .isB => .Is | .notB => .IsNot | .mem => .In | .nmem => .NotIn
def rCmpV (K : PySem.W.Frag) (o : COp) : R2 := fun x y H Q => ∃ G p q r, Sub G H ∧ Rds K G H p x ∧ Rds K G H q y ∧ cmpV o p q = some r ∧ Q (.bl r) H
theorem scal_ok {K : PySem.W.Frag} {G H : Hp} {p q : D} {x y : V} {r : Bool} (rp : Rds K G H p x) (rq : Rds K G H q y) (e : scalD p q = some r) : scal x y = true ∧ decide (x = y) = r := by
  cases p <;> cases q <;> simp only [scalD] at e <;> (try cases e)
  all_goals (first
    | (have a := rp.non rfl) | (have a := rp.int rfl) | (have a := rp.bl rfl) | (have a := rp.str rfl))
  all_goals (first
    | (have b := rq.non rfl) | (have b := rq.int rfl) | (have b := rq.bl rfl) | (have b := rq.str rfl))
  all_goals (subst a; subst b; simp [scal])
theorem nd_of {d : D} (h : SeqAt.shaped d = true) : d.hasDict = false := PyData.hasDict_of_canLay d (SeqAt.canLay_of_shaped h)
section
variable {X : Cx}
theorem op_eqV (hu : X.A.units + 65 < cLine) : OpR X (compareOp .Eq) (rCmpV X.K .eq) := by
  intro pins s σ H x y v u Q I rx ry h
  obtain ⟨G, p, q, r, sb, rp, rq, e, hq⟩ := h
  have e' : eqD p q = some r := e
  unfold eqD at e'
  split at e'
  · rename_i k hk
    cases e'
    obtain ⟨h1, h2⟩ := scal_ok rp rq hk
    exact L2.op_eq pins s σ H x y v u Q I rx ry ⟨h1, by rw [h2]; exact hq⟩
  · split at e' <;> (try cases e')
    rename_i hs
    obtain ⟨h1, h2⟩ := ands hs
    exact L2.op_eqD (by omega) pins s σ H x y v u Q I rx ry ⟨p, q, rp.dp (nd_of h1) sb, rq.dp (nd_of h2) sb, h1, h2, hq⟩
theorem op_neV (hu : X.A.units + 65 < cLine) : OpR X (compareOp .NotEq) (rCmpV X.K .ne) := by
  intro pins s σ H x y v u Q I rx ry h
  obtain ⟨G, p, q, r, sb, rp, rq, e, hq⟩ := h
  have e0 : (eqD p q).map not = some r := e
  cases e1 : eqD p q with
  | none => rw [e1] at e0; cases e0
  | some k =>
    rw [e1] at e0
    have e2 : (!k) = r := Option.some.inj e0
    subst e2
    have e' : eqD p q = some k := e1
    unfold eqD at e'
    split at e'
    · rename_i k' hk
      cases e'
      obtain ⟨h1, h2⟩ := scal_ok rp rq hk
      exact L2.op_ne pins s σ H x y v u Q I rx ry ⟨h1, by rw [h2]; exact hq⟩
    · split at e' <;> (try cases e')
      rename_i hs
      obtain ⟨h1, h2⟩ := ands hs
      exact L2.op_neD (by omega) pins s σ H x y v u Q I rx ry ⟨p, q, rp.dp (nd_of h1) sb, rq.dp (nd_of h2) sb, h1, h2, hq⟩
theorem mem_ok {K : PySem.W.Frag} {G H : Hp} (sb : Sub G H) {p q : D} {x y : V} {r : Bool} (rp : Rds K G H p x) (rq : Rds K G H q y) (e : memD p q = some r) :
    ∃ ds, (q = .list ds ∨ q = .tuple ds) ∧ Dp K H x p ∧ Dp K H y q ∧ SeqAt.shaped p = true ∧ SeqAt.shaped (.list ds) = true ∧ r = ds.any fun z => PyData.eqv z p := by
  cases q <;> simp only [memD] at e <;> (try cases e)
  · split at e <;> (try cases e)
    rename_i ds hs
    obtain ⟨h1, h2⟩ := ands hs
    exact ⟨ds, .inl rfl, rp.dp (nd_of h1) sb, rq.dp (nd_of h2) sb, h1, h2, rfl⟩
  · split at e <;> (try cases e)
    rename_i ds hs
    obtain ⟨h1, h2⟩ := ands hs
    exact ⟨ds, .inr rfl, rp.dp (nd_of h1) sb, rq.dp (by have := nd_of h2; simpa only [PyData.hasDict] using this) sb, h1, h2, rfl⟩
theorem op_memV (hu : X.A.units + 65 < cLine) : OpR X (compareOp .In) (rCmpV X.K .mem) := by
  intro pins s σ H x y v u Q I rx ry h
  obtain ⟨G, p, q, r, sb, rp, rq, e, hq⟩ := h
  obtain ⟨ds, hq', dx, dy, h1, h2, rfl⟩ := mem_ok sb rp rq e
  obtain ⟨as, r1⟩ := Dp.reads I p x v dx rx
  obtain ⟨bs, r2⟩ := Dp.reads I q y u dy ry
  rcases hq' with rfl | rfl
  · exact SeqAt.in_list_reads r2 r1 (SeqAt.canLay_of_shaped h2) (SeqAt.canLay_of_shaped h1) (room_in_shaped h1 hu) ⟨.bl _, H, I, rfl, hq⟩
  · exact SeqAt.in_tuple_reads r2 r1 (SeqAt.canLay_of_shaped h2) (SeqAt.canLay_of_shaped h1) (room_in_shaped h1 hu) ⟨.bl _, H, I, rfl, hq⟩
theorem op_nmemV (hu : X.A.units + 65 < cLine) : OpR X (compareOp .NotIn) (rCmpV X.K .nmem) := by
  intro pins s σ H x y v u Q I rx ry h
  obtain ⟨G, p, q, r, sb, rp, rq, e, hq⟩ := h
  have e0 : (memD p q).map not = some r := e
  cases e1 : memD p q with
  | none => rw [e1] at e0; cases e0
  | some k =>
    rw [e1] at e0
    have e2 : (!k) = r := Option.some.inj e0
    subst e2
    obtain ⟨ds, hq', dx, dy, h1, h2, rfl⟩ := mem_ok sb rp rq e1
    obtain ⟨as, r1⟩ := Dp.reads I p x v dx rx
    obtain ⟨bs, r2⟩ := Dp.reads I q y u dy ry
    rcases hq' with rfl | rfl
    · exact SeqAt.notIn_list_reads r2 r1 (SeqAt.canLay_of_shaped h2) (SeqAt.canLay_of_shaped h1) (room_in_shaped h1 hu) ⟨.bl _, H, I, rfl, hq⟩
    · exact SeqAt.notIn_tuple_reads r2 r1 (SeqAt.canLay_of_shaped h2) (SeqAt.canLay_of_shaped h1) (room_in_shaped h1 hu) ⟨.bl _, H, I, rfl, hq⟩
theorem non_iff {K : PySem.W.Frag} {G H : Hp} {p : D} {x : V} (rp : Rds K G H p x) : decide (x = .non) = isNon p := by
  cases rp with
  | rd r => cases r with
    | pu a => cases a <;> simp [isNon]
    | li _ _ => simp [isNon]
    | di _ _ => simp [isNon]
  | sc _ _ => simp [isNon]
theorem op_cmpV (hu : X.A.units + 65 < cLine) (o : COp) : OpR X (compareOp (copOf o)) (rCmpV X.K o) := by
  cases o with
  | eq => exact op_eqV hu
  | ne => exact op_neV hu
  | mem => exact op_memV hu
  | nmem => exact op_nmemV hu
  | lt =>
    intro pins s σ H x y v u Q I rx ry h
    obtain ⟨G, p, q, r, sb, rp, rq, e, hq⟩ := h
    cases p <;> cases q <;> simp only [cmpV] at e <;> (try cases e)
    have e1 := rp.int rfl; have e2 := rq.int rfl; subst e1; subst e2
    exact L2.op_lt pins s σ H _ _ v u Q I rx ry ⟨_, _, rfl, rfl, hq⟩
  | le =>
    intro pins s σ H x y v u Q I rx ry h
    obtain ⟨G, p, q, r, sb, rp, rq, e, hq⟩ := h
    cases p <;> cases q <;> simp only [cmpV] at e <;> (try cases e)
    have e1 := rp.int rfl; have e2 := rq.int rfl; subst e1; subst e2
    exact L2.op_le pins s σ H _ _ v u Q I rx ry ⟨_, _, rfl, rfl, hq⟩
  | gt =>
    intro pins s σ H x y v u Q I rx ry h
    obtain ⟨G, p, q, r, sb, rp, rq, e, hq⟩ := h
    cases p <;> cases q <;> simp only [cmpV] at e <;> (try cases e)
    have e1 := rp.int rfl; have e2 := rq.int rfl; subst e1; subst e2
    exact L2.op_gt pins s σ H _ _ v u Q I rx ry ⟨_, _, rfl, rfl, hq⟩
  | ge =>
    intro pins s σ H x y v u Q I rx ry h
    obtain ⟨G, p, q, r, sb, rp, rq, e, hq⟩ := h
    cases p <;> cases q <;> simp only [cmpV] at e <;> (try cases e)
    have e1 := rp.int rfl; have e2 := rq.int rfl; subst e1; subst e2
    exact L2.op_ge pins s σ H _ _ v u Q I rx ry ⟨_, _, rfl, rfl, hq⟩
  | isN =>
    intro pins s σ H x y v u Q I rx ry h
    obtain ⟨G, p, q, r, sb, rp, rq, e, hq⟩ := h
    cases q with
    | none =>
      have e2 := rq.non rfl
      have e' : isNon p = r := Option.some.inj (show some (isNon p) = some r from e)
      exact L2.op_isN pins s σ H x y v u Q I rx ry ⟨e2, by rw [non_iff rp, e']; exact hq⟩
    | _ => simp [cmpV] at e
  | notN =>
    intro pins s σ H x y v u Q I rx ry h
    obtain ⟨G, p, q, r, sb, rp, rq, e, hq⟩ := h
    cases q with
    | none =>
      have e2 := rq.non rfl
      have e' : (!isNon p) = r := Option.some.inj (show some (!isNon p) = some r from e)
      exact L2.op_notN pins s σ H x y v u Q I rx ry ⟨e2, by rw [non_iff rp, e']; exact hq⟩
    | _ => simp [cmpV] at e
  | isB =>
    intro pins s σ H x y v u Q I rx ry h
    obtain ⟨G, p, q, r, sb, rp, rq, e, hq⟩ := h
    cases p <;> cases q <;> simp only [cmpV] at e <;> (try cases e)
    have e1 := rp.bl rfl; have e2 := rq.bl rfl; subst e1; subst e2
    exact L2.op_isBl pins s σ H _ _ v u Q I rx ry ⟨_, _, rfl, rfl, hq⟩
  | notB =>
    intro pins s σ H x y v u Q I rx ry h
    obtain ⟨G, p, q, r, sb, rp, rq, e, hq⟩ := h
    cases p <;> cases q <;> simp only [cmpV] at e <;> (try cases e)
    have e1 := rp.bl rfl; have e2 := rq.bl rfl; subst e1; subst e2
    exact L2.op_notBl pins s σ H _ _ v u Q I rx ry ⟨_, _, rfl, rfl, hq⟩
end

/-! ### items, slices -/
section
variable {X : Cx}
theorem atI_pu {K : PySem.W.Frag} {G : Hp} {xs : List D} {ys : List V} {i : Int} {d : D} (r : PuA K G xs ys) (e : ixOf xs i = some d) : ∃ v, atI ys i = some v ∧ Pu K G d v := by
  have e' : (ixN xs.length i).bind (fun j => xs[j]?) = some d := e
  cases h : ixN xs.length i with
  | none => rw [h] at e'; cases e'
  | some j =>
    rw [h] at e'
    obtain ⟨v, h1, h2⟩ := r.get (show xs[j]? = some d from e')
    refine ⟨v, ?_, h2⟩
    show (ixN ys.length i).bind (fun j => ys[j]?) = some v
    rw [← r.length, h]
    exact h1
def rIdxV (K : PySem.W.Frag) : R2 := fun x y H Q => ∃ G p k r, Sub G H ∧ Rds K G H p x ∧ y = .int k ∧ idxV p (.int k) = some r ∧ ∀ z, Pu K G r z → Q z H
theorem ix_V : IxR X (rIdxV X.K) := by
  intro value slice pins s σ H x y v u Q I rx ry h hs
  obtain ⟨G, p, k, r, sb, rp, rfl, e, hq⟩ := h
  cases p <;> simp only [idxV] at e <;> (try cases e)
  · obtain ⟨a, ys, rfl, h1, h2⟩ := rp.list sb rfl
    obtain ⟨z, h3, h4⟩ := atI_pu h2 e
    exact L2.ix_list value slice pins s σ H _ _ v u Q I rx ry ⟨a, ys, k, z, rfl, rfl, h1, h3, hq z h4⟩ hs
  · obtain ⟨a, ys, rfl, h1, h2⟩ := rp.tuple rfl
    obtain ⟨z, h3, h4⟩ := atI_pu h2 e
    exact L2.ix_tup value slice pins s σ H _ _ v u Q I rx ry ⟨a, ys, k, z, rfl, rfl, sqT_sub sb h1, h3, hq z h4⟩ hs
theorem cut_pu {K : PySem.W.Frag} {G : Hp} {xs : List D} {ys : List V} (r : PuA K G xs ys) (lo hi : Option Int) : PuA K G (cutL xs lo hi) (cutV ys lo hi) := by
  unfold cutL cutV
  rw [r.length]
  exact (r.drop _).take _
def rSlcV (K : PySem.W.Frag) : V → Option Int → Option Int → Hp → VK → Prop := fun x lo hi H Q => ∃ G p res, Sub G H ∧ Rds K G H p x ∧ slcV p lo hi = some res ∧ RQ K G H res Q
theorem sl_V : SlR X (rSlcV X.K) := by
  intro pins s σ H x v vl vu lo hi sl Q I rx hs pl pu h
  obtain ⟨G, p, res, sb, rp, e, hq⟩ := h
  cases p <;> simp only [slcV] at e <;> (try cases e)
  · obtain ⟨a, ys, rfl, h1, h2⟩ := rp.list sb rfl
    exact L2.sl_list pins s σ H _ v vl vu lo hi sl Q I rx hs pl pu ⟨a, ys, rfl, h1, fun q hp => RQ.fr hq sb (cut_pu h2 lo hi) hp⟩
  · obtain ⟨a, ys, rfl, h1, h2⟩ := rp.tuple rfl
    refine L2.sl_tupA pins s σ H _ v vl vu lo hi sl Q I rx hs pl pu ⟨a, ys, rfl, sqT_sub sb h1, fun hw => ?_, fun _ q hp => RQ.tup hq sb (cut_pu h2 lo hi) hp⟩
    refine RQ.pu hq sb (.tup h1 ?_)
    have c := cut_pu h2 lo hi
    have ec : cutV ys lo hi = ys := by
      unfold cutV
      rw [hw.1, hw.2]
      simp
    rw [ec] at c
    exact c
end

/-! ### sorting -/
section
open PySem.W
variable {α : Type} {le : α → α → Bool}
theorem mem_ins {a x : α} : ∀ {l : List α}, x ∈ ins le a l → x = a ∨ x ∈ l
  | [], h => by simpa [ins] using h
  | b :: r, h => by
    unfold ins at h
    split at h
    · simpa using h
    · rcases List.mem_cons.mp h with e | h
      · exact .inr (by rw [e]; exact List.mem_cons_self)
      · exact (mem_ins h).imp id (List.mem_cons_of_mem _)
theorem ins_sorted (T : TotalLe le) (a : α) : ∀ {l : List α}, l.Pairwise (fun a b => le a b = true) → (ins le a l).Pairwise (fun a b => le a b = true)
  | [], _ => by simp [ins]
  | b :: r, h => by
    obtain ⟨h1, h2⟩ := List.pairwise_cons.mp h
    unfold ins
    split
    · rename_i hab
      refine List.pairwise_cons.mpr ⟨fun x hx => ?_, h⟩
      rcases List.mem_cons.mp hx with e | hx
      · rw [e]; exact hab
      · exact T.trans _ _ _ hab (h1 x hx)
    · rename_i hab
      refine List.pairwise_cons.mpr ⟨fun x hx => ?_, ins_sorted T a h2⟩
      rcases mem_ins hx with e | hx
      · rw [e]; exact (T.total a b).resolve_left hab
      · exact h1 x hx
theorem ins_filter (c a : α) : ∀ (l : List α), (ins le a l).filter (sameRank le c) = (a :: l).filter (sameRank le c) ∨ ¬ TotalLe le
  | [] => .inl rfl
  | b :: r => by
    by_cases T : TotalLe le
    · refine .inl ?_
      unfold ins
      split
      · rfl
      · rename_i hab
        have ih := (ins_filter c a r).resolve_right (fun z => z T)
        have e1 : (b :: ins le a r).filter (sameRank le c) = (if sameRank le c b = true then [b] else []) ++ (ins le a r).filter (sameRank le c) := by
          rw [List.filter_cons]; split <;> rfl
        rw [e1, ih, List.filter_cons, List.filter_cons, List.filter_cons]
        cases ha : sameRank le c a with
        | false => cases hb : sameRank le c b <;> simp
        | true =>
          cases hb : sameRank le c b with
          | false => simp
          | true =>
            exfalso
            unfold sameRank at ha hb
            obtain ⟨a1, a2⟩ := ands ha
            obtain ⟨b1, b2⟩ := ands hb
            exact hab (T.trans _ _ _ a2 b1)
    · exact .inr T
theorem isort_eq (T : TotalLe le) (l : List α) : isort le l = l.mergeSort le := by
  refine sort_unique T ?_ fun c => ?_
  · induction l with
    | nil => exact List.Pairwise.nil
    | cons a r ih => exact ins_sorted T a ih
  · induction l with
    | nil => rfl
    | cons a r ih =>
      show (ins le a (isort le r)).filter _ = _
      rw [(ins_filter c a _).resolve_right (fun z => z T), List.filter_cons, List.filter_cons, ih]
end
end Rf

set_option Elab.async false
set_option linter.all false
set_option maxRecDepth 100000
set_option maxHeartbeats 4000000
namespace Rf
open PySem PySem.Spec PyProof.Rows L2

/-- arguments, read now -/
inductive RdsA (K : PySem.W.Frag) (G H : Hp) : List D → List V → Prop
  | nil : RdsA K G H [] []
  | cons {d : D} {v : V} {ds : List D} {vs : List V} : Rds K G H d v → RdsA K G H ds vs → RdsA K G H (d :: ds) (v :: vs)
section
variable {K : PySem.W.Frag} {G H : Hp}
theorem RdsA.one {d : D} {vs : List V} (r : RdsA K G H [d] vs) : ∃ v, vs = [v] ∧ Rds K G H d v := by
  cases r with
  | cons a b => cases b; exact ⟨_, rfl, a⟩
theorem RdsA.two {d e : D} {vs : List V} (r : RdsA K G H [d, e] vs) : ∃ v w, vs = [v, w] ∧ Rds K G H d v ∧ Rds K G H e w := by
  cases r with
  | cons a b => cases b with
    | cons c t => cases t; exact ⟨_, _, rfl, a, c⟩
theorem bools_ok : ∀ {ds : List D} {ys : List V} {bs : List Bool}, PuA K G ds ys → boolsOf ds = some bs → ys = bs.map V.bl
  | [], _, _, .nil, e => by simp [boolsOf] at e; subst e; rfl
  | d :: ds, _, bs, .cons a b, e => by
    cases d <;> simp only [boolsOf] at e <;> (try cases e)
    cases h : boolsOf ds with
    | none => rw [h] at e; cases e
    | some cs =>
      rw [h] at e
      have e' := Option.some.inj e
      subst e'
      cases a
      rw [bools_ok b h]; rfl
theorem ints_ok : ∀ {ds : List D} {ys : List V} {ns : List Int}, PuA K G ds ys → intsOf ds = some ns → ys = ns.map V.int
  | [], _, _, .nil, e => by simp [intsOf] at e; subst e; rfl
  | d :: ds, _, ns, .cons a b, e => by
    cases d <;> simp only [intsOf] at e <;> (try cases e)
    cases h : intsOf ds with
    | none => rw [h] at e; cases e
    | some cs =>
      rw [h] at e
      have e' := Option.some.inj e
      subst e'
      cases a
      rw [ints_ok b h]; rfl
end
/-! ### what repr shows -/
mutual
theorem rOk_lay : ∀ d : D, rOk d = true → d.showable = true ∧ d.leavesShort 1000 = true
  | .none, _ => ⟨rfl, rfl⟩
  | .bool _, _ => ⟨rfl, rfl⟩
  | .int i, h => by
    have h' : (Nat.blt i.natAbs 1000000000000 || (Nat.blt i.natAbs.log2 1920 && Nat.ble (PyData.shown (.int i)).length 1000)) = true := by simpa only [rOk] using h
    rw [Bool.or_eq_true] at h'
    rcases h' with h' | h'
    · have h1 : i.natAbs < 1000000000000 := Nat.le_of_ble_eq_true h'
      have h2 : i.natAbs.log2 < 1920 := log2_small (Nat.lt_of_lt_of_le h1 (by
        have e : (1000000000000 : Nat) ≤ 2 ^ 40 := by decide
        exact Nat.le_trans e (Nat.pow_le_pow_right (by decide) (by decide))))
      have h3 := PyData.shown_int_le (i := i) (by simpa using h1)
      simp only [PyData.showable, PyData.leavesShort, decide_eq_true_eq]
      exact ⟨h2, by omega⟩
    · obtain ⟨h1, h2⟩ := ands h'
      simp only [PyData.showable, PyData.leavesShort, decide_eq_true_eq]
      exact ⟨Nat.le_of_ble_eq_true h1, Nat.le_of_ble_eq_true h2⟩
  | .str x, h => by
    have h' : (PyData.strOk x && Nat.ble (reprText x).length 1000) = true := by simpa only [rOk] using h
    obtain ⟨h1, h2⟩ := ands h'
    have c : PyData.canLay0 (.str x) = true := by simpa only [PyData.canLay0] using h1
    exact ⟨by simp only [PyData.showable], PyData.leavesShort_of_canLay0 1000 (.str x) c (by simp only [PyData.intsShort])⟩
  | .list xs, h => by
    have := rOkAll_lay xs (by simpa only [rOk] using h)
    simp only [PyData.showable, PyData.leavesShort]
    exact this
  | .tuple xs, h => by
    have := rOkAll_lay xs (by simpa only [rOk] using h)
    simp only [PyData.showable, PyData.leavesShort]
    exact this
  | .dict kvs, h => by
    cases kvs with
    | nil => exact ⟨rfl, rfl⟩
    | cons _ _ => simp only [rOk] at h; exact nomatch h
theorem rOkAll_lay : ∀ ds : List D, rOkAll ds = true → PyData.showableAll ds = true ∧ PyData.leavesShortAll 1000 ds = true
  | [], _ => ⟨rfl, rfl⟩
  | d :: ds, h => by
    have h' : (rOk d && rOkAll ds) = true := by simpa only [rOkAll] using h
    obtain ⟨h1, h2⟩ := ands h'
    obtain ⟨a2, a3⟩ := rOk_lay d h1
    obtain ⟨b2, b3⟩ := rOkAll_lay ds h2
    simp only [PyData.showableAll, PyData.leavesShortAll, a2, a3, b2, b3]
    exact ⟨rfl, rfl⟩
end
theorem reprOk_ok {d : D} (h : reprOk d = true) : rOk d = true ∧ (d.hasDict = true → noLst d = true) ∧ d.showable = true ∧ d.depth ≤ 64 ∧ d.shown.length ≤ sizeLine := by
  unfold reprOk at h
  obtain ⟨h12, h3⟩ := ands h
  obtain ⟨h10, h2⟩ := ands h12
  obtain ⟨h1, h0⟩ := ands h10
  obtain ⟨a2, a3⟩ := rOk_lay d h1
  have b : d.bulk ≤ 15000 := Nat.le_of_ble_eq_true h3
  refine ⟨h1, fun z => ?_, a2, Nat.le_of_ble_eq_true h2, ?_⟩
  · rw [z] at h0; simpa using h0
  have := PyData.shown_le_bulk 1000 (by decide) d a3
  rw [sizeLine_eq]
  have : (1000 + 2) * d.bulk ≤ 1002 * 15000 := Nat.mul_le_mul (by decide) b
  omega
/-! data with empty dicts -/
mutual
inductive Dq (K : PySem.W.Frag) (H : Hp) : V → D → Prop
  | non : Dq K H .non .none
  | bl (b : Bool) : Dq K H (.bl b) (.bool b)
  | int (i : Int) : Dq K H (.int i) (.int i)
  | str (x : Str) : Dq K H (.str x) (.str x)
  | lst {a : Addr} {xs : List V} {ds : List D} : SqL K H a xs → DqAll K H xs ds → Dq K H (.ref a) (.list ds)
  | tup {a : Addr} {xs : List V} {ds : List D} : SqT K H a xs → DqAll K H xs ds → Dq K H (.ref a) (.tuple ds)
  | dic {a : Addr} : H a = some (.dK []) → Dq K H (.ref a) (.dict [])
inductive DqAll (K : PySem.W.Frag) (H : Hp) : List V → List D → Prop
  | nil : DqAll K H [] []
  | cons {v : V} {vs : List V} {d : D} {ds : List D} : Dq K H v d → DqAll K H vs ds → DqAll K H (v :: vs) (d :: ds)
end
mutual
theorem Pu.dq {K : PySem.W.Frag} {G : Hp} : ∀ {d : D} {v : V}, rOk d = true → Pu K G d v → Dq K G v d
  | _, _, _, .non => .non
  | _, _, _, .bl b => .bl b
  | _, _, _, .int i => .int i
  | _, _, _, .str x => .str x
  | _, _, h, .lst e r => .lst (SqL.of e) (PuA.dq (by simpa only [rOk] using h) r)
  | _, _, h, .tup e r => .tup e (PuA.dq (by simpa only [rOk] using h) r)
  | _, _, h, .dic e r => by
    cases r with
    | nil => exact .dic e
    | cons _ _ _ => simp only [rOk] at h; exact nomatch h
theorem PuA.dq {K : PySem.W.Frag} {G : Hp} : ∀ {ds : List D} {vs : List V}, rOkAll ds = true → PuA K G ds vs → DqAll K G vs ds
  | _, _, _, .nil => .nil
  | _, _, h, .cons a b => by
    simp only [rOkAll, Bool.and_eq_true] at h
    exact .cons (Pu.dq h.1 a) (PuA.dq h.2 b)
end
theorem Rdv.dq {K : PySem.W.Frag} {G H : Hp} {x : V} {d : D} (n : rOk d = true) (s : Sub G H) (r : Rdv K G H d x) : Dq K H x d := by
  cases r with
  | pu p => exact (p.mono s).dq n
  | li h q => exact .lst (SqL.of h) ((q.mono s).dq (by simpa only [rOk] using n))
  | di h q =>
    cases q with
    | nil => exact .dic h
    | cons _ _ _ => simp only [rOk] at n; exact nomatch n
theorem Rds.dq {K : PySem.W.Frag} {G H : Hp} {x : V} {d : D} (n : rOk d = true) (s : Sub G H) (r : Rds K G H d x) : Dq K H x d := by
  cases r with
  | rd r => exact r.dq n s
  | sc h q => exact .lst h ((q.mono s).dq (by simpa only [rOk] using n))
section
variable {X : Cx} {pins : List (Addr × Obj)} {σ : L2.St} {H : Hp} {s : Shared}
mutual
theorem Dq.reads (I : Inv X pins σ H s) : ∀ (d : D) (v : V) (u : Value), Dq X.K H v d → RelV v u → ∃ as, Reads s.heap u d as ∧ (noLst d = true → sysModules ∉ as)
  | .none, _, _, h, r => by
    cases h
    cases r
    exact ⟨_, Reads.none, fun _ => by simp⟩
  | .bool b, _, _, h, r => by
    cases h
    cases r
    exact ⟨_, Reads.bool b, fun _ => by simp⟩
  | .int i, _, _, h, r => by
    cases h
    obtain ⟨t, rfl⟩ := r
    exact ⟨_, Reads.int i t, fun _ => by simp⟩
  | .str x, _, _, h, r => by
    cases h
    obtain ⟨t, rfl⟩ := r
    exact ⟨_, Reads.str x t, fun _ => by simp⟩
  | .list ds, _, _, h, r => by
    cases h with
    | lst hs ha =>
      cases r
      obtain ⟨its, rv, ⟨o, n, ho, hc, _, hd⟩, _⟩ := I.list hs
      obtain ⟨as, hr, _⟩ := Dq.readsAll I ds _ its ha rv
      exact ⟨_, Reads.list ho hc hd hr, fun z => by simp only [noLst] at z; cases z⟩
  | .tuple ds, _, _, h, r => by
    cases h with
    | tup hs ha =>
      cases r
      obtain ⟨its, rv, ⟨o, ho, hc, n, hd⟩, _⟩ := I.tuple hs
      obtain ⟨as, hr, hn⟩ := Dq.readsAll I ds _ its ha rv
      exact ⟨_, Reads.tuple ho hc hd hr, fun z => hn (by simpa only [noLst] using z)⟩
  | .dict kvs, _, _, h, r => by
    cases h with
    | dic e =>
      cases r
      obtain ⟨_, hm, vs, r0, o, es, ep, ho, hx, hd, _, hp, _⟩ := L2.dk_of I.hok e
      cases r0
      have he : es.toList = [] := by
        cases q : es.toList with
        | nil => rfl
        | cons a r => rw [q] at hp; cases hp
      refine ⟨_, Reads.dict (as := []) (bs := []) ho hx.1 hd (by rw [he]; exact .nil) (by rw [he]; exact .nil), fun _ => ?_⟩
      simpa using fun z => (beq_eq_false_iff_ne.mp hm) z.symm
theorem Dq.readsAll (I : Inv X pins σ H s) : ∀ (ds : List D) (vs : List V) (us : List Value), DqAll X.K H vs ds → Vals vs us → ∃ as, ReadsAll s.heap us ds as ∧ (noLsts ds = true → sysModules ∉ as)
  | [], _, _, h, r => by
    cases h
    cases r
    exact ⟨_, ReadsAll.nil, fun _ => by simp⟩
  | d :: ds, _, _, h, r => by
    cases h with
    | cons h1 h2 =>
      cases r with
      | cons r1 r2 =>
        obtain ⟨as, q1, n1⟩ := Dq.reads I d _ _ h1 r1
        obtain ⟨bs, q2, n2⟩ := Dq.readsAll I ds _ _ h2 r2
        refine ⟨_, ReadsAll.cons q1 q2, fun z => ?_⟩
        simp only [noLsts, Bool.and_eq_true] at z
        simpa using ⟨n1 z.1, n2 z.2⟩
end
end
section
variable {X : Cx}
/-- repr of data -/
theorem repr_run {pins : List (Addr × Obj)} {s : Shared} {σ : L2.St} {H : Hp} {x : V} {u : Value} {d : D} {Q : VK} (hg : X.A.guards = some []) (hu : X.A.units + 65 < cLine) (I : Inv X pins σ H s) (r : RelV x u) (dp : Dq X.K H x d) (ok : reprOk d = true)
    (q : Q (.str d.shown) H) : wpAny (model X.prog X.w) X.A (call (.builtin "repr") [u]) (EP X pins σ Q) X.xe s := by
  obtain ⟨h1, h0, h2, h3, h4⟩ := reprOk_ok ok
  have ref : ∀ a as, u = .ref a → Reads s.heap (.ref a) d as → (noLst d = true → sysModules ∉ as) → wpAny (model X.prog X.w) X.A (call (.builtin "repr") [u]) (EP X pins σ Q) X.xe s := by
    rintro a as rfl rd hno
    refine repr_of_reads' rd h2 (fun z => ?_) hg (by omega) (fun _ _ e => e) (fun h' t tk hk => ?_) h4
    · exact hno (h0 z)
    · exact ⟨.str d.shown, H, I.kept (t' := tk) hk, ⟨_, rfl⟩, q⟩
  obtain ⟨as, rd, hno⟩ := Dq.reads I d x u dp r
  cases rd with
  | none => exact PySem.P.repr_of_none ⟨.str _, H, I.tok _, ⟨_, rfl⟩, q⟩
  | bool b => exact PySem.P.repr_of_bool ⟨.str _, H, I.tok _, ⟨_, rfl⟩, q⟩
  | int i t =>
    have hz : i.natAbs.log2 < 1920 := by simpa only [PyData.showable, decide_eq_true_eq] using h2
    exact PySem.P.repr_of_int hz ⟨.str _, H, I.tok _, ⟨_, rfl⟩, q⟩
  | str y t => exact PySem.P.repr_of_str ⟨.str _, H, I.tok _, ⟨_, rfl⟩, q⟩ h4
  | list a1 a2 a3 a4 => exact ref _ _ rfl (.list a1 a2 a3 a4) hno
  | tuple a1 a2 a3 a4 => exact ref _ _ rfl (.tuple a1 a2 a3 a4) hno
  | dict a1 a2 a3 a4 a5 => exact ref _ _ rfl (.dict a1 a2 a3 a4 a5) hno
end
/-! ### sorted -/
section
open PySem.W
theorem alikes_ok {d : D} : ∀ {l : List D}, alikes d l = true → ∀ e ∈ l, alike d e = true ∧ alike e d = true
  | [], _, e, he => by cases he
  | a :: r, h, e, he => by
    have h' : (alike d a && alike a d && alikes d r) = true := h
    obtain ⟨h12, h3⟩ := ands h'
    obtain ⟨h1, h2⟩ := ands h12
    rcases List.mem_cons.mp he with q | q
    · rw [q]; exact ⟨h1, h2⟩
    · exact alikes_ok h3 e q
theorem allAlike_ok : ∀ {l : List D}, allAlike l = true → AllAlike l
  | [], _ => fun d hd => by cases hd
  | a :: r, h => by
    have h' : (alike a a && alikes a r && allAlike r) = true := h
    obtain ⟨h12, h3⟩ := ands h'
    obtain ⟨h1, h2⟩ := ands h12
    intro d hd d' hd'
    rcases List.mem_cons.mp hd with q | q <;> rcases List.mem_cons.mp hd' with q' | q'
    · rw [q, q']; exact h1
    · rw [q]; exact (alikes_ok h2 d' q').1
    · rw [q']; exact (alikes_ok h2 d q).2
    · exact allAlike_ok h3 d q d' q'
theorem depth_mem : ∀ {l : List D} {d : D}, d ∈ l → d.depth ≤ PyData.depthAll l
  | a :: r, d, h => by
    simp only [PyData.depthAll]
    rcases List.mem_cons.mp h with q | q
    · rw [q]; exact Nat.le_max_left _ _
    · exact Nat.le_trans (depth_mem q) (Nat.le_max_right _ _)
/-- items with what stands for them -/
def pairs : List D → List V → List (D × V)
  | d :: ds, v :: vs => (d, v) :: pairs ds vs
  | _, _ => []
variable {K : PySem.W.Frag} {G H : Hp}
theorem pairs_fst : ∀ {ds : List D} {vs : List V}, PuA K G ds vs → (pairs ds vs).map Prod.fst = ds
  | _, _, .nil => rfl
  | _, _, .cons a b => by simp only [pairs, List.map_cons, pairs_fst b]
theorem pairs_snd : ∀ {ds : List D} {vs : List V}, PuA K G ds vs → (pairs ds vs).map Prod.snd = vs
  | _, _, .nil => rfl
  | _, _, .cons a b => by simp only [pairs, List.map_cons, pairs_snd b]
theorem pairs_pu : ∀ {ds : List D} {vs : List V}, PuA K G ds vs → ∀ p ∈ pairs ds vs, Pu K G p.1 p.2
  | _, _, .nil, p, hp => by cases hp
  | _, _, .cons a b, p, hp => by
    rcases List.mem_cons.mp hp with q | q
    · rw [q]; exact a
    · exact pairs_pu b p q
theorem puA_of : ∀ {l : List (D × V)}, (∀ p ∈ l, Pu K G p.1 p.2) → PuA K G (l.map Prod.fst) (l.map Prod.snd)
  | [], _ => .nil
  | p :: l, h => .cons (h p List.mem_cons_self) (puA_of fun q hq => h q (List.mem_cons_of_mem _ hq))
theorem each_pairs : ∀ {ds : List D} {vs : List V} {us : List Value}, PuA K G ds vs → Vals vs us → EachIs (fun (u : Value) (p : D × V) => RelV p.2 u) us (pairs ds vs)
  | _, _, _, .nil, .nil => .nil
  | _, _, _, .cons a b, .cons r t => .cons r (each_pairs b t)
theorem vals_each : ∀ {us : List Value} {ps : List (D × V)}, EachIs (fun (u : Value) (p : D × V) => RelV p.2 u) us ps → Vals (ps.map Prod.snd) us
  | _, _, .nil => .nil
  | _, _, .cons a b => .cons a (vals_each b)
end
section
variable {X : Cx}
open PySem.W in
theorem sorted_run {pins : List (Addr × Obj)} {s : Shared} {σ : L2.St} {G H : Hp} {a : Addr} {ds es : List D} {ys : List V} {Q : VK} (hu : X.A.units + 67 < cLine) (I : Inv X pins σ H s) (sb : Sub G H) (hl : SqL X.K H a ys) (pa : PuA X.K G ds ys) (ok : sortV ds = some es)
    (q : RQ X.K G H (.fr es) Q) : wpAny (model X.prog X.w) X.A (call (.builtin "sorted") [.ref a]) (EP X pins σ Q) X.xe s := by
  unfold sortV at ok
  split at ok <;> (try cases ok)
  rename_i hok
  unfold sortOk at hok
  obtain ⟨hok, h4⟩ := ands hok
  have h4' : PyData.hasDictAll ds = false := by simpa using h4
  have nd : ∀ {l : List D}, PyData.hasDictAll l = false → ∀ d ∈ l, d.hasDict = false := by
    intro l
    induction l with
    | nil => intro _ d hd; cases hd
    | cons a r ih =>
      intro z d hd
      simp only [PyData.hasDictAll, Bool.or_eq_false_iff] at z
      rcases List.mem_cons.mp hd with q | q
      · rw [q]; exact z.1
      · exact ih z.2 d q
  obtain ⟨h12, h3⟩ := ands hok
  obtain ⟨h1, h2⟩ := ands h12
  have h3' : PyData.depthAll ds ≤ 64 := Nat.le_of_ble_eq_true h3
  obtain ⟨its, rv, pl, hz⟩ := I.list hl
  have pf := pairs_fst pa
  have ps := pairs_snd pa
  have hn : (pairs ds ys).length = ys.length := by
    have e := congrArg List.length ps
    rw [List.length_map] at e
    exact e
  have T : TotalLe (dataLe false (id : D → D)) := sortLe_total _ _ _
  have rd : ∀ {us : List Value} {l : List (D × V)}, (∀ p ∈ l, Pu X.K G p.1 p.2 ∧ p.1.hasDict = false) → EachIs (fun (u : Value) (p : D × V) => RelV p.2 u) us l → EachIs (fun u (p : D × V) => ∃ as, Reads s.heap u (Prod.fst p) as) us l := by
    intro us l
    induction l generalizing us with
    | nil => intro _ h; cases h; exact .nil
    | cons p l ih =>
      intro hp h
      cases h with
      | cons r t => exact .cons (Dp.reads I _ _ _ (((hp p List.mem_cons_self).1.mono sb).dp (hp p List.mem_cons_self).2) r) (ih (fun z hz => hp z (List.mem_cons_of_mem _ hz)) t)
  refine sorted_data (β := D × V) (enc := Prod.fst) (R := fun (u : Value) (p : D × V) => RelV p.2 u) (bs := pairs ds ys) pl.isList (each_pairs pa rv) (rd (fun p hp => ⟨pairs_pu pa p hp, nd h4' _ (by rw [← pf]; exact List.mem_map_of_mem hp)⟩) (each_pairs pa rv)) ?_ ?_ ?_ ?_ ?_
  · rw [pf]; exact allAlike_ok h1
  · rw [pf]
    rw [Bool.or_eq_true] at h2
    rcases h2 with h2 | h2
    · refine .inl fun d hd => ?_
      have := List.all_eq_true.mp h2 d hd
      cases d with
      | tuple xs => cases xs with
        | nil => simp [tupNE] at this
        | cons x r => exact ⟨x, r, rfl⟩
      | _ => simp [tupNE] at this
    · refine .inr fun d hd => ?_
      have := List.all_eq_true.mp h2 d hd
      refine ⟨?_, fun xs => ?_⟩ <;> (rintro rfl; simp [noTupNone] at this)
  · rw [hn]; exact hz
  · intro p hp
    have : p.1 ∈ ds := by rw [← pf]; exact List.mem_map_of_mem hp
    have := depth_mem this
    omega
  · intro out ho eo
    obtain ⟨c, hc⟩ := sortedAll_at s.heap its out.toArray
    have sm := sort_maps (r := dataLe false (Prod.fst : D × V → D)) (s := dataLe false (id : D → D)) Prod.fst (l := pairs ds ys) (fun a _ b _ => rfl)
    have e1 : ((pairs ds ys).mergeSort (dataLe false Prod.fst)).map Prod.fst = isort (dataLe false id) ds := sm.trans (by rw [pf, isort_eq T])
    have v1 := vals_each eo
    have mem : ∀ p ∈ (pairs ds ys).mergeSort (dataLe false Prod.fst), Pu X.K G p.1 p.2 := fun p hp => pairs_pu pa p ((List.mergeSort_perm _ _).mem_iff.mp hp)
    have pu1 := puA_of mem
    rw [e1] at pu1
    have hf : H (s.heap.objs.size + 1) = none := I.hok.fresh (Nat.le_succ _)
    refine ⟨.ref (s.heap.objs.size + 1), upd H (s.heap.objs.size + 1) (.lst (((pairs ds ys).mergeSort (dataLe false Prod.fst)).map Prod.snd)), ?_, rfl, RQ.fr q sb pu1 hf⟩
    refine I.laid (t' := s.toks) (fun b o e => sortedAll_old e) (Nat.le_succ _) ⟨?_, out, c, v1, hc⟩
    rw [List.length_map, List.length_mergeSort, hn]; exact hz
end
end Rf

set_option Elab.async false
set_option linter.all false
set_option maxRecDepth 100000
set_option maxHeartbeats 4000000
namespace Rf
open PySem PySem.Spec PyProof.Rows L2

def rBlt (K : PySem.W.Frag) (b : Blt) : List V → Hp → VK → Prop := fun vs H Q => ∃ G ds res, Sub G H ∧ RdsA K G H ds vs ∧ bltV b ds = some res ∧ RQ K G H res Q
def bltName : Blt → Str
  | .len => "len" | .abs => "abs" | .max2 => "max" | .min2 => "min" | .int1 => "int" | .tuple1 => "tuple" | .list1 => "list" | .all1 => "all" | .any1 => "any" | .sum1 => "sum" | .sorted1 => "sorted" | .repr1 => "repr" | .gcd2 => "gcd" | .divmod2 => "divmod"
/-- a built-in function's id, or a built-in type's name -/
inductive BK where
  | fn (id : String) | ty (n : String)
def bltKind : Blt → BK
  | .len => .fn "len" | .abs => .fn "abs" | .max2 => .fn "max" | .min2 => .fn "min" | .int1 => .ty "int" | .tuple1 => .ty "tuple" | .list1 => .ty "list" | .all1 => .fn "all" | .any1 => .fn "any" | .sum1 => .fn "sum" | .sorted1 => .fn "sorted" | .repr1 => .fn "repr" | .gcd2 => .fn "math.gcd" | .divmod2 => .fn "divmod"
def BK.val : BK → Value
  | .fn id => .builtin id
  | .ty n => .type n
section
variable {X : Cx}
theorem call_blt (hc : X.calm = true) (hg : X.A.guards = some []) (hu : X.A.units + 67 < cLine) (b : Blt) : CallR X (bltKind b).val (rBlt X.K b) := by
  intro pins s σ H vs us Q I r h
  obtain ⟨G, ds, res, sb, ra, e, hq⟩ := h
  have fin : ∀ {d : D} {z : V}, res = .pu d → Pu X.K G d z → Q z H := fun {d z} e1 e2 => by subst e1; exact RQ.pu hq sb e2
  have i1 : ∀ {n : Int}, res = .pu (.int n) → Q (.int n) H := fun e1 => fin e1 (.int _)
  cases b with
  | len =>
    match ds, e with
    | [.list xs], e =>
      cases e
      obtain ⟨v, rfl, rv⟩ := ra.one
      obtain ⟨a, ys, rfl, h1, h2⟩ := rv.list sb rfl
      exact L2.call_len_seq pins s σ H _ us Q I r ⟨a, ys, rfl, .inl h1, by rw [← h2.length]; exact i1 rfl⟩
    | [.tuple xs], e =>
      cases e
      obtain ⟨v, rfl, rv⟩ := ra.one
      obtain ⟨a, ys, rfl, h1, h2⟩ := rv.tuple rfl
      exact L2.call_len_seq pins s σ H _ us Q I r ⟨a, ys, rfl, .inr (sqT_sub sb h1), by rw [← h2.length]; exact i1 rfl⟩
    | [.str z], e =>
      simp only [bltV] at e
      split at e <;> (try cases e)
      rename_i hz
      obtain ⟨v, rfl, rv⟩ := ra.one
      have e2 := rv.str rfl; subst e2
      exact L2.call_len_str pins s σ H _ us Q I r ⟨z, rfl, lenOk_le hz, i1 rfl⟩
  | abs =>
    match ds, e with
    | [.int i], e =>
      cases e
      obtain ⟨v, rfl, rv⟩ := ra.one
      have e2 := rv.int rfl; subst e2
      exact L2.call_abs pins s σ H _ us Q I r ⟨i, rfl, i1 rfl⟩
  | max2 =>
    match ds, e with
    | [.int i, .int j], e =>
      cases e
      obtain ⟨v, w, rfl, rv, rw'⟩ := ra.two
      have e2 := rv.int rfl; have e3 := rw'.int rfl; subst e2; subst e3
      exact L2.call_max2 hc pins s σ H _ us Q I r ⟨i, j, rfl, i1 rfl⟩
  | min2 =>
    match ds, e with
    | [.int i, .int j], e =>
      cases e
      obtain ⟨v, w, rfl, rv, rw'⟩ := ra.two
      have e2 := rv.int rfl; have e3 := rw'.int rfl; subst e2; subst e3
      exact L2.call_min2 hc pins s σ H _ us Q I r ⟨i, j, rfl, i1 rfl⟩
  | int1 =>
    match ds, e with
    | [.int i], e =>
      cases e
      obtain ⟨v, rfl, rv⟩ := ra.one
      have e2 := rv.int rfl; subst e2
      exact L2.call_int1 pins s σ H _ us Q I r (.inl ⟨i, rfl, i1 rfl⟩)
  | tuple1 =>
    match ds, e with
    | [.list xs], e =>
      cases e
      obtain ⟨v, rfl, rv⟩ := ra.one
      obtain ⟨a, ys, rfl, h1, h2⟩ := rv.list sb rfl
      exact L2.call_tuple_of pins s σ H _ us Q I r ⟨a, ys, rfl, .inl ⟨h1, fun p hp => RQ.tup hq sb h2 hp⟩⟩
    | [.tuple xs], e =>
      cases e
      obtain ⟨v, rfl, rv⟩ := ra.one
      obtain ⟨a, ys, rfl, h1, h2⟩ := rv.tuple rfl
      exact L2.call_tuple_of pins s σ H _ us Q I r ⟨a, ys, rfl, .inr ⟨sqT_sub sb h1, RQ.pu hq sb (.tup h1 h2)⟩⟩
  | list1 =>
    match ds, e with
    | [.list xs], e =>
      cases e
      obtain ⟨v, rfl, rv⟩ := ra.one
      obtain ⟨a, ys, rfl, h1, h2⟩ := rv.list sb rfl
      exact L2.call_list_of pins s σ H _ us Q I r ⟨a, ys, rfl, .inl h1, fun p hp => RQ.fr hq sb h2 hp⟩
    | [.tuple xs], e =>
      cases e
      obtain ⟨v, rfl, rv⟩ := ra.one
      obtain ⟨a, ys, rfl, h1, h2⟩ := rv.tuple rfl
      exact L2.call_list_of pins s σ H _ us Q I r ⟨a, ys, rfl, .inr (sqT_sub sb h1), fun p hp => RQ.fr hq sb h2 hp⟩
  | all1 =>
    match ds, e with
    | [.list xs], e =>
      simp only [bltV] at e
      cases hb : boolsOf xs with
      | none => rw [hb] at e; cases e
      | some bs =>
        rw [hb] at e
        have e' := Option.some.inj e
        obtain ⟨v, rfl, rv⟩ := ra.one
        obtain ⟨a, ys, rfl, h1, h2⟩ := rv.list sb rfl
        have := bools_ok h2 hb; subst this
        exact L2.cr_all hc pins s σ H _ us Q I r ⟨a, bs, rfl, h1, fin e'.symm (.bl _)⟩
  | any1 =>
    match ds, e with
    | [.list xs], e =>
      simp only [bltV] at e
      cases hb : boolsOf xs with
      | none => rw [hb] at e; cases e
      | some bs =>
        rw [hb] at e
        have e' := Option.some.inj e
        obtain ⟨v, rfl, rv⟩ := ra.one
        obtain ⟨a, ys, rfl, h1, h2⟩ := rv.list sb rfl
        have := bools_ok h2 hb; subst this
        exact L2.cr_any hc pins s σ H _ us Q I r ⟨a, bs, rfl, h1, fin e'.symm (.bl _)⟩
  | sum1 =>
    match ds, e with
    | [.list xs], e =>
      simp only [bltV] at e
      cases hb : intsOf xs with
      | none => rw [hb] at e; cases e
      | some ns =>
        rw [hb] at e
        have e' := Option.some.inj e
        obtain ⟨v, rfl, rv⟩ := ra.one
        obtain ⟨a, ys, rfl, h1, h2⟩ := rv.list sb rfl
        have := ints_ok h2 hb; subst this
        exact L2.cr_sum hc pins s σ H _ us Q I r ⟨a, ns, rfl, h1, fin e'.symm (.int _)⟩
    | [.tuple xs], e =>
      simp only [bltV] at e
      cases hb : intsOf xs with
      | none => rw [hb] at e; cases e
      | some ns =>
        rw [hb] at e
        have e' := Option.some.inj e
        obtain ⟨v, rfl, rv⟩ := ra.one
        obtain ⟨a, ys, rfl, h1, h2⟩ := rv.tuple rfl
        have := ints_ok h2 hb; subst this
        exact cr_sumT hc pins s σ H _ us Q I r ⟨a, ns, rfl, sqT_sub sb h1, fin e'.symm (.int _)⟩
  | sorted1 =>
    match ds, e with
    | [.list xs], e =>
      simp only [bltV] at e
      cases hb : sortV xs with
      | none => rw [hb] at e; cases e
      | some es =>
        rw [hb] at e
        have e' : res = .fr es := (Option.some.inj e).symm
        subst e'
        obtain ⟨v, rfl, rv⟩ := ra.one
        obtain ⟨a, ys, rfl, h1, h2⟩ := rv.list sb rfl
        obtain ⟨u, rfl, ru⟩ := vals1 r
        cases ru
        exact sorted_run hu I sb h1 h2 hb hq
  | repr1 =>
    match ds, e with
    | [d], e =>
      simp only [bltV] at e
      split at e <;> (try cases e)
      rename_i hz
      obtain ⟨v, rfl, rv⟩ := ra.one
      obtain ⟨u, rfl, ru⟩ := vals1 r
      exact repr_run hg (by omega) I ru (rv.dq (reprOk_ok hz).1 sb) hz (fin rfl (.str _))
  | gcd2 =>
    match ds, e with
    | [.int i, .int j], e =>
      cases e
      obtain ⟨v, w, rfl, rv, rw'⟩ := ra.two
      have e2 := rv.int rfl; have e3 := rw'.int rfl; subst e2; subst e3
      exact L2.cr_gcd pins s σ H _ us Q I r ⟨i, j, rfl, i1 rfl⟩
  | divmod2 =>
    match ds, e with
    | [.int i, .int j], e =>
      simp only [bltV] at e
      split at e <;> (try cases e)
      rename_i hz
      obtain ⟨h1, h2⟩ := ands hz
      obtain ⟨v, w, rfl, rv, rw'⟩ := ra.two
      have e2 := rv.int rfl; have e3 := rw'.int rfl; subst e2; subst e3
      exact L2.call_divmod pins s σ H _ us Q I r ⟨i, j, rfl, ⟨of_decide_eq_true h1, of_decide_eq_true h2⟩, fun p hp => RQ.tup hq sb (.cons (.int _) (.cons (.int _) .nil)) hp⟩
/-! ### isinstance -/
def tyN : Ty → String
  | .int => "int" | .bool => "bool" | .str => "str" | .list => "list" | .tuple => "tuple" | .dict => "dict"
def dTy : D → String
  | .none => "NoneType" | .bool _ => "bool" | .int _ => "int" | .str _ => "str" | .list _ => "list" | .tuple _ => "tuple" | .dict _ => "dict"
theorem tyX_of {K : PySem.W.Frag} {G H : Hp} (sb : Sub G H) {d : D} {x : V} (r : Rdv K G H d x) : TyX K H x (.type (dTy d)) := by
  cases r with
  | li h q => exact .base (.lst h)
  | di h q => exact .base (.dK h)
  | pu p =>
    cases p with
    | non => exact .base .non
    | bl b => exact .base (.bl b)
    | int i => exact .base (.int i)
    | str z => exact .base (.str z)
    | lst h q => exact .base (.lst (sb _ _ h))
    | dic h q => exact .base (.dK (sb _ _ h))
    | tup h q =>
      rcases sqT_sub sb h with (h | ⟨o, h⟩) | ⟨o, its, n, h1, h2, _⟩
      · exact .base (.tup h)
      · exact .fTuple h
      · exact .kTuple h1 h2
theorem kit_is (K : PySem.W.Frag) (d : D) (t : Ty) : PySem.W.kitOne K (.type (dTy d)) (.type (tyN t)) = some (tyIs t d) := by
  have h0 : ∀ t, kitB "NoneType" (tyN t) = some (tyIs t .none) := by intro t; cases t <;> decide +kernel
  have h1 : ∀ t, kitB "bool" (tyN t) = some (tyIs t (.bool true)) := by intro t; cases t <;> decide +kernel
  have h2 : ∀ t, kitB "int" (tyN t) = some (tyIs t (.int 0)) := by intro t; cases t <;> decide +kernel
  have h3 : ∀ t, kitB "str" (tyN t) = some (tyIs t (.str "")) := by intro t; cases t <;> decide +kernel
  have h4 : ∀ t, kitB "list" (tyN t) = some (tyIs t (.list [])) := by intro t; cases t <;> decide +kernel
  have h5 : ∀ t, kitB "tuple" (tyN t) = some (tyIs t (.tuple [])) := by intro t; cases t <;> decide +kernel
  have h6 : ∀ t, kitB "dict" (tyN t) = some (tyIs t (.dict [])) := by intro t; cases t <;> decide +kernel
  cases d with
  | none => exact kit_ty (h0 t)
  | bool b => exact kit_ty ((h1 t).trans (by cases t <;> rfl))
  | int i => exact kit_ty ((h2 t).trans (by cases t <;> rfl))
  | str x => exact kit_ty ((h3 t).trans (by cases t <;> rfl))
  | list xs => exact kit_ty ((h4 t).trans (by cases t <;> rfl))
  | tuple xs => exact kit_ty ((h5 t).trans (by cases t <;> rfl))
  | dict kvs => exact kit_ty ((h6 t).trans (by cases t <;> rfl))
theorem kit_any (K : PySem.W.Frag) (d : D) : ∀ ts : List Ty, PySem.W.kitAny K (.type (dTy d)) (ts.map fun t => .type (tyN t)) = some (ts.any fun t => tyIs t d)
  | [] => rfl
  | t :: ts => by
    rw [List.map_cons, List.any_cons]
    refine kitAny_cons (kit_is K d t) (fun h => ?_) (fun h => ?_)
    · rw [h, Bool.false_or]; exact kit_any K d ts
    · rw [h, Bool.true_or]
end
end Rf

set_option Elab.async false
set_option linter.all false
set_option maxRecDepth 100000
set_option maxHeartbeats 4000000
/-! Rf: is an IR text what a text of the row says? -/
namespace Rf
open PySem PySem.Spec PyProof.Rows L2

/-- where one stands: the names by slot, the scope, which names' cells are one's own -/
structure SC where
  N : List Str
  sc : Scope
  fn : Str → Bool
/-- a program: its defs (name, parameters, IR), its constants, the built-ins that it names, whether gcd is imported -/
structure Pg where
  fns : List (Str × List Str × Fn)
  gl : List (Str × D)
  bn : List Str
  gcd : Bool
  kws : List (Nat × List Str × List Nat)
abbrev Pg.C (pg : Pg) : List D := pg.gl.map (·.2)
abbrev Pg.T (pg : Pg) : List Fn := pg.fns.map (·.2.2)
abbrev Pg.F (pg : Pg) (k : Nat) : FT := callN pg.C pg.T k

def okName (x : Str) : Bool := !(x == ("__debug__" : Str)) && !(x == ("__classdict__" : Str)) && !(x == ("__name__" : Str))
def visB (sc : Scope) (x : Str) : Bool := match sc.names.lookup x with
  | some .local => true
  | some .cell => true
  | some .free => true
  | _ => false
def locB (c : SC) (x : Str) : Bool := match c.sc.names.lookup x with
  | some .local => true
  | some .cell => c.fn x
  | _ => false
def slotB (c : SC) (i : Nat) (x : Str) : Bool := decide (c.N[i]? = some x) && visB c.sc x && okName x
def storeB (c : SC) (i : Nat) (x : Str) : Bool := decide (c.N[i]? = some x) && locB c x
def glB (c : SC) (x : Str) : Bool := okName x && match c.sc.names.lookup x with
  | some .globalImplicit => true
  | _ => false
/-- a built-in by its name -/
def bltB (pg : Pg) (c : SC) (x : Str) : Bool := glB c x && pg.bn.contains x
def fnB (pg : Pg) (c : SC) (f : Nat) (x : Str) : Bool := glB c x && match pg.fns[f]? with
  | some (y, _, _) => decide (x = y)
  | none => false
def arity (pg : Pg) (f : Nat) : Nat := match pg.fns[f]? with
  | some (_, ps, _) => ps.length
  | none => 0
def kwB (pg : Pg) (f : Nat) (p : List Nat) (ks : List Str) : Bool := pg.kws.contains (f, ks, p)
def constB : D → Const → Bool
  | .none, .none => true
  | .bool a, .bool b => a == b
  | .int i, .int j => decide (i = j)
  | .str x, .str y => decide (x = y)
  | _, _ => false
def bopB : BOp → Operator → Bool
  | .add, .Add => true
  | .sub, .Sub => true
  | .mul, .Mult => true
  | .fdiv, .FloorDiv => true
  | .mod, .Mod => true
  | .pow, .Pow => true
  | _, _ => false
def copB : COp → CmpOp → Bool
  | .eq, .Eq => true
  | .ne, .NotEq => true
  | .lt, .Lt => true
  | .le, .LtE => true
  | .gt, .Gt => true
  | .ge, .GtE => true
  | .isN, .Is => true
  | .notN, .IsNot => true
  | .isB, .Is => true
  | .notB, .IsNot => true
  | .mem, .In => true
  | .nmem, .NotIn => true
  | _, _ => false
def notStar : Expr → Bool
  | .Starred .. => false
  | _ => true
def notSlice : Expr → Bool
  | .Slice .. => false
  | _ => true
def notSet : Expr → Bool
  | .Set .. => false
  | _ => true
def tyOf : Str → Option Ty := fun x =>
  if x = ("int" : Str) then some .int else if x = ("bool" : Str) then some .bool else if x = ("str" : Str) then some .str else if x = ("list" : Str) then some .list else if x = ("tuple" : Str) then some .tuple else if x = ("dict" : Str) then some .dict else none
def tysB (pg : Pg) (c : SC) : List Ty → List Expr → Bool
  | [], [] => true
  | t :: ts, .Name x _ :: es => bltB pg c x && decide (x = Str.ofString (tyN t)) && tysB pg c ts es
  | _, _ => false
def kwNames : List Keyword → Option (List Str)
  | [] => some []
  | ⟨some n, _, _⟩ :: r => (kwNames r).map (n :: ·)
  | _ => none
def mthName : Mth → Str
  | .append => "append" | .extend => "extend" | .pop0 => "pop" | .pop1 => "pop" | .insert => "insert"
/-- the context of a comprehension's block -/
def blkSC (c : SC) (scope : Scope) : SC := ⟨c.N, relS scope c.sc, fun x => scope.names.lookup x == some .cell⟩
def ownN (c : SC) (own : List Nat) : List (Str × Nat) := own.map fun i => ((c.N[i]?).getD Str.empty, i)

def plainBase : Expr → Bool
  | .Name .. => true
  | .Call _ (_ :: _) _ _ => true
  | _ => false
mutual
def chkE (pg : Pg) : SC → IE → Expr → Bool
  | c, .var i, e => match e with
    | .Name x _ => slotB c i x
    | _ => false
  | c, .frz i, e => match e with
    | .Name x _ => slotB c i x
    | _ => false
  | c, .cst d, e => match e with
    | .Constant k _ _ => constB d k
    | _ => false
  | c, .glo n, e => match e with
    | .Name x _ => glB c x && (match pg.gl[n]? with | some (y, _) => decide (x = y) | none => false)
    | _ => false
  | c, .bin o a b, e => match e with
    | .BinOp l op r _ => bopB o op && chkE pg c a l && chkE pg c b r
    | _ => false
  | c, .neg a, e => match e with
    | .UnaryOp .USub l _ => chkE pg c a l
    | _ => false
  | c, .cmp o a b, e => match e with
    | .Compare l [op] [r] _ => copB o op && notSet r && chkE pg c a l && chkE pg c b r
    | _ => false
  | c, .chn o o' a b d, e => match e with
    | .Compare l [op, op'] [m, r] _ => copB o op && copB o' op' && notSet r && chkE pg c a l && chkE pg c b m && chkE pg c d r
    | _ => false
  | c, .and2 a b, e => match e with
    | .BoolOp .And (x :: y :: r) p => chkE pg c a x && (match r with
      | [] => chkE pg c b y
      | z :: r => chkE pg c b (.BoolOp .And (y :: z :: r) p))
    | _ => false
  | c, .or2 a b, e => match e with
    | .BoolOp .Or (x :: y :: r) p => chkE pg c a x && (match r with
      | [] => chkE pg c b y
      | z :: r => chkE pg c b (.BoolOp .Or (y :: z :: r) p))
    | _ => false
  | c, .nt a, e => match e with
    | .UnaryOp .Not l _ => chkE pg c a l
    | _ => false
  | c, .ite k a b, e => match e with
    | .IfExp x y z _ => chkE pg c k x && chkE pg c a y && chkE pg c b z
    | _ => false
  | c, .tup es, e => match e with
    | .Tuple xs _ _ => chkEs pg c es xs
    | _ => false
  | c, .lst es, e => match e with
    | .List xs _ => chkEs pg c es xs
    | _ => false
  | c, .idx a i, e => match e with
    | .Subscript x y _ => notSlice y && chkE pg c a x && chkE pg c i y
    | _ => false
  | c, .slc a lo hi, e => match e with
    | .Subscript x (.Slice l h none _) _ => chkE pg c a x && chkO pg c lo l && chkO pg c hi h
    | _ => false
  | c, .rev a, e => match e with
    | .Subscript x (.Slice none none (some (.UnaryOp .USub (.Constant (.int 1) _ _) _)) _) _ => chkE pg c a x
    | _ => false
  | c, .call f es, e => match e with
    | .Call (.Name x _) xs [] _ => fnB pg c f x && chkEs pg c es xs
    | _ => false
  | c, .callk f p es, e => match e with
    | .Call (.Name x _) [] kws _ => fnB pg c f x && (match kwNames kws with
      | some ks => kwB pg f p ks
      | none => false) && chkKs pg c es kws
    | _ => false
  | c, .blt b es, e => match e with
    | .Call (.Name x _) (y :: xs) [] _ => glB c x && (match b with | .gcd2 => pg.gcd | _ => pg.bn.contains x) && decide (x = bltName b) && chkEs pg c es (y :: xs)
    | _ => false
  | c, .isi a ts, e => match e with
    | .Call (.Name x _) [y, t] [] _ => bltB pg c x && decide (x = ("isinstance" : Str)) && notStar y && chkE pg c a y && (match t with
      | .Name _ _ => tysB pg c ts [t]
      | .Tuple us _ _ => Nat.ble ts.length 1000 && tysB pg c ts us
      | _ => false)
    | _ => false
  | c, .lrg lo hi, e => match e with
    | .Call (.Name x _) [.Call (.Name y _) xs [] _] [] _ => bltB pg c x && decide (x = ("list" : Str)) && bltB pg c y && decide (y = ("range" : Str)) && (match xs with
      | [h] => (match lo with | .cst (.int 0) => true | _ => false) && notStar h && chkE pg c hi h
      | [l, h] => notStar l && notStar h && chkE pg c lo l && chkE pg c hi h
      | _ => false)
    | _ => false
  | c, .trg lo hi, e => match e with
    | .Call (.Name x _) [.Call (.Name y _) xs [] _] [] _ => bltB pg c x && decide (x = ("tuple" : Str)) && bltB pg c y && decide (y = ("range" : Str)) && (match xs with
      | [h] => (match lo with | .cst (.int 0) => true | _ => false) && notStar h && chkE pg c hi h
      | [l, h] => notStar l && notStar h && chkE pg c lo l && chkE pg c hi h
      | _ => false)
    | _ => false
  | c, .lc elt tg it cd own, e => match e with
    | .ListComp x [⟨t, i, fs, 0⟩] scope _ => blkC c.N c.sc scope (ownN c own) && chkI pg c it t i && notSet i && noSub tg && (tgS tg).all (fun i => own.contains i) && chkT pg (blkSC c scope) tg t && (match fs, cd with
        | [], .non => true
        | [f], .som d => chkE pg (blkSC c scope) d f
        | _, _ => false) && chkE pg (blkSC c scope) elt x
    | _ => false
  | c, .mth m i es, e => match e with
    | .Call (.Attribute (.Name x _) n ap) xs [] p => slotB c i x && decide (n = mthName m) && (ap.endLine == p.line) && Nat.blt xs.length 30 && chkEs pg c es xs
    | _ => false
  | c, .rpr es, e => match e with
    | .Call (.Name x _) [.List xs _] [] _ => bltB pg c x && decide (x = ("repr" : Str)) && chkEs pg c es xs
    | _ => false
  | c, .giv a, e => chkE pg c a e
  | _, .dnw, e => match e with
    | .Dict [] [] _ => true
    | _ => false
  | c, .ds1 k v, e => match e with
    | .Dict [some x] [y] _ => chkE pg c k x && chkE pg c v y
    | _ => false
  | _, .dof _, _ => false
  | c, .dix a k, e => match e with
    | .Subscript x y _ => notSlice y && chkE pg c a x && chkE pg c k y
    | _ => false
  | c, .din n a b, e => match e with
    | .Compare l [op] [r] _ => (match n, op with
      | false, .In => true
      | true, .NotIn => true
      | _, _ => false) && notSet r && chkE pg c a l && chkE pg c b r
    | _ => false
  | c, .dgt a k d, e => match e with
    | .Call (.Attribute x n ap) [y, z] [] p => plainBase x && decide (n = ("get" : Str)) && (ap.endLine == p.line) && notStar y && notStar z && chkE pg c a x && chkE pg c k y && chkE pg c d z
    | _ => false
  | c, .lset a, e => match e with
    | .Call (.Name x _) [.Call (.Name y _) [z] [] _] [] _ => bltB pg c x && decide (x = ("len" : Str)) && bltB pg c y && decide (y = ("set" : Str)) && notStar z && chkE pg c a z
    | _ => false
  | c, .sset a, e => match e with
    | .Call (.Name x _) [.Call (.Name y _) [z] [] _] [] _ => bltB pg c x && decide (x = ("sorted" : Str)) && bltB pg c y && decide (y = ("set" : Str)) && notStar z && chkE pg c a z
    | _ => false
  | c, .lw i elt tg cd own, e => match e with
    | .ListComp x [⟨t, it, fs, 0⟩] scope _ => blkC c.N c.sc scope (ownN c own) && (match it with | .Name y _ => slotB c i y | _ => false) && notSet it && noSub tg && (tgS tg).all (fun i => own.contains i) && chkT pg (blkSC c scope) tg t && (match fs, cd with
        | [], .non => true
        | [f], .som d => chkE pg (blkSC c scope) d f
        | _, _ => false) && chkE pg (blkSC c scope) elt x
    | _ => false
def chkEs (pg : Pg) : SC → IEs → List Expr → Bool
  | _, .nil, es => match es with
    | [] => true
    | _ => false
  | c, .cons a as, es => match es with
    | e :: r => notStar e && chkE pg c a e && chkEs pg c as r
    | _ => false
def chkKs (pg : Pg) : SC → IEs → List Keyword → Bool
  | _, .nil, es => match es with
    | [] => true
    | _ => false
  | c, .cons a as, es => match es with
    | ⟨_, e, _⟩ :: r => chkE pg c a e && chkKs pg c as r
    | _ => false
def chkO (pg : Pg) : SC → IO → Option Expr → Bool
  | _, .non, e => match e with
    | none => true
    | _ => false
  | c, .som a, e => match e with
    | some e => chkE pg c a e
    | _ => false
def chkI (pg : Pg) : SC → II → Expr → Expr → Bool
  | c, .it a, _, e => chkE pg c a e
  | c, .rng lo hi, _, e => match e with
    | .Call (.Name y _) xs [] _ => bltB pg c y && decide (y = ("range" : Str)) && (match xs with
      | [h] => (match lo with | .cst (.int 0) => true | _ => false) && notStar h && chkE pg c hi h
      | [l, h] => notStar l && notStar h && chkE pg c lo l && chkE pg c hi h
      | _ => false)
    | _ => false
  | c, .enu a, t, e => match e, t with
    | .Call (.Name y _) [x] [] _, .Tuple _ _ _ => bltB pg c y && decide (y = ("enumerate" : Str)) && notStar x && chkE pg c a x
    | _, _ => false
  | c, .zip a b, t, e => match e, t with
    | .Call (.Name z _) [x, y] [] _, .Tuple _ _ _ => bltB pg c z && decide (z = ("zip" : Str)) && notStar x && notStar y && chkE pg c a x && chkE pg c b y
    | _, _ => false
  | _, .dks _, _, _ => false
def chkT (pg : Pg) : SC → IT → Expr → Bool
  | c, .nm i, e => match e with
    | .Name x _ => storeB c i x
    | _ => false
  | c, .tp ts, e => match e with
    | .Tuple xs _ _ => chkTs pg c ts xs
    | _ => false
  | c, .sub i a, e => match e with
    | .Subscript (.Name x _) y _ => slotB c i x && notSlice y && chkE pg c a y
    | _ => false
def chkTs (pg : Pg) : SC → ITs → List Expr → Bool
  | _, .nil, es => match es with
    | [] => true
    | _ => false
  | c, .cons t ts, es => match es with
    | e :: r => notStar e && chkT pg c t e && chkTs pg c ts r
    | _ => false
end
end Rf

set_option Elab.async false
set_option linter.all false
set_option maxRecDepth 100000
set_option maxHeartbeats 4000000
/-! Rf: what the checks say of the text's forms. -/
namespace Rf
open PySem PySem.Spec PyProof.Rows L2

theorem star_cons {e : Expr} {es : List Expr} {env : Env} (h : notStar e = true) : starEach (e :: es) env = (false, eval e env) :: starEach es env := by
  cases e <;> first | rfl | cases h
def noStars : List Expr → Bool
  | [] => true
  | e :: r => notStar e && noStars r
theorem plain_any {env : Env} {pos : Pos} : ∀ {es : List Expr}, noStars es = true → (backTo pos (starEach es env)).any (·.1) = false
  | [], _ => rfl
  | e :: r, h => by
    obtain ⟨h1, h2⟩ := ands h
    rw [star_cons h1]
    show (false || (backTo pos (starEach r env)).any (·.1)) = false
    rw [plain_any h2]; rfl
theorem plain_all {env : Env} {pos : Pos} : ∀ {es : List Expr}, noStars es = true → (backTo pos (starEach es env)).all (fun x => !x.1) = true
  | [], _ => rfl
  | e :: r, h => by
    obtain ⟨h1, h2⟩ := ands h
    rw [star_cons h1]
    show (true && (backTo pos (starEach r env)).all (fun x => !x.1)) = true
    rw [plain_all h2]; rfl
theorem star_all {env : Env} : ∀ {es : List Expr}, noStars es = true → starEach es env = es.map fun e => (false, eval e env)
  | [], _ => rfl
  | e :: r, h => by
    obtain ⟨h1, h2⟩ := ands h
    rw [star_cons h1, star_all h2]; rfl
theorem plainIx {b : Expr} (h : notSlice b = true) : PlainIx b := fun o i => by
  cases b <;> first | rfl | cases h
theorem mark_no {b : Expr} {op : CmpOp} (h : notSet b = true) : behindInMarks op b = false := by
  cases b <;> first | rfl | cases h
theorem last_no {b c : Expr} {op op' : CmpOp} (h : notSet c = true) : lastMarks [op, op'] [b, c] = false := by
  show behindInMarks op' c = false
  exact mark_no h
theorem fold_no {b : Expr} {env : Env} (h : notSet b = true) (x : Value) : foldedSetIterable b env x = pure x := by
  cases b <;> first | rfl | cases h
theorem asg_cons {e : Expr} {es : List Expr} {env : Env} (h : notStar e = true) : assignEach (e :: es) env = (false, assign e env) :: assignEach es env := by
  cases e <;> first | rfl | cases h
theorem asg_len {env : Env} : ∀ {es : List Expr}, (assignEach es env).length = es.length
  | [] => rfl
  | e :: r => by cases e <;> (show (assignEach r env).length + 1 = _; rw [asg_len]; rfl)
theorem asg_nost {env : Env} : ∀ {es : List Expr}, noStars es = true → (assignEach es env).findIdx? (·.1) = none
  | [], _ => rfl
  | e :: r, h => by
    obtain ⟨h1, h2⟩ := ands h
    rw [asg_cons h1, List.findIdx?_cons]
    simp [asg_nost h2]
theorem asg_sub {o i : Expr} {pos : Pos} {env : Env} (h : notSlice i = true) (v : Value) : assign (.Subscript o i pos) env v = (do
      let ov ← holding [v] (eval o env)
      let iv ← holding [v, ov] (eval i env)
      standAt pos
      holding [v, ov, iv] (setItem ov iv v)
      release [v, ov, iv] []) := by
  cases i <;> first | rfl | cases h

theorem vis_of {sc : Scope} {x : Str} (h : visB sc x = true) : Vis sc x := by
  unfold visB at h
  split at h
  · exact .inl (by assumption)
  · exact .inr (.inl (by assumption))
  · exact .inr (.inr (by assumption))
  · cases h
theorem locB_of {c : SC} {x : Str} (h : locB c x = true) : Loc c.sc x ∧ (c.fn x = true ∨ c.sc.names.lookup x = some .local) := by
  unfold locB at h
  split at h
  · rename_i e; exact ⟨.inl e, .inr e⟩
  · rename_i e; exact ⟨.inr e, .inl h⟩
  · cases h
theorem okName_of {x : Str} (h : okName x = true) : (x == ("__debug__" : Str)) = false ∧ (x == ("__classdict__" : Str)) = false ∧ x ≠ ("__name__" : Str) := by
  unfold okName at h
  obtain ⟨h1, h3⟩ := ands h
  obtain ⟨h1, h2⟩ := ands h1
  refine ⟨by simpa using h1, by simpa using h2, by simpa using h3⟩
theorem slotB_of {c : SC} {i : Nat} {x : Str} (h : slotB c i x = true) : c.N[i]? = some x ∧ Vis c.sc x ∧ (x == ("__debug__" : Str)) = false ∧ (x == ("__classdict__" : Str)) = false := by
  unfold slotB at h
  obtain ⟨h1, h3⟩ := ands h
  obtain ⟨h1, h2⟩ := ands h1
  obtain ⟨a, b, _⟩ := okName_of h3
  exact ⟨of_decide_eq_true h1, vis_of h2, a, b⟩
theorem storeB_of {c : SC} {i : Nat} {x : Str} (h : storeB c i x = true) : c.N[i]? = some x ∧ Loc c.sc x ∧ (c.fn x = true ∨ c.sc.names.lookup x = some .local) := by
  unfold storeB at h
  obtain ⟨h1, h2⟩ := ands h
  obtain ⟨a, b⟩ := locB_of h2
  exact ⟨of_decide_eq_true h1, a, b⟩
theorem glB_of {c : SC} {x : Str} (h : glB c x = true) : c.sc.names.lookup x = some .globalImplicit ∧ (x == ("__debug__" : Str)) = false ∧ x ≠ ("__name__" : Str) := by
  unfold glB at h
  obtain ⟨h1, h2⟩ := ands h
  obtain ⟨a, _, b⟩ := okName_of h1
  refine ⟨?_, a, b⟩
  split at h2
  · assumption
  · cases h2
end Rf

set_option Elab.async false
set_option linter.all false
set_option maxRecDepth 100000
set_option maxHeartbeats 4000000
/-! Rf: contexts, what a def promises, readings. -/
namespace Rf
open PySem PySem.Spec PyProof.Rows L2

/-! ### a def's promise -/
def ArR (K : PySem.W.Frag) (G H : Hp) : Ar → V → Prop
  | .pu d, x => Pu K G d x
  | .io xs, x => ∃ a ys, x = .ref a ∧ G a = none ∧ H a = some (.lst ys) ∧ PuA K G xs ys
  | .sc xs, x => ∃ a ys, x = .ref a ∧ ScrR K H a ys ∧ PuA K G xs ys
inductive ArsR (K : PySem.W.Frag) (G H : Hp) : List Ar → List V → Prop
  | nil : ArsR K G H [] []
  | cons {a : Ar} {x : V} {as : List Ar} {xs : List V} : ArR K G H a x → ArsR K G H as xs → ArsR K G H (a :: as) (x :: xs)
theorem ArsR.length {K : PySem.W.Frag} {G H : Hp} : ∀ {as : List Ar} {xs : List V}, ArsR K G H as xs → as.length = xs.length
  | _, _, .nil => rfl
  | _, _, .cons _ b => congrArg Nat.succ (ArsR.length b)
def ioAd : List Ar → List V → List Addr
  | .io _ :: as, .ref a :: vs => a :: ioAd as vs
  | _ :: as, _ :: vs => ioAd as vs
  | _, _ => []
inductive OutsR (K : PySem.W.Frag) (G H : Hp) : List Addr → List (List D) → Prop
  | nil : OutsR K G H [] []
  | cons {a : Addr} {ys : List V} {xs : List D} {as : List Addr} {xss : List (List D)} : G a = none → H a = some (.lst ys) → PuA K G xs ys → OutsR K G H as xss → OutsR K G H (a :: as) (xs :: xss)
def RvR (K : PySem.W.Frag) (G H Hs : Hp) (x : V) : Rv → Prop
  | .pu d => Pu K G d x
  | .fr xs => ∃ a ys, x = .ref a ∧ G a = none ∧ H a = some (.lst ys) ∧ PuA K G xs ys ∧ Hs a = none
structure CallQ (K : PySem.W.Frag) (G H : Hp) (ads : List Addr) (outs : List (List D)) (rv : Rv) (G' H' : Hp) (x : V) : Prop where
  sub : Sub G' H'
  g : Sub G G'
  h : ∀ a o, H a = some o → a ∉ ads → H' a = some o
  n : ∀ a, H a ≠ none → G a = none → a ∉ ads → G' a = none
  f : ∀ a, H a ≠ none → H' a ≠ none
  o : OutsR K G' H' ads outs
  r : RvR K G' H' H x rv
def spF (K : PySem.W.Frag) (F : FT) (f n : Nat) : Sp := fun vs H Q _ => ∃ G as rv outs, Sub G H ∧ ArsR K G H as vs ∧ (ioAd as vs).Nodup ∧ F f as = some (rv, outs) ∧ vs.length = n ∧
  ∀ G' H' x, CallQ K G H (ioAd as vs) outs rv G' H' x → Q x H'

/-- a call's end: it returns -/
def GR (outer : List Env) (P : Program) (w : World) (H : Hp) (s : Shared) (Q : VK) (r : Result) (s' : Shared) : Prop :=
  match r with
  | .ok (.ret u) => CE outer P w H s Q u s'
  | _ => False
structure FnG (P : Program) (w : World) (K : PySem.W.Frag) (mg : Str → Option Value) (base : Heap) (k : Nat) (f : Addr) (fd : FuncData) (ps : List Str) (sp : Sp) : Prop where
  len : ∀ vs H Q E, sp vs H Q E → vs.length = ps.length
  run : ∀ (A : Around) (outer : List Env) (s : Shared) (H : Hp) (args : Args) (us : List Value) (vs : List V) (Q : VK) (E : XK), Room k A → A.guards = some [] → Env0 P w K mg base A outer s H → BindsTo s fd args (ps.zip us) → Vals vs us → sp vs H Q E →
    codeAny (model P w) A (.call (.ref f) args) (GR outer P w H s Q) s
structure BindG (kws : List (Nat × List Str × List Nat)) (K : PySem.W.Frag) (f : Nat) (fd : FuncData) (ps : List Str) : Prop where
  pos : ∀ (s : Shared) (us : List Value), K.In s.heap → us.length = ps.length → BindsTo s fd ⟨us, []⟩ (ps.zip us)
  kw : ∀ ks p, (f, ks, p) ∈ kws → ∀ (s : Shared) (ws : List Value), K.In s.heap → ws.length = ks.length → ∃ us, pick ws p = some us ∧ BindsTo s fd ⟨[], ks.zip ws⟩ (ps.zip us)
structure PgOk (pg : Pg) (k : Nat) (P : Program) (w : World) (K : PySem.W.Frag) (mg : Str → Option Value) (base : Heap) : Prop where
  gl : ∀ (n : Nat) (y : Str) (d : D), pg.gl[n]? = some (y, d) → ∃ v u, mg y = some u ∧ RelV v u ∧ ∀ G, Pu K G d v
  bn : ∀ x, x ∈ pg.bn → mg x = none
  gcd : pg.gcd = true → mg "gcd" = some (.builtin "math.gcd")
  fns : ∀ (f : Nat) (x : Str) (ps : List Str) (fn : Fn), pg.fns[f]? = some (x, ps, fn) → ∃ a fd, mg x = some (.ref a) ∧ PySem.W.keepIn K (.ref a) = true ∧ fn.np = ps.length ∧ BindG pg.kws K f fd ps ∧ FnG P w K mg base k a fd ps (spF K (pg.F k) f ps.length)
structure XOk (pg : Pg) (k : Nat) (c : SC) (X : Cx) : Prop where
  N : X.N = c.N
  nd : X.N.Nodup
  sc : X.env.scope = c.sc
  fn : X.fn = c.fn
  calm : X.calm = true
  room : Room k X.A
  gds : X.A.guards = some []
  pg : PgOk pg k X.prog X.w X.K X.mg X.base
section
variable {pg : Pg} {k : Nat} {c : SC} {X : Cx}
theorem XOk.u67 (h : XOk pg k c X) : X.A.units + 67 < cLine := by have := h.room.un; omega
theorem XOk.u65 (h : XOk pg k c X) : X.A.units + 65 < cLine := by have := h.room.un; omega
theorem XOk.gl (h : XOk pg k c X) {x : Str} (e : glB c x = true) : Gl X x ∧ (x == ("__debug__" : Str)) = false ∧ x ≠ ("__name__" : Str) := by
  obtain ⟨a, b, d⟩ := glB_of e
  refine ⟨?_, b, d⟩
  show X.env.scope.names.lookup x = _
  rw [h.sc]; exact a
theorem XOk.blt (h : XOk pg k c X) {x : Str} (e : bltB pg c x = true) : Gl X x ∧ X.mg x = none ∧ (x == ("__debug__" : Str)) = false ∧ x ≠ ("__name__" : Str) := by
  obtain ⟨e1, e2⟩ := ands e
  obtain ⟨a, b, d⟩ := h.gl e1
  exact ⟨a, h.pg.bn x (by simpa using e2), b, d⟩
end

/-! ### the state behind -/
section
variable {O O' : Addr → Prop} {G H G' H' : Hp}
theorem Step.fb (st : Step O G H O' G' H') (a : Addr) (h : H' a = none) : H a = none := by
  cases q : H a with
  | none => rfl
  | some u => exact absurd h (st.f a (by rw [q]; simp))
end
def KE (K : PySem.W.Frag) (γ : Gam) (G H : Hp) (env : Ev) (σ : L2.St) (env' : Ev) (o : Opd) (Q : VK) : Prop := ∀ G' H' x, Sr K γ G' H' env' σ → Step (Ow env σ) G H (Ow env' σ) G' H' → OpdR K G' H' env' σ H x o → Q x H'
def tE (F : FT) (C : List D) (K : PySem.W.Frag) (γ : Gam) (ie : IE) : TE := fun σ H Q => ∃ G env o env', Sr K γ G H env σ ∧ evE F C ie env = some (o, env') ∧ KE K γ G H env σ env' o Q
def tT (F : FT) (C : List D) (K : PySem.W.Frag) (γ : Gam) (ie : IE) : TT := fun σ H Q => ∃ G env b env', Sr K γ G H env σ ∧ evE F C ie env = some (.pu (.bool b), env') ∧
  ∀ G' H', Sr K γ G' H' env' σ → Step (Ow env σ) G H (Ow env' σ) G' H' → Q b H'
def notFr : Opd → Bool
  | .fr _ => false
  | _ => true
inductive OpasR (K : PySem.W.Frag) (G H : Hp) (env : Ev) (σ : L2.St) (Hs : Hp) : List V → List Opd → Prop
  | nil : OpasR K G H env σ Hs [] []
  | cons {x : V} {o : Opd} {xs : List V} {os : List Opd} : OpdR K G H env σ Hs x o → notFr o = true → OpasR K G H env σ Hs xs os → OpasR K G H env σ Hs (x :: xs) (o :: os)
def tA (F : FT) (C : List D) (K : PySem.W.Frag) (γ : Gam) (es : IEs) : TA := fun σ H Q => ∃ G env os env', Sr K γ G H env σ ∧ evA F C es env = some (os, env') ∧
  ∀ G' H' xs, Sr K γ G' H' env' σ → Step (Ow env σ) G H (Ow env' σ) G' H' → OpasR K G' H' env' σ H xs os → Q xs H'
/-- items: each a value from now on -/
def tP (F : FT) (C : List D) (K : PySem.W.Frag) (γ : Gam) (es : IEs) : TA := fun σ H Q => ∃ G env ds env', Sr K γ G H env σ ∧ evP F C es env = some (ds, env') ∧
  ∀ G' H' xs, Sr K γ G' H' env' σ → Step (Ow env σ) G H (Ow env' σ) G' H' → PuA K G' ds xs → Q xs H'
def tO (F : FT) (C : List D) (K : PySem.W.Frag) (γ : Gam) (io : IO) : TO := fun σ H Q => ∃ G env i env', Sr K γ G H env σ ∧ evO F C io env = some (i, env') ∧
  ∀ G' H', Sr K γ G' H' env' σ → Step (Ow env σ) G H (Ow env' σ) G' H' → Q i H'

theorem PE.weak {X : Cx} {e : Expr} {t t' : TE} (h : PE X e t) (w : ∀ σ H Q, t' σ H Q → t σ H Q) : PE X e t' := ⟨fun pins s σ H Q I q => h.run pins s σ H Q I (w _ _ _ q)⟩
theorem PT.weak {X : Cx} {e : Expr} {t t' : TT} (h : PT X e t) (w : ∀ σ H Q, t' σ H Q → t σ H Q) : PT X e t' := ⟨fun pins s σ H Q I q => h.run pins s σ H Q I (w _ _ _ q)⟩
theorem PW.weak {X : Cx} {e : Expr} {t t' : TT} (h : PW X e t) (w : ∀ σ H Q, t' σ H Q → t σ H Q) : PW X e t' := ⟨fun wh pins s σ H Q I q => h.run wh pins s σ H Q I (w _ _ _ q)⟩
theorem PA.weak {X : Cx} {e : List Expr} {t t' : TA} (h : PA X e t) (w : ∀ σ H Q, t' σ H Q → t σ H Q) : PA X e t' := ⟨fun pos pins s σ H Q I q => h.run pos pins s σ H Q I (w _ _ _ q)⟩
theorem PK.weak {X : Cx} {e : List Keyword} {t t' : TA} (h : PK X e t) (w : ∀ σ H Q, t' σ H Q → t σ H Q) : PK X e t' := ⟨fun pos pins s σ H Q I q => h.run pos pins s σ H Q I (w _ _ _ q)⟩
theorem PO.weak {X : Cx} {e : Option Expr} {t t' : TO} (h : PO X e t) (w : ∀ σ H Q, t' σ H Q → t σ H Q) : PO X e t' := ⟨fun pins s σ H Q I q => h.run pins s σ H Q I (w _ _ _ q)⟩

section
variable {K : PySem.W.Frag} {γ : Gam} {G H G1 H1 G2 H2 : Hp} {env env1 env2 : Ev} {σ : L2.St} {o : Opd} {Q : VK} {x : V} {d : D}
theorem KE.fin (k : KE K γ G H env σ env1 o Q) (s : Sr K γ G1 H1 env1 σ) (st : Step (Ow env σ) G H (Ow env1 σ) G1 H1) : RQ K G1 H1 o Q := fun G' H' x e r =>
  k G' H' x (s.ext e) (st.trans (Step.ext e)) ((opd_of s e r).start st.fb)
theorem KE.pu (k : KE K γ G H env σ env1 (.pu d) Q) (s : Sr K γ G1 H1 env1 σ) (st : Step (Ow env σ) G H (Ow env1 σ) G1 H1) (r : Pu K G1 d x) : Q x H1 := k G1 H1 x s st r
theorem rdsAll_ok (s : Sr K γ G1 H1 env1 σ) : ∀ {os : List Opd} {xs : List V} {ds : List D}, OpasR K G1 H1 env1 σ H xs os → rdsAll env1 os = some ds → RdsA K G1 H1 ds xs
  | _, _, _, .nil, e => by simp [rdsAll] at e; subst e; exact .nil
  | _, _, _, .cons r _ rr, e => by
    simp only [rdsAll] at e
    split at e
    · rename_i d ds h1 h2
      cases e
      exact .cons (rds_ok s r h1) (rdsAll_ok s rr h2)
    · cases e
theorem OpasR.later {Hs G' H' : Hp} {env' : Ev} (st : Step (Ow env σ) G H (Ow env' σ) G' H') : ∀ {os : List Opd} {xs : List V}, OpasR K G H env σ Hs xs os → OpasR K G' H' env' σ Hs xs os
  | _, _, .nil => .nil
  | _, _, .cons r n rr => .cons (r.later st) n (OpasR.later st rr)
theorem OpasR.start {Hs Hs' : Hp} (h : ∀ a, Hs a = none → Hs' a = none) : ∀ {os : List Opd} {xs : List V}, OpasR K G H env σ Hs xs os → OpasR K G H env σ Hs' xs os
  | _, _, .nil => .nil
  | _, _, .cons r n rr => .cons (r.start h) n (OpasR.start h rr)
theorem OpasR.length {Hs : Hp} : ∀ {os : List Opd} {xs : List V}, OpasR K G H env σ Hs xs os → os.length = xs.length
  | _, _, .nil => rfl
  | _, _, .cons _ _ b => congrArg Nat.succ (OpasR.length b)
/-- a new list given away as a value -/
theorem thaw_ok {G0 H0 : Hp} {env0 : Ev} (s : Sr K γ G H env σ) (st : Step (Ow env0 σ) G0 H0 (Ow env σ) G H) (r : OpdR K G H env σ H0 x o) :
    ∃ G1, Sr K γ G1 H env σ ∧ Step (Ow env0 σ) G0 H0 (Ow env σ) G1 H ∧ OpdR K G1 H env σ H0 x (thaw o) ∧ notFr (thaw o) = true := by
  cases o with
  | pu d => exact ⟨G, s, st, r, rfl⟩
  | bo i => exact ⟨G, s, st, r, rfl⟩
  | fo xs => exact ⟨G, s, st, r, rfl⟩
  | fr xs =>
    obtain ⟨G1, a, b, _, e, _⟩ := frz_ok (d := .list xs) s st r rfl
    exact ⟨G1, a, b, e, rfl⟩
  | fd kvs =>
    obtain ⟨G1, a, b, _, e, _⟩ := frz_ok (d := .dict kvs) s st r rfl
    exact ⟨G1, a, b, e, rfl⟩
end
end Rf

set_option Elab.async false
set_option linter.all false
set_option maxRecDepth 100000
set_option maxHeartbeats 4000000
/-! Rf: names, constants, operators, tests, displays, subscripts. -/
namespace Rf
open PySem PySem.Spec PyProof.Rows L2

section
variable {X : Cx} {F : FT} {C : List D} {γ : Gam} {a b c : Expr} {ia ib ic : IE} {pos : Pos}

theorem opd_bl {K : PySem.W.Frag} {G H Hs : Hp} {env : Ev} {σ : L2.St} {x : V} {b : Bool} (r : OpdR K G H env σ Hs x (.pu (.bool b))) : x = .bl b := by
  have r' : Pu K G (.bool b) x := r
  cases r'; rfl
theorem opd_int {K : PySem.W.Frag} {G H Hs : Hp} {env : Ev} {σ : L2.St} {x : V} {b : Int} (r : OpdR K G H env σ Hs x (.pu (.int b))) : x = .int b := by
  have r' : Pu K G (.int b) x := r
  cases r'; rfl
theorem pt_plain {e : Expr} {ie : IE} (h : PE X e (tE F C X.K γ ie)) (he : ∀ whole, isTrue e X.env whole = (do let v ← whole; standAt e.pos; holding [v] (truthy v))) : PT X e (tT F C X.K γ ie) := by
  refine PT.weak (pt_val h he) fun σ H Q ⟨G, env, b, env', sr, ev, k⟩ => ?_
  exact ⟨G, env, _, env', sr, ev, fun G' H' x s st r => ⟨b, opd_bl r, k G' H' s st⟩⟩

theorem e_var {i : Nat} {x : Str} (hN : X.N[i]? = some x) (hv : Vis X.env.scope x) (hd : (x == ("__debug__" : Str)) = false) (hcd : (x == ("__classdict__" : Str)) = false) : PE X (.Name x pos) (tE F C X.K γ (.var i)) := by
  refine PE.weak (pe_var hN hv hd hcd) fun σ H Q ⟨G, env, o, env', sr, ev, k⟩ => ?_
  simp only [evE] at ev
  split at ev
  · rename_i d q
    cases ev
    obtain ⟨v, h1, h2⟩ := sr.slot i _ q
    exact ⟨v, h1, k G H v sr Step.refl h2⟩
  · rename_i t xs q
    cases ev
    obtain ⟨l, ys, h1, _⟩ := sr.slot i _ q
    exact ⟨_, h1, k G H _ sr Step.refl h1⟩
  · rename_i t xs q
    cases ev
    obtain ⟨l, ys, h1, _⟩ := sr.slot i _ q
    exact ⟨_, h1, k G H _ sr Step.refl h1⟩
  · rename_i kvs q
    cases ev
    obtain ⟨l, ys, h1, _⟩ := sr.slot i _ q
    exact ⟨_, h1, k G H _ sr Step.refl h1⟩
  · cases ev

theorem ownAt_set {env : Ev} {σ : L2.St} {i j : Nat} {l : Addr} {d : D} (h : OwnAt (env.set i (.val d)) σ j l) : OwnAt env σ j l ∧ j ≠ i := by
  obtain ⟨⟨t, e, io⟩, h1⟩ := h
  by_cases q : i = j
  · subst q
    rw [List.getElem?_set] at e
    simp only [if_true] at e
    split at e <;> cases e
    cases io
  · rw [List.getElem?_set_ne q] at e
    exact ⟨⟨⟨t, e, io⟩, h1⟩, fun z => q z.symm⟩
theorem e_frz {i : Nat} {x : Str} (hN : X.N[i]? = some x) (hv : Vis X.env.scope x) (hd : (x == ("__debug__" : Str)) = false) (hcd : (x == ("__classdict__" : Str)) = false) : PE X (.Name x pos) (tE F C X.K γ (.frz i)) := by
  refine PE.weak (pe_var hN hv hd hcd) fun σ H Q ⟨G, env, o, env', sr, ev, k⟩ => ?_
  simp only [evE] at ev
  split at ev
  · rename_i d q
    cases ev
    obtain ⟨v, h1, h2⟩ := sr.slot i _ q
    exact ⟨v, h1, k G H v sr Step.refl h2⟩
  · rename_i xs q
    cases ev
    obtain ⟨l, ys, h1, h2, h3, h4, h5⟩ := sr.ow_at q
    have up : Sub G (upd G l (.lst ys)) := sub_tell h2
    have pl : Pu X.K (upd G l (.lst ys)) (.list xs) (.ref l) := .lst upd_same (h4.mono up)
    have hi : i < env.length := (List.getElem?_eq_some_iff.mp q).1
    refine ⟨_, h1, k (upd G l (.lst ys)) H _ ⟨fun b u e => ?_, by simpa using sr.len, fun j s e => ?_, fun j j' b h h' => ?_⟩ ⟨up, fun _ _ e _ => e, fun b h1 h2 h3 => ?_, fun _ e => e, fun b hb => ?_⟩ pl⟩
    · by_cases z : b = l
      · subst z; rw [upd_same] at e; cases e; exact h3
      · rw [upd_ne z] at e; exact sr.sub _ _ e
    · by_cases z : i = j
      · subst z
        rw [List.getElem?_set_self hi] at e
        cases e
        exact ⟨_, h1, pl⟩
      · rw [List.getElem?_set_ne z] at e
        have q' := sr.slot j s e
        cases s with
        | emp => trivial
        | val d => obtain ⟨v, e1, e2⟩ := q'; exact ⟨v, e1, e2.mono up⟩
        | own t zs =>
          obtain ⟨m, ws, e1, e2, e3, e4, e5⟩ := q'
          refine ⟨m, ws, e1, ?_, e3, e4.mono up, e5⟩
          rw [upd_ne]
          · exact e2
          · rintro rfl
            exact z (sr.inj i j m h5 ⟨⟨_, e, rfl⟩, e1⟩)
        | dic zs =>
          obtain ⟨m, ws, e1, e2, e3, e4, e5⟩ := q'
          refine ⟨m, ws, e1, ?_, e3, e4.mono up, e5⟩
          rw [upd_ne]
          · exact e2
          · rintro rfl
            exact z (sr.inj i j m h5 ⟨⟨_, e, rfl⟩, e1⟩)
        | scr t zs => obtain ⟨m, ws, e1, e2, e3⟩ := q'; exact ⟨m, ws, e1, e2, e3.mono up⟩
    · exact sr.inj j j' b (ownAt_set h).1 (ownAt_set h').1
    · rw [upd_ne (fun z => h3 (by subst z; exact ⟨i, h5⟩))]; exact h2
    · obtain ⟨j, hj⟩ := hb
      exact .inl ⟨j, (ownAt_set hj).1⟩
  · rename_i kvs q
    cases ev
    obtain ⟨l, qs, h1, h2, h3, h4, _, h5⟩ := sr.dc_at q
    have up : Sub G (upd G l (.dK qs)) := sub_tell h2
    have pl : Pu X.K (upd G l (.dK qs)) (.dict kvs) (.ref l) := .dic upd_same (h4.mono up)
    have hi : i < env.length := (List.getElem?_eq_some_iff.mp q).1
    refine ⟨_, h1, k (upd G l (.dK qs)) H _ ⟨fun b u e => ?_, by simpa using sr.len, fun j s e => ?_, fun j j' b h h' => ?_⟩ ⟨up, fun _ _ e _ => e, fun b h1 h2 h3 => ?_, fun _ e => e, fun b hb => ?_⟩ pl⟩
    · by_cases z : b = l
      · subst z; rw [upd_same] at e; cases e; exact h3
      · rw [upd_ne z] at e; exact sr.sub _ _ e
    · by_cases z : i = j
      · subst z
        rw [List.getElem?_set_self hi] at e
        cases e
        exact ⟨_, h1, pl⟩
      · rw [List.getElem?_set_ne z] at e
        have q' := sr.slot j s e
        cases s with
        | emp => trivial
        | val d => obtain ⟨v, e1, e2⟩ := q'; exact ⟨v, e1, e2.mono up⟩
        | own t zs =>
          obtain ⟨m, ws, e1, e2, e3, e4, e5⟩ := q'
          refine ⟨m, ws, e1, ?_, e3, e4.mono up, e5⟩
          rw [upd_ne]
          · exact e2
          · rintro rfl
            exact z (sr.inj i j m h5 ⟨⟨_, e, rfl⟩, e1⟩)
        | dic zs =>
          obtain ⟨m, ws, e1, e2, e3, e4, e5⟩ := q'
          refine ⟨m, ws, e1, ?_, e3, e4.mono up, e5⟩
          rw [upd_ne]
          · exact e2
          · rintro rfl
            exact z (sr.inj i j m h5 ⟨⟨_, e, rfl⟩, e1⟩)
        | scr t zs => obtain ⟨m, ws, e1, e2, e3⟩ := q'; exact ⟨m, ws, e1, e2, e3.mono up⟩
    · exact sr.inj j j' b (ownAt_set h).1 (ownAt_set h').1
    · rw [upd_ne (fun z => h3 (by subst z; exact ⟨i, h5⟩))]; exact h2
    · obtain ⟨j, hj⟩ := hb
      exact .inl ⟨j, (ownAt_set hj).1⟩
  · cases ev

theorem e_cst {d : D} {cc : Const} {j} (h : constB d cc = true) : PE X (.Constant cc j pos) (tE F C X.K γ (.cst d)) := by
  have key : ∀ {v : V}, PE X (.Constant cc j pos) (tC v) → (∀ G, Pu X.K G d v) → PE X (.Constant cc j pos) (tE F C X.K γ (.cst d)) := fun {v} h1 h2 =>
    PE.weak h1 fun σ H Q ⟨G, env, o, env', sr, ev, k⟩ => by
      simp only [evE] at ev
      cases ev
      exact k G H v sr Step.refl (h2 G)
  cases d <;> cases cc <;> simp only [constB] at h <;> (try cases h)
  · exact key pe_non fun _ => .non
  · rename_i x y
    have e : x = y := by simpa using h
    subst e
    exact key pe_bl fun _ => .bl _
  · rename_i x y
    have e : x = y := of_decide_eq_true h
    subst e
    exact key pe_int fun _ => .int _
  · rename_i x y
    have e : x = y := of_decide_eq_true h
    subst e
    exact key pe_str fun _ => .str _
theorem e_glo {n : Nat} {x : Str} {d : D} {v : V} {u : Value} (hC : C[n]? = some d) (hg : Gl X x) (hm : X.mg x = some u) (r : RelV v u) (p : ∀ G, Pu X.K G d v) (hd : (x == ("__debug__" : Str)) = false) : PE X (.Name x pos) (tE F C X.K γ (.glo n)) :=
  PE.weak (pe_glob hg hm r hd) fun σ H Q ⟨G, env, o, env', sr, ev, k⟩ => by
    simp only [evE, hC] at ev
    cases ev
    exact k G H v sr Step.refl (p G)

theorem e_bin {o : BOp} {op : Operator} (ho : bopB o op = true) (ha : PE X a (tE F C X.K γ ia)) (hb : PE X b (tE F C X.K γ ib)) : PE X (.BinOp a op b pos) (tE F C X.K γ (.bin o ia ib)) := by
  have e : op = bopOf o := by cases o <;> cases op <;> first | rfl | cases ho
  subst e
  refine PE.weak (pe_op (op_bin o) ha hb) fun σ H Q ⟨G, env, o', env', sr, ev, k⟩ => ?_
  simp only [evE] at ev
  split at ev
  · cases ev
  rename_i x e1 h1
  split at ev
  · cases ev
  rename_i y e2 h2
  split at ev
  · rename_i p q hp hq
    obtain ⟨res, hr, he⟩ := Option.map_eq_some_iff.mp ev
    cases he
    exact ⟨G, env, x, e1, sr, h1, fun G1 H1 v s1 st1 r1 => ⟨G1, e1, y, _, s1, h2, fun G2 H2 u s2 st2 r2 =>
      ⟨G2, p, q, _, s2.sub, rdp_ok s2 (r1.later st2) hp, rdp_ok s2 r2 hq, hr, k.fin s2 (st1.trans st2)⟩⟩⟩
  · cases ev
theorem e_neg (ha : PE X a (tE F C X.K γ ia)) : PE X (.UnaryOp .USub a pos) (tE F C X.K γ (.neg ia)) := by
  refine PE.weak (pe_un un_neg ha) fun σ H Q ⟨G, env, o', env', sr, ev, k⟩ => ?_
  simp only [evE] at ev
  split at ev
  · rename_i d e1 h1
    obtain ⟨res, hr, he⟩ := Option.map_eq_some_iff.mp ev
    cases he
    cases d <;> simp only [negV] at hr <;> cases hr
    rename_i i
    exact ⟨G, env, _, _, sr, h1, fun G1 H1 v s1 st1 r1 => ⟨i, opd_int r1, k.pu s1 st1 (.int _)⟩⟩
  · cases ev
theorem cop_of {o : COp} {op : CmpOp} (ho : copB o op = true) : op = copOf o := by cases o <;> cases op <;> first | rfl | cases ho
theorem cmp_red {o : COp} {σ : L2.St} {H : Hp} {Q : VK} (h : tE F C X.K γ (.cmp o ia ib) σ H Q) : tOp (rCmpV X.K o) (tE F C X.K γ ia) (tE F C X.K γ ib) σ H Q := by
  obtain ⟨G, env, o', env', sr, ev, k⟩ := h
  simp only [evE] at ev
  split at ev
  · cases ev
  rename_i x e1 h1
  split at ev
  · cases ev
  rename_i y e2 h2
  split at ev
  · rename_i p q hp hq
    obtain ⟨res, hr, he⟩ := Option.map_eq_some_iff.mp ev
    cases he
    exact ⟨G, env, x, e1, sr, h1, fun G1 H1 v s1 st1 r1 => ⟨G1, e1, y, _, s1, h2, fun G2 H2 u s2 st2 r2 =>
      ⟨G2, p, q, _, s2.sub, rds_ok s2 (r1.later st2) hp, rds_ok s2 r2 hq, hr, k.pu s2 (st1.trans st2) (.bl _)⟩⟩⟩
  · cases ev
/-- a test, from the value's reading -/
theorem tT_tE {ie : IE} {K : PySem.W.Frag} {σ : L2.St} {H : Hp} {Q : Bool → Hp → Prop} (h : tT F C K γ ie σ H Q) : tE F C K γ ie σ H (fun x H' => ∃ b, x = .bl b ∧ Q b H') := by
  obtain ⟨G, env, b, env', sr, ev, k⟩ := h
  exact ⟨G, env, _, env', sr, ev, fun G' H' x s st r => ⟨b, opd_bl r, k G' H' s st⟩⟩
theorem e_cmp {o : COp} {op : CmpOp} (hu : X.A.units + 65 < cLine) (ho : copB o op = true) (hs : notSet b = true) (ha : PE X a (tE F C X.K γ ia)) (hb : PE X b (tE F C X.K γ ib)) : PE X (.Compare a [op] [b] pos) (tE F C X.K γ (.cmp o ia ib)) := by
  have e := cop_of ho
  subst e
  exact PE.weak (pe_cmpR (op_cmpV hu o) ha hb (mark_no hs)) fun _ _ _ h => cmp_red h
theorem t_cmp {o : COp} {op : CmpOp} (hu : X.A.units + 65 < cLine) (ho : copB o op = true) (hs : notSet b = true) (ha : PE X a (tE F C X.K γ ia)) (hb : PE X b (tE F C X.K γ ib)) : PT X (.Compare a [op] [b] pos) (tT F C X.K γ (.cmp o ia ib)) := by
  have e := cop_of ho
  subst e
  exact PT.weak (pt_cmpR (op_cmpV hu o) ha hb (mark_no hs)) fun _ _ _ h => cmp_red (tT_tE h)
theorem chn_red {o o' : COp} {σ : L2.St} {H : Hp} {Q : VK} (h : tE F C X.K γ (.chn o o' ia ib ic) σ H Q) : tChain (rCmpV X.K o) (rCmpV X.K o') (tE F C X.K γ ia) (tE F C X.K γ ib) (tE F C X.K γ ic) σ H Q := by
  obtain ⟨G, env, oo, env', sr, ev, k⟩ := h
  simp only [evE] at ev
  split at ev
  · cases ev
  rename_i x e1 h1
  split at ev
  · cases ev
  rename_i y e2 h2
  split at ev
  · rename_i p q hp hq
    refine ⟨G, env, x, e1, sr, h1, fun G1 H1 v s1 st1 r1 => ⟨G1, e1, y, e2, s1, h2, fun G2 H2 u s2 st2 r2 => ?_⟩⟩
    split at ev
    · cases ev
    · rename_i hc
      cases ev
      exact ⟨G2, p, q, false, s2.sub, rds_ok s2 (r1.later st2) hp, rds_ok s2 r2 hq, hc, false, rfl, k.pu s2 (st1.trans st2) (.bl _)⟩
    · rename_i hc
      split at ev
      · cases ev
      rename_i z e3 h3
      split at ev
      · rename_i q' r hq' hr'
        obtain ⟨res, hr, he⟩ := Option.map_eq_some_iff.mp ev
        cases he
        refine ⟨G2, p, q, true, s2.sub, rds_ok s2 (r1.later st2) hp, rds_ok s2 r2 hq, hc, true, rfl, ?_⟩
        rw [if_pos rfl]
        exact ⟨G2, e2, z, _, s2, h3, fun G3 H3 w s3 st3 r3 => ⟨G3, q', r, _, s3.sub, rds_ok s3 (r2.later st3) hq', rds_ok s3 r3 hr', hr, k.pu s3 ((st1.trans st2).trans st3) (.bl _)⟩⟩
      · cases ev
  · cases ev
theorem e_chn {o o' : COp} {op op' : CmpOp} (hu : X.A.units + 65 < cLine) (ho : copB o op = true) (ho' : copB o' op' = true) (hs : notSet c = true) (ha : PE X a (tE F C X.K γ ia)) (hb : PE X b (tE F C X.K γ ib)) (hc : PE X c (tE F C X.K γ ic)) :
    PE X (.Compare a [op, op'] [b, c] pos) (tE F C X.K γ (.chn o o' ia ib ic)) := by
  have e := cop_of ho; have e' := cop_of ho'
  subst e; subst e'
  exact PE.weak (pe_chain (op_cmpV hu o) (op_cmpV hu o') ha hb hc (last_no hs)) fun _ _ _ h => chn_red h
theorem t_chn {o o' : COp} {op op' : CmpOp} (hu : X.A.units + 65 < cLine) (ho : copB o op = true) (ho' : copB o' op' = true) (hs : notSet c = true) (ha : PE X a (tE F C X.K γ ia)) (hb : PE X b (tE F C X.K γ ib)) (hc : PE X c (tE F C X.K γ ic)) :
    PT X (.Compare a [op, op'] [b, c] pos) (tT F C X.K γ (.chn o o' ia ib ic)) := by
  have e := cop_of ho; have e' := cop_of ho'
  subst e; subst e'
  exact PT.weak (pt_chain (op_cmpV hu o) (op_cmpV hu o') ha hb hc (last_no hs)) fun _ _ _ h => chn_red (tT_tE h)

/-! ### and, or, not, if-else -/
theorem and_cases {env env' : Ev} {o : Opd} (ev : evE F C (.and2 ia ib) env = some (o, env')) :
    (∃ e1, evE F C ia env = some (.pu (.bool true), e1) ∧ evE F C ib e1 = some (o, env')) ∨ (evE F C ia env = some (.pu (.bool false), env') ∧ o = .pu (.bool false)) := by
  simp only [evE] at ev
  split at ev
  · rename_i e1 h1; exact .inl ⟨e1, h1, ev⟩
  · rename_i e1 h1; cases ev; exact .inr ⟨h1, rfl⟩
  · cases ev
theorem or_cases {env env' : Ev} {o : Opd} (ev : evE F C (.or2 ia ib) env = some (o, env')) :
    (∃ e1, evE F C ia env = some (.pu (.bool false), e1) ∧ evE F C ib e1 = some (o, env')) ∨ (evE F C ia env = some (.pu (.bool true), env') ∧ o = .pu (.bool true)) := by
  simp only [evE] at ev
  split at ev
  · rename_i e1 h1; exact .inl ⟨e1, h1, ev⟩
  · rename_i e1 h1; cases ev; exact .inr ⟨h1, rfl⟩
  · cases ev
theorem KE.later {K : PySem.W.Frag} {G H G1 H1 : Hp} {env env1 env2 : Ev} {σ : L2.St} {o : Opd} {Q : VK} (k : KE K γ G H env σ env2 o Q) (st : Step (Ow env σ) G H (Ow env1 σ) G1 H1) : KE K γ G1 H1 env1 σ env2 o Q := fun G' H' x s st' r =>
  k G' H' x s (st.trans st') (r.start st.fb)
theorem and_redV {K : PySem.W.Frag} {σ : L2.St} {H : Hp} {Q : VK} (h : tE F C K γ (.and2 ia ib) σ H Q) : tAndV (tE F C K γ ia) (tE F C K γ ib) σ H Q := by
  obtain ⟨G, env, o, env', sr, ev, k⟩ := h
  rcases and_cases ev with ⟨e1, h1, h2⟩ | ⟨h1, rfl⟩
  · refine ⟨G, env, _, e1, sr, h1, fun G1 H1 x s1 st1 r1 => ⟨true, opd_bl r1, ?_⟩⟩
    rw [if_pos rfl]
    exact ⟨G1, e1, o, env', s1, h2, k.later st1⟩
  · exact ⟨G, env, _, env', sr, h1, fun G1 H1 x s1 st1 r1 => ⟨false, opd_bl r1, k.pu s1 st1 (.bl _)⟩⟩
theorem or_redV {K : PySem.W.Frag} {σ : L2.St} {H : Hp} {Q : VK} (h : tE F C K γ (.or2 ia ib) σ H Q) : tOrV (tE F C K γ ia) (tE F C K γ ib) σ H Q := by
  obtain ⟨G, env, o, env', sr, ev, k⟩ := h
  rcases or_cases ev with ⟨e1, h1, h2⟩ | ⟨h1, rfl⟩
  · exact ⟨G, env, _, e1, sr, h1, fun G1 H1 x s1 st1 r1 => ⟨false, opd_bl r1, ⟨G1, e1, o, env', s1, h2, k.later st1⟩⟩⟩
  · refine ⟨G, env, _, env', sr, h1, fun G1 H1 x s1 st1 r1 => ⟨true, opd_bl r1, ?_⟩⟩
    rw [if_pos rfl]
    exact k.pu s1 st1 (.bl _)
theorem and_redT {K : PySem.W.Frag} {σ : L2.St} {H : Hp} {Q : Bool → Hp → Prop} (h : tT F C K γ (.and2 ia ib) σ H Q) : tAnd (tT F C K γ ia) (tT F C K γ ib) σ H Q := by
  obtain ⟨G, env, b, env', sr, ev, k⟩ := h
  rcases and_cases ev with ⟨e1, h1, h2⟩ | ⟨h1, e⟩
  · refine ⟨G, env, true, e1, sr, h1, fun G1 H1 s1 st1 => ?_⟩
    show (if true = true then tT F C K γ ib σ H1 Q else _)
    rw [if_pos rfl]
    exact ⟨G1, e1, b, env', s1, h2, fun G' H' s st => k G' H' s (st1.trans st)⟩
  · cases e
    exact ⟨G, env, false, env', sr, h1, fun G1 H1 s1 st1 => k G1 H1 s1 st1⟩
theorem or_redT {K : PySem.W.Frag} {σ : L2.St} {H : Hp} {Q : Bool → Hp → Prop} (h : tT F C K γ (.or2 ia ib) σ H Q) : tOr (tT F C K γ ia) (tT F C K γ ib) σ H Q := by
  obtain ⟨G, env, b, env', sr, ev, k⟩ := h
  rcases or_cases ev with ⟨e1, h1, h2⟩ | ⟨h1, e⟩
  · exact ⟨G, env, false, e1, sr, h1, fun G1 H1 s1 st1 => ⟨G1, e1, b, env', s1, h2, fun G' H' s st => k G' H' s (st1.trans st)⟩⟩
  · cases e
    refine ⟨G, env, true, env', sr, h1, fun G1 H1 s1 st1 => ?_⟩
    show (if true = true then Q true H1 else _)
    rw [if_pos rfl]
    exact k G1 H1 s1 st1
theorem e_not (ha : PE X a (tE F C X.K γ ia)) : PE X (.UnaryOp .Not a pos) (tE F C X.K γ (.nt ia)) := by
  refine PE.weak (pe_not ha) fun σ H Q ⟨G, env, o, env', sr, ev, k⟩ => ?_
  simp only [evE] at ev
  split at ev
  · rename_i b e1 h1
    cases ev
    exact ⟨G, env, _, _, sr, h1, fun G1 H1 x s1 st1 r1 => ⟨b, opd_bl r1, k.pu s1 st1 (.bl _)⟩⟩
  · cases ev
theorem t_not (ha : PT X a (tT F C X.K γ ia)) : PT X (.UnaryOp .Not a pos) (tT F C X.K γ (.nt ia)) := by
  refine PT.weak (pt_not ha) fun σ H Q ⟨G, env, o, env', sr, ev, k⟩ => ?_
  simp only [evE] at ev
  split at ev
  · rename_i b e1 h1
    cases ev
    exact ⟨G, env, _, _, sr, h1, fun G1 H1 s1 st1 => k G1 H1 s1 st1⟩
  · cases ev
theorem ite_cases {env env' : Ev} {o : Opd} (ev : evE F C (.ite ic ia ib) env = some (o, env')) : ∃ d e1, evE F C ic env = some (.pu (.bool d), e1) ∧ evE F C (if d = true then ia else ib) e1 = some (o, env') := by
  simp only [evE] at ev
  split at ev
  · rename_i e1 h1; exact ⟨true, e1, h1, ev⟩
  · rename_i e1 h1; exact ⟨false, e1, h1, ev⟩
  · cases ev
theorem e_ite (hc : PT X c (tT F C X.K γ ic)) (ha : PE X a (tE F C X.K γ ia)) (hb : PE X b (tE F C X.K γ ib)) : PE X (.IfExp c a b pos) (tE F C X.K γ (.ite ic ia ib)) := by
  refine PE.weak (pe_ifExp hc ha hb) fun σ H Q ⟨G, env, o, env', sr, ev, k⟩ => ?_
  obtain ⟨d, e1, h1, h2⟩ := ite_cases ev
  refine ⟨G, env, d, e1, sr, h1, fun G1 H1 s1 st1 => ?_⟩
  cases d with
  | true => exact ⟨G1, e1, o, env', s1, h2, k.later st1⟩
  | false => exact ⟨G1, e1, o, env', s1, h2, k.later st1⟩
theorem t_ite (hc : PT X c (tT F C X.K γ ic)) (ha : PT X a (tT F C X.K γ ia)) (hb : PT X b (tT F C X.K γ ib)) : PT X (.IfExp c a b pos) (tT F C X.K γ (.ite ic ia ib)) := by
  refine ⟨fun pins s σ H Q I ⟨G, env, bb, env', sr, ev, k⟩ => ?_⟩
  obtain ⟨d, e1, h1, h2⟩ := ite_cases ev
  show wpAny _ _ (do if ← isTrue c X.env (eval c X.env) then isTrue a X.env (eval a X.env) else isTrue b X.env (eval b X.env)) _ _ _
  refine wpAny_bind (thn (hc.run pins s σ H (fun q H1 => q = d ∧ ∃ G1, Sr X.K γ G1 H1 e1 σ ∧ Step (Ow env σ) G H (Ow e1 σ) G1 H1) I ⟨G, env, d, e1, sr, h1, fun G1 H1 s1 st1 => ⟨rfl, G1, s1, st1⟩⟩) fun q s1 ⟨H1, I1, e, G1, sr1, st1⟩ => ?_)
  subst e
  cases q with
  | true => exact ha.run pins s1 σ H1 Q I1 ⟨G1, e1, bb, env', sr1, h2, fun G' H' s st => k G' H' s (st1.trans st)⟩
  | false => exact hb.run pins s1 σ H1 Q I1 ⟨G1, e1, bb, env', sr1, h2, fun G' H' s st => k G' H' s (st1.trans st)⟩

/-! ### displays, subscripts -/
variable {es : List Expr} {ies : IEs} {x1 : Nat}
theorem e_tup {x1} (h : PA X es (tP F C X.K γ ies)) : PE X (.Tuple es x1 pos) (tE F C X.K γ (.tup ies)) := by
  refine PE.weak (pe_tup h) fun σ H Q ⟨G, env, o, env', sr, ev, k⟩ => ?_
  simp only [evE] at ev
  split at ev
  · rename_i ds e1 h1
    split at ev
    · rename_i hz
      cases ev
      exact ⟨G, env, ds, _, sr, h1, fun G1 H1 xs s1 st1 r1 => ⟨by rw [← r1.length]; exact lenOk_le hz, fun p hp => RQ.tup (k.fin s1 st1) s1.sub r1 hp⟩⟩
    · cases ev
  · cases ev
theorem e_lst (h : PA X es (tP F C X.K γ ies)) : PE X (.List es pos) (tE F C X.K γ (.lst ies)) := by
  refine PE.weak (pe_lst h) fun σ H Q ⟨G, env, o, env', sr, ev, k⟩ => ?_
  simp only [evE] at ev
  split at ev
  · rename_i ds e1 h1
    split at ev
    · rename_i hz
      cases ev
      exact ⟨G, env, ds, _, sr, h1, fun G1 H1 xs s1 st1 r1 => ⟨by rw [← r1.length]; exact lenOk_le hz, fun p hp => RQ.fr (k.fin s1 st1) s1.sub r1 hp⟩⟩
    · cases ev
  · cases ev
theorem e_idx (hs : notSlice b = true) (ha : PE X a (tE F C X.K γ ia)) (hb : PE X b (tE F C X.K γ ib)) : PE X (.Subscript a b pos) (tE F C X.K γ (.idx ia ib)) := by
  refine PE.weak (pe_ix ix_V ha hb (plainIx hs)) fun σ H Q ⟨G, env, o', env', sr, ev, k⟩ => ?_
  simp only [evE] at ev
  split at ev
  · cases ev
  rename_i x e1 h1
  split at ev
  · rename_i kk e2 h2
    split at ev
    · rename_i d hd
      obtain ⟨r, hr, he⟩ := Option.map_eq_some_iff.mp ev
      cases he
      refine ⟨G, env, x, e1, sr, h1, fun G1 H1 v s1 st1 r1 => ⟨G1, e1, _, _, s1, h2, fun G2 H2 u s2 st2 r2 => ?_⟩⟩
      have hk : ∃ i, kk = .int i := by
        cases d <;> cases kk <;> simp only [idxV] at hr <;> first | exact ⟨_, rfl⟩ | cases hr
      obtain ⟨i, rfl⟩ := hk
      exact ⟨G2, d, i, r, s2.sub, rds_ok s2 (r1.later st2) hd, opd_int r2, hr, fun z pz => k.pu s2 (st1.trans st2) pz⟩
    · cases ev
  · cases ev
theorem o_non : PO X none (tO F C X.K γ .non) := PO.weak po_none fun σ H Q ⟨G, env, i, env', sr, ev, k⟩ => by
  simp only [evO] at ev
  cases ev
  exact k G H sr Step.refl
theorem o_som {e : Expr} {ie : IE} (h : PE X e (tE F C X.K γ ie)) : PO X (some e) (tO F C X.K γ (.som ie)) := PO.weak (po_some h) fun σ H Q ⟨G, env, i, env', sr, ev, k⟩ => by
  simp only [evO] at ev
  split at ev
  · rename_i j e1 h1
    cases ev
    exact ⟨G, env, _, _, sr, h1, fun G1 H1 x s1 st1 r1 => ⟨j, opd_int r1, k G1 H1 s1 st1⟩⟩
  · cases ev
theorem e_slc {lo hi : Option Expr} {il ih : IO} {p2 : Pos} (ha : PE X a (tE F C X.K γ ia)) (hl : PO X lo (tO F C X.K γ il)) (hh : PO X hi (tO F C X.K γ ih)) : PE X (.Subscript a (.Slice lo hi none p2) pos) (tE F C X.K γ (.slc ia il ih)) := by
  refine PE.weak (pe_slice sl_V ha hl hh) fun σ H Q ⟨G, env, o', env', sr, ev, k⟩ => ?_
  simp only [evE] at ev
  split at ev
  · cases ev
  rename_i x e1 h1
  split at ev
  · cases ev
  rename_i l e2 h2
  split at ev
  · cases ev
  rename_i u e3 h3
  split at ev
  · rename_i d hd
    obtain ⟨r, hr, he⟩ := Option.map_eq_some_iff.mp ev
    cases he
    exact ⟨G, env, x, e1, sr, h1, fun G1 H1 v s1 st1 r1 => ⟨G1, e1, l, e2, s1, h2, fun G2 H2 s2 st2 => ⟨G2, e2, u, _, s2, h3, fun G3 H3 s3 st3 =>
      ⟨G3, d, _, s3.sub, rds_ok s3 ((r1.later st2).later st3) hd, hr, k.fin s3 ((st1.trans st2).trans st3)⟩⟩⟩⟩
  · cases ev
end
end Rf

set_option Elab.async false
set_option linter.all false
set_option maxRecDepth 100000
set_option maxHeartbeats 4000000
/-! Rf: arguments, built-in calls, ranges, methods. -/
namespace Rf
open PySem PySem.Spec PyProof.Rows L2

section
variable {X : Cx} {F : FT} {C : List D} {γ : Gam} {a b c e : Expr} {ia ib ic ie : IE} {es : List Expr} {ies : IEs} {pos p : Pos}

theorem a_nil : PA X [] (tA F C X.K γ .nil) := PA.weak pa_nil fun σ H Q ⟨G, env, os, env', sr, ev, k⟩ => by
  simp only [evA] at ev
  cases ev
  exact k G H [] sr Step.refl .nil
theorem tA_cons {K : PySem.W.Frag} {σ : L2.St} {H : Hp} {Q : List V → Hp → Prop} (h : tA F C K γ (.cons ie ies) σ H Q) : tCons (tE F C K γ ie) (tA F C K γ ies) σ H Q := by
  obtain ⟨G, env, os, env', sr, ev, k⟩ := h
  simp only [evA] at ev
  split at ev
  · cases ev
  rename_i o e1 h1
  split at ev
  · cases ev
  rename_i os' e2 h2
  cases ev
  refine ⟨G, env, o, e1, sr, h1, fun G1 H1 x s1 st1 r1 => ?_⟩
  obtain ⟨G1', s1', st1', r1', nf⟩ := thaw_ok s1 st1 r1
  exact ⟨G1', e1, os', _, s1', h2, fun G2 H2 xs s2 st2 r2 => k G2 H2 (x :: xs) s2 (st1'.trans st2) (.cons (r1'.later st2) nf (r2.start st1'.fb))⟩
theorem a_cons (hs : notStar e = true) (he : PE X e (tE F C X.K γ ie)) (hr : PA X es (tA F C X.K γ ies)) : PA X (e :: es) (tA F C X.K γ (.cons ie ies)) :=
  PA.weak (pa_cons he hr (star_cons hs)) fun _ _ _ h => tA_cons h
theorem k_nil : PK X [] (tA F C X.K γ .nil) := PK.weak pk_nil fun σ H Q ⟨G, env, os, env', sr, ev, k⟩ => by
  simp only [evA] at ev
  cases ev
  exact k G H [] sr Step.refl .nil
theorem k_cons {nm : Option Str} {kpos : Pos} {kws : List Keyword} (he : PE X e (tE F C X.K γ ie)) (hr : PK X kws (tA F C X.K γ ies)) : PK X (⟨nm, e, kpos⟩ :: kws) (tA F C X.K γ (.cons ie ies)) :=
  PK.weak (pk_cons he hr) fun _ _ _ h => tA_cons h
theorem p_nil : PA X [] (tP F C X.K γ .nil) := PA.weak pa_nil fun σ H Q ⟨G, env, os, env', sr, ev, k⟩ => by
  simp only [evP] at ev
  cases ev
  exact k G H [] sr Step.refl .nil
theorem p_cons (hs : notStar e = true) (he : PE X e (tE F C X.K γ ie)) (hr : PA X es (tP F C X.K γ ies)) : PA X (e :: es) (tP F C X.K γ (.cons ie ies)) := by
  refine PA.weak (pa_cons he hr (star_cons hs)) fun σ H Q ⟨G, env, ds, env', sr, ev, k⟩ => ?_
  simp only [evP] at ev
  split at ev
  · cases ev
  rename_i o e1 h1
  split at ev
  · cases ev
  rename_i d hd
  split at ev
  · cases ev
  rename_i ds' e2 h2
  cases ev
  refine ⟨G, env, o, e1, sr, h1, fun G1 H1 x s1 st1 r1 => ?_⟩
  obtain ⟨G1', s1', st1', _, r1', _⟩ := frz_ok s1 st1 r1 hd
  exact ⟨G1', e1, ds', _, s1', h2, fun G2 H2 xs s2 st2 r2 => k G2 H2 (x :: xs) s2 (st1'.trans st2) (.cons (r1'.mono st2.g) r2)⟩

/-! ### built-in calls -/
theorem boot_blt (b : Blt) (h : b ≠ .gcd2) : bootBuiltins (bltName b) = some (bltKind b).val := by
  cases b <;> first | exact absurd rfl h | decide +kernel
theorem e_blt {bl : Blt} {x : Str} (hcalm : X.calm = true) (hgd : X.A.guards = some []) (hu : X.A.units + 67 < cLine) (hx : x = bltName bl) (hg : Gl X x) (hd : (x == ("__debug__" : Str)) = false) (hn : x ≠ ("__name__" : Str))
    (hm : if bl = .gcd2 then X.mg "gcd" = some (.builtin "math.gcd") else X.mg x = none) (hst : noStars (e :: es) = true) (ha : PA X (e :: es) (tA F C X.K γ ies)) : PE X (.Call (.Name x p) (e :: es) [] pos) (tE F C X.K γ (.blt bl ies)) := by
  obtain ⟨hs1, hs2⟩ := ands hst
  have red : ∀ {σ : L2.St} {H : Hp} {Q : VK}, tE F C X.K γ (.blt bl ies) σ H Q → tCB (rBlt X.K bl) (tA F C X.K γ ies) σ H Q := fun {σ H Q} ⟨G, env, o, env', sr, ev, k⟩ => by
    simp only [evE] at ev
    split at ev
    · cases ev
    rename_i os e1 h1
    split at ev
    · rename_i ds hds
      obtain ⟨res, hr, he⟩ := Option.map_eq_some_iff.mp ev
      cases he
      exact ⟨G, env, os, _, sr, h1, fun G1 H1 xs s1 st1 r1 => ⟨G1, ds, _, s1.sub, rdsAll_ok s1 r1 hds, hr, k.fin s1 st1⟩⟩
    · cases ev
  have hc := call_blt hcalm hgd hu bl
  by_cases hb : bl = .gcd2
  · subst hb
    subst hx
    rw [if_pos rfl] at hm
    exact PE.weak (pe_callBfun (id := "math.gcd") hc hg hm ha hd (star_cons hs1) (plain_any hs2)) fun _ _ _ h => red h
  · rw [if_neg hb] at hm
    have hv := boot_blt bl hb
    rw [← hx] at hv
    cases hk : bltKind bl with
    | fn id =>
      rw [hk] at hc hv
      exact PE.weak (pe_callB (id := id) hc hg hm hv ha hn hd (star_cons hs1) (plain_any hs2)) fun _ _ _ h => red h
    | ty n =>
      rw [hk] at hc hv
      exact PE.weak (pe_callTy (T := n) hc hg hm hv ha hn hd (star_cons hs1) (plain_any hs2)) fun _ _ _ h => red h

/-! ### isinstance -/
theorem boot_ty (t : Ty) : bootBuiltins (Str.ofString (tyN t)) = some (.type (tyN t)) := by cases t <;> decide +kernel
def tTys (ts : List Ty) : TA := fun _ H Q => Q (ts.map fun t => V.ty (tyN t)) H
theorem clsV_map (ts : List Ty) : Paired ClsV (ts.map fun t => V.ty (tyN t)) (ts.map fun t => Value.type (tyN t)) := by
  induction ts with
  | nil => exact .nil
  | cons t ts ih => exact .cons (.ty _) ih
/-- the type names of a tuple -/
theorem tys_pa {pg : Pg} {k : Nat} {sc : SC} (hX : XOk pg k sc X) : ∀ {ts : List Ty} {us : List Expr}, tysB pg sc ts us = true → PA X us (tTys ts) ∧ noStars us = true
  | [], [], _ => ⟨PA.weak pa_nil fun _ _ _ h => h, rfl⟩
  | [], _ :: _, h => by cases h
  | t :: ts, [], h => by cases h
  | t :: ts, u :: us, h => by
    cases u <;> first | (simp only [tysB] at h; cases h) | skip
    rename_i x q
    simp only [tysB] at h
    obtain ⟨h12, h3⟩ := ands h
    obtain ⟨h1, h2⟩ := ands h12
    obtain ⟨g1, g2, g3, g4⟩ := hX.blt h1
    obtain ⟨r1, r2⟩ := tys_pa hX h3
    have hx : x = Str.ofString (tyN t) := of_decide_eq_true h2
    have hv := boot_ty t
    rw [← hx] at hv
    exact ⟨PA.weak (pa_cons (pe_bltn (v := .ty (tyN t)) g1 g2 hv rfl g4 g3) r1 rfl) fun _ _ _ h => h, r2⟩
theorem e_isi1 {ts : List Ty} {y : Str} {q : Pos} {t : Ty} (hg : Gl X "isinstance") (hm : X.mg "isinstance" = none) (hs : notStar a = true) (ha : PE X a (tE F C X.K γ ia)) (ht : PE X (.Name y q) (tC (.ty (tyN t)))) :
    PE X (.Call (.Name "isinstance" p) [a, .Name y q] [] pos) (tE F C X.K γ (.isi ia [t])) := by
  refine PE.weak (pe_callB (call_isi) hg hm (by decide +kernel) (pa_cons ha (pa_cons ht pa_nil rfl) (star_cons hs)) (by decide) (by decide) (star_cons hs) rfl) fun σ H Q ⟨G, env, o, env', sr, ev, k⟩ => ?_
  simp only [evE] at ev
  split at ev
  · cases ev
  rename_i x e1 h1
  split at ev
  · rename_i d hd
    cases ev
    exact ⟨G, env, x, _, sr, h1, fun G1 H1 v s1 st1 r1 => ⟨v, .ty (tyN t), _, _, _, rfl, .ty _, tyX_of s1.sub (rdp_ok s1 r1 hd), kit_is X.K d t, by
      have := k.pu (x := .bl (tyIs t d)) s1 st1 (by simp; exact .bl _)
      exact this⟩⟩
  · cases ev
theorem e_isiT {ts : List Ty} {us : List Expr} {kk : Nat} {q : Pos} (hg : Gl X "isinstance") (hm : X.mg "isinstance" = none) (hs : notStar a = true) (ha : PE X a (tE F C X.K γ ia)) (ht : PA X us (tTys ts)) (hl : ts.length ≤ 1000) :
    PE X (.Call (.Name "isinstance" p) [a, .Tuple us kk q] [] pos) (tE F C X.K γ (.isi ia ts)) := by
  refine PE.weak (pe_callB (call_isiT) hg hm (by decide +kernel) (pa_cons ha (pa_cons (pe_tup ht) pa_nil rfl) (star_cons hs)) (by decide) (by decide) (star_cons hs) rfl) fun σ H Q ⟨G, env, o, env', sr, ev, k⟩ => ?_
  simp only [evE] at ev
  split at ev
  · cases ev
  rename_i x e1 h1
  split at ev
  · rename_i d hd
    cases ev
    refine ⟨G, env, x, _, sr, h1, fun G1 H1 v s1 st1 r1 => ⟨by rw [List.length_map, sizeLine_eq]; omega, fun l hl => ?_⟩⟩
    refine ⟨v, l, _, _, _, _, rfl, upd_same, clsV_map ts, tyX_of (s1.sub.trans (up_sub hl)) ?_, kit_any X.K d ts, ?_⟩
    · cases rdp_ok s1 r1 hd with
      | pu p => exact .pu p
      | li h q => exact .li (up_sub hl _ _ h) q
      | di h q => exact .di (up_sub hl _ _ h) q
    · exact k G1 _ (.bl _) (s1.newH hl) (st1.trans (Step.newH hl)) (.bl _)
  · cases ev

/-! ### list(range(..)), tuple(range(..)) -/
theorem ups_pu {K : PySem.W.Frag} {G : Hp} : ∀ (n : Nat) (lo : Int), PuA K G (ups lo n) ((List.range n).map fun i => V.int (lo + (i : Nat)))
  | 0, _ => .nil
  | n + 1, lo => by
    rw [List.range_succ_eq_map, List.map_cons, List.map_map]
    refine .cons ?_ ?_
    · have e : lo + ((0 : Nat) : Int) = lo := by simp
      rw [e]; exact .int lo
    · have e : ((fun i : Nat => V.int (lo + (i : Nat))) ∘ Nat.succ) = fun i : Nat => V.int ((lo + 1) + (i : Nat)) := by
        funext i
        show V.int _ = V.int _
        congr 1
        have : ((Nat.succ i : Nat) : Int) = (i : Int) + 1 := by omega
        rw [this]; omega
      rw [e]
      exact ups_pu n (lo + 1)
theorem ups_length : ∀ (n : Nat) (lo : Int), (ups lo n).length = n
  | 0, _ => rfl
  | n + 1, lo => congrArg Nat.succ (ups_length n _)
theorem rng_ok {d e : D} {xs : List D} (h : rngV d e = some xs) : ∃ i j : Int, d = .int i ∧ e = .int j ∧ (-4611686018427387904 ≤ i ∧ i < 4611686018427387904 ∧ -4611686018427387904 ≤ j ∧ j < 4611686018427387904) ∧ xs = ups i (j - i).toNat := by
  cases d <;> cases e <;> simp only [rngV] at h <;> (try cases h)
  rename_i i j
  split at h
  · rename_i ok
    cases h
    unfold rngOk at ok
    obtain ⟨ok, h4⟩ := ands ok
    obtain ⟨ok, h3⟩ := ands ok
    obtain ⟨h1, h2⟩ := ands ok
    exact ⟨i, j, rfl, rfl, ⟨of_decide_eq_true h1, of_decide_eq_true h2, of_decide_eq_true h3, of_decide_eq_true h4⟩, rfl⟩
  · cases h
theorem rg_cases {il ih : IE} {mk : List D → Opd} {env env' : Ev} {o : Opd} {t : IE} (ht : t = .lrg il ih ∧ mk = .fr ∨ t = .trg il ih ∧ mk = (fun xs => .pu (.tuple xs))) (ev : evE F C t env = some (o, env')) :
    ∃ d e e1 xs, evE F C il env = some (.pu d, e1) ∧ evE F C ih e1 = some (.pu e, env') ∧ rngV d e = some xs ∧ lenOk xs.length = true ∧ o = mk xs := by
  rcases ht with ⟨rfl, rfl⟩ | ⟨rfl, rfl⟩ <;> simp only [evE] at ev
  all_goals
    split at ev
    · rename_i d e1 h1
      split at ev
      · rename_i e e2 h2
        split at ev
        · rename_i xs h3
          split at ev
          · rename_i h4
            cases ev
            exact ⟨d, e, e1, xs, h1, h2, h3, h4, rfl⟩
          · cases ev
        · cases ev
      · cases ev
    · cases ev
/-- range(..) written as an argument: its bounds -/
def tRG (F : FT) (C : List D) (K : PySem.W.Frag) (γ : Gam) (il ih : IE) : L2.St → Hp → (Int → Int → Hp → Prop) → Prop := fun σ H Q => ∃ G env i j e1 env', Sr K γ G H env σ ∧ evE F C il env = some (.pu (.int i), e1) ∧ evE F C ih e1 = some (.pu (.int j), env') ∧
  ∀ G' H', Sr K γ G' H' env' σ → Step (Ow env σ) G H (Ow env' σ) G' H' → Q i j H'
theorem PRg.weak {e : Expr} {t t' : L2.St → Hp → (Int → Int → Hp → Prop) → Prop} (h : PRg X e t) (w : ∀ σ H Q, t' σ H Q → t σ H Q) : PRg X e t' := fun pins s σ H Q I q => h pins s σ H Q I (w _ _ _ q)
theorem rg_1 (hg : Gl X "range") (hm : X.mg "range" = none) (hs : notStar a = true) (ha : PE X a (tE F C X.K γ ia)) : PRg X (.Call (.Name "range" p) [a] [] pos) (tRG F C X.K γ (.cst (.int 0)) ia) :=
  PRg.weak (prg_1 hg hm ha (star_cons hs)) fun σ H Q ⟨G, env, i, j, e1, env', sr, h1, h2, k⟩ => by
    simp only [evE] at h1
    cases h1
    exact ⟨G, env, _, env', sr, h2, fun G1 H1 x s1 st1 r1 => ⟨j, opd_int r1, k G1 H1 s1 st1⟩⟩
theorem rg_2 (hg : Gl X "range") (hm : X.mg "range" = none) (hs : notStar a = true) (hs2 : notStar b = true) (ha : PE X a (tE F C X.K γ ia)) (hb : PE X b (tE F C X.K γ ib)) : PRg X (.Call (.Name "range" p) [a, b] [] pos) (tRG F C X.K γ ia ib) :=
  PRg.weak (prg_2 hg hm ha hb (star_cons hs) (star_cons hs2) (plain_any (es := [b]) (by simp [noStars, hs2]))) fun σ H Q ⟨G, env, i, j, e1, env', sr, h1, h2, k⟩ =>
    ⟨G, env, _, e1, sr, h1, fun G1 H1 x s1 st1 r1 => ⟨G1, e1, _, env', s1, h2, fun G2 H2 y s2 st2 r2 => ⟨i, j, opd_int r1, opd_int r2, k G2 H2 s2 (st1.trans st2)⟩⟩⟩
theorem e_lrg {q : Pos} (hc : X.calm = true) (hg : Gl X "list") (hm : X.mg "list" = none) (hs : notStar e = true) (he : PRg X e (tRG F C X.K γ ia ib)) : PE X (.Call (.Name "list" p) [e] [] q) (tE F C X.K γ (.lrg ia ib)) := by
  refine PE.weak (pe_listRg hc hg hm he (star_cons hs)) fun σ H Q ⟨G, env, o, env', sr, ev, k⟩ => ?_
  obtain ⟨d, e', e1, xs, h1, h2, h3, h4, rfl⟩ := rg_cases (.inl ⟨rfl, rfl⟩) ev
  obtain ⟨i, j, rfl, rfl, bd, rfl⟩ := rng_ok h3
  refine ⟨G, env, i, j, e1, env', sr, h1, h2, fun G1 H1 s1 st1 => ⟨⟨by omega, by omega, by omega, by omega, ?_⟩, fun q hq => RQ.fr (k.fin s1 st1) s1.sub (ups_pu _ _) hq⟩⟩
  have := lenOk_le h4
  rw [ups_length, sizeLine_eq] at this
  omega
theorem e_trg {q : Pos} (hc : X.calm = true) (hg : Gl X "tuple") (hm : X.mg "tuple" = none) (hs : notStar e = true) (he : PRg X e (tRG F C X.K γ ia ib)) : PE X (.Call (.Name "tuple" p) [e] [] q) (tE F C X.K γ (.trg ia ib)) := by
  refine PE.weak (pe_tupRg hc hg hm he (star_cons hs)) fun σ H Q ⟨G, env, o, env', sr, ev, k⟩ => ?_
  obtain ⟨d, e', e1, xs, h1, h2, h3, h4, rfl⟩ := rg_cases (mk := fun xs => .pu (.tuple xs)) (.inr ⟨rfl, rfl⟩) ev
  obtain ⟨i, j, rfl, rfl, bd, rfl⟩ := rng_ok h3
  refine ⟨G, env, i, j, e1, env', sr, h1, h2, fun G1 H1 s1 st1 => ⟨⟨by omega, by omega, by omega, by omega, ?_⟩, fun q hq => RQ.tup (k.fin s1 st1) s1.sub (ups_pu _ _) hq⟩⟩
  have := lenOk_le h4
  rw [ups_length, sizeLine_eq] at this
  omega

/-! ### xs[::-1], repr([..]) -/
theorem e_rev {k : Nat} {p1 p2 p3 pos : Pos} (ha : PE X a (tE F C X.K γ ia)) : PE X (.Subscript a (.Slice none none (some (.UnaryOp .USub (.Constant (.int 1) k p1) p2)) p3) pos) (tE F C X.K γ (.rev ia)) := by
  refine PE.weak (pe_revA ha) fun σ H Q ⟨G, env, o, env', sr, ev, k⟩ => ?_
  simp only [evE] at ev
  split at ev
  · cases ev
  rename_i x e1 h1
  split at ev
  · rename_i d hd
    obtain ⟨r, hr, he⟩ := Option.map_eq_some_iff.mp ev
    cases he
    cases d <;> simp only [revV] at hr <;> cases hr
    · refine ⟨G, env, x, _, sr, h1, fun G1 H1 v s1 st1 r1 => ?_⟩
      obtain ⟨l, ys, rfl, hl, pl⟩ := (rds_ok s1 r1 hd).list s1.sub rfl
      exact ⟨l, ys, rfl, .inl ⟨hl, fun q hq => RQ.fr (k.fin s1 st1) s1.sub pl.reverse hq⟩⟩
    · refine ⟨G, env, x, _, sr, h1, fun G1 H1 v s1 st1 r1 => ?_⟩
      obtain ⟨l, ys, rfl, hl, pl⟩ := (rds_ok s1 r1 hd).tuple rfl
      exact ⟨l, ys, rfl, .inr ⟨sqT_sub s1.sub hl, fun q hq => RQ.tup (k.fin s1 st1) s1.sub pl.reverse hq⟩⟩
  · cases ev
def rReprD (K : PySem.W.Frag) : List V → Hp → VK → Prop := fun vs H Q => ∃ x d, vs = [x] ∧ Dq K H x d ∧ reprOk d = true ∧ Q (.str d.shown) H
theorem call_reprD (hgd : X.A.guards = some []) (hu : X.A.units + 65 < cLine) : CallR X (.builtin "repr") (rReprD X.K) := by
  intro pins s σ H vs us Q I r h
  obtain ⟨x, d, rfl, dp, ok, q⟩ := h
  obtain ⟨u, rfl, rx⟩ := Vals.one r
  exact repr_run hgd hu I rx dp ok q
theorem rdsA_dq {K : PySem.W.Frag} {G H : Hp} (sb : Sub G H) : ∀ {ds : List D} {vs : List V}, rOkAll ds = true → RdsA K G H ds vs → DqAll K H vs ds
  | _, _, _, .nil => .nil
  | _, _, h, .cons a b => by
    simp only [rOkAll, Bool.and_eq_true] at h
    exact .cons (a.dq h.1 sb) (rdsA_dq sb h.2 b)
theorem RdsA.newH {K : PySem.W.Frag} {G H : Hp} {q : Addr} {o : HO} (hq : H q = none) : ∀ {ds : List D} {vs : List V}, RdsA K G H ds vs → RdsA K G (upd H q o) ds vs
  | _, _, .nil => .nil
  | _, _, .cons a b => .cons (by
      cases a with
      | rd r => cases r with
        | pu p => exact .rd (.pu p)
        | li h t => exact .rd (.li (up_sub hq _ _ h) t)
        | di h t => exact .rd (.di (up_sub hq _ _ h) t)
      | sc h t =>
        refine .sc ?_ t
        rcases h with (h | ⟨ob, h⟩) | h
        · exact .inl (.inl (up_sub hq _ _ h))
        · exact .inl (.inr ⟨ob, up_sub hq _ _ h⟩)
        · exact .inr h) (RdsA.newH hq b)
theorem RdsA.length {K : PySem.W.Frag} {G H : Hp} : ∀ {ds : List D} {vs : List V}, RdsA K G H ds vs → ds.length = vs.length
  | _, _, .nil => rfl
  | _, _, .cons _ b => congrArg Nat.succ (RdsA.length b)
theorem e_rpr {q : Pos} (hgd : X.A.guards = some []) (hu : X.A.units + 65 < cLine) (hg : Gl X "repr") (hm : X.mg "repr" = none) (ha : PA X es (tA F C X.K γ ies)) : PE X (.Call (.Name "repr" p) [.List es q] [] pos) (tE F C X.K γ (.rpr ies)) := by
  refine PE.weak (pe_callB (call_reprD hgd hu) hg hm (by decide +kernel) (pa_cons (pe_lst ha) pa_nil rfl) (by decide) (by decide) rfl rfl) fun σ H Q ⟨G, env, o, env', sr, ev, k⟩ => ?_
  simp only [evE] at ev
  split at ev
  · cases ev
  rename_i os e1 h1
  split at ev
  · rename_i ds hds
    split at ev
    · rename_i hz
      cases ev
      obtain ⟨hz, hr⟩ := ands hz
      refine ⟨G, env, os, _, sr, h1, fun G1 H1 xs s1 st1 r1 => ?_⟩
      have ra := rdsAll_ok s1 r1 hds
      refine ⟨by rw [← ra.length]; exact lenOk_le hz, fun l hl => ⟨.ref l, .list ds, rfl, ?_, hr, ?_⟩⟩
      · exact .lst (SqL.of upd_same) (rdsA_dq (s1.sub.trans (up_sub hl)) (by simpa only [rOk] using (reprOk_ok hr).1) (ra.newH hl))
      · exact k G1 _ _ (s1.newH hl) (st1.trans (Step.newH hl)) (.str _)
    · cases ev
  · cases ev
end
end Rf

set_option Elab.async false
set_option linter.all false
set_option maxRecDepth 100000
set_option maxHeartbeats 4000000
/-! Rf: methods of lists, calls of defs. -/
namespace Rf
open PySem PySem.Spec PyProof.Rows L2

theorem blt_lt {a b : Nat} (h : Nat.blt a b = true) : a < b := by
  unfold Nat.blt at h
  exact Nat.le_of_ble_eq_true h
theorem get_set {α : Type} {l : List α} {i j : Nat} {a b : α} (h : (l.set i a)[j]? = some b) : (j = i ∧ b = a) ∨ (j ≠ i ∧ l[j]? = some b) := by
  by_cases q : i = j
  · subst q
    rw [List.getElem?_set] at h
    simp only [if_true] at h
    split at h
    · cases h; exact .inl ⟨rfl, rfl⟩
    · cases h
  · rw [List.getElem?_set_ne q] at h
    exact .inr ⟨fun z => q z.symm, h⟩
section
variable {K : PySem.W.Frag} {γ : Gam} {G H : Hp} {env : Ev} {σ : L2.St}
theorem ownAt_own {i j t : Nat} {xs ys : List D} {a : Addr} (e : env[i]? = some (.own t xs)) (h : OwnAt (env.set i (.own t ys)) σ j a) : OwnAt env σ j a := by
  obtain ⟨⟨u, q, io⟩, h1⟩ := h
  rcases get_set q with ⟨rfl, _⟩ | ⟨_, q⟩
  · exact ⟨⟨_, e, rfl⟩, h1⟩
  · exact ⟨⟨u, q, io⟩, h1⟩
/-- a list that slot i holds is changed -/
theorem Sr.mut (s : Sr K γ G H env σ) {i t : Nat} {xs xs' : List D} {a : Addr} {ys' : List V} (e : env[i]? = some (.own t xs)) (ha : σ[i]? = some (some (.ref a))) (p : PuA K G xs' ys') :
    Sr K γ G (upd H a (.lst ys')) (env.set i (.own t xs')) σ ∧ Step (Ow env σ) G H (Ow (env.set i (.own t xs')) σ) G (upd H a (.lst ys')) := by
  obtain ⟨a', ys, h1, h2, h3, h4, h5, h6⟩ := s.slot i _ e
  rw [ha] at h1; cases h1
  have own : OwnAt env σ i a := ⟨⟨_, e, rfl⟩, ha⟩
  refine ⟨⟨fun b u q => ?_, by simpa using s.len, fun j sl q => ?_, fun j j' b q q' => s.inj j j' b (ownAt_own e q) (ownAt_own e q')⟩, ⟨Sub.refl G, fun b u q no => ?_, fun _ _ q _ => q, fun b q => ?_, fun b ⟨j, hj⟩ => .inl ⟨j, ownAt_own e hj⟩⟩⟩
  · rw [upd_ne (fun z => by subst z; rw [h2] at q; cases q)]; exact s.sub _ _ q
  · rcases get_set q with ⟨rfl, rfl⟩ | ⟨ne, q⟩
    · exact ⟨a, ys', ha, h2, upd_same, p, h5, h6⟩
    · have r := s.slot j sl q
      cases sl with
      | emp => trivial
      | val d => exact r
      | own u zs =>
        obtain ⟨m, ws, e1, e2, e3, e4⟩ := r
        refine ⟨m, ws, e1, e2, ?_, e4⟩
        rw [upd_ne]
        · exact e3
        · rintro rfl
          exact ne (s.inj j i m ⟨⟨_, q, rfl⟩, e1⟩ own)
      | dic zs =>
        obtain ⟨m, ws, e1, e2, e3, e4⟩ := r
        refine ⟨m, ws, e1, e2, ?_, e4⟩
        rw [upd_ne]
        · exact e3
        · rintro rfl
          exact ne (s.inj j i m ⟨⟨_, q, rfl⟩, e1⟩ own)
      | scr u zs =>
        obtain ⟨m, ws, e1, e2, e3⟩ := r
        refine ⟨m, ws, e1, ?_, e3⟩
        rcases e2 with ⟨o, e2⟩ | e2
        · exact .inl ⟨o, by rw [upd_ne (fun z => by subst z; rw [h3] at e2; cases e2)]; exact e2⟩
        · exact .inr e2
  · rw [upd_ne (fun z => no (by subst z; exact ⟨i, own⟩))]; exact q
  · by_cases z : b = a
    · subst z; rw [upd_same]; simp
    · rw [upd_ne z]; exact q
end

section
variable {X : Cx} {F : FT} {C : List D} {γ : Gam} {a b c e : Expr} {ia ib ic ie : IE} {es : List Expr} {ies : IEs} {pos p ap : Pos}

theorem mth_cases {m : Mth} {i : Nat} {env env' : Ev} {o : Opd} (ev : evE F C (.mth m i ies) env = some (o, env')) :
    ∃ t xs os e1, env[i]? = some (.own t xs) ∧ evA F C ies env = some (os, e1) ∧ mthV m e1 i os = some (o, env') := by
  simp only [evE] at ev
  split at ev
  · rename_i t xs q
    split at ev
    · cases ev
    · rename_i os e1 h1
      exact ⟨t, xs, os, e1, q, h1, ev⟩
  · cases ev
/-- what a method's call does, at the values -/
theorem mth_run {m : Mth} {i : Nat} {G0 H0 G1 H1 : Hp} {env env1 env' : Ev} {σ : L2.St} {o : Opd} {Q : VK} {os : List Opd} {vs : List V} {a : Addr} (hv : mthV m env1 i os = some (o, env')) (k : KE X.K γ G0 H0 env σ env' o Q) (s : Sr X.K γ G1 H1 env1 σ) (st : Step (Ow env σ) G0 H0 (Ow env1 σ) G1 H1)
    (r : OpasR X.K G1 H1 env1 σ H0 vs os) (ha : σ[i]? = some (some (.ref a))) :
    (m = .append → rAppend (.ref a) vs H1 Q) ∧ (m = .extend → rExtend (.ref a) vs H1 Q) ∧ (m = .pop0 → rPop (.ref a) vs H1 Q) ∧ (m = .pop1 → rPopAt (.ref a) vs H1 Q) ∧
    (m = .insert → ∃ (l : Addr) (xs : List V) (j : Int) (y : V), V.ref a = .ref l ∧ vs = [.int j, y] ∧ H1 l = some (.lst xs) ∧ xs.length < sizeLine ∧ 0 ≤ j ∧ j < 2 ^ 63 ∧ Q .non (upd H1 l (.lst (xs.take j.toNat ++ [y] ++ xs.drop j.toNat)))) := by
  simp only [mthV] at hv
  split at hv
  · rename_i t xs q
    obtain ⟨a', ys, h1, h2, h3, h4, _⟩ := s.ow_at q
    rw [ha] at h1; cases h1
    have hl := h4.length
    have fin : ∀ {G2 : Hp} {xs' : List D} {ys' : List V} {z : V} {d : D}, Sr X.K γ G2 H1 env1 σ → Step (Ow env σ) G0 H0 (Ow env1 σ) G2 H1 → PuA X.K G2 xs' ys' → o = .pu d → env' = env1.set i (.own t xs') → Pu X.K G2 d z → Q z (upd H1 a (.lst ys')) := fun {G2 xs' ys' z d} s2 st2 p e1 e2 pz => by
      subst e1; subst e2
      obtain ⟨m1, m2⟩ := s2.mut q ha p
      exact k _ _ z m1 (st2.trans m2) pz
    cases m with
    | append =>
      refine ⟨fun _ => ?_, (fun z => nomatch z), (fun z => nomatch z), (fun z => nomatch z), (fun z => nomatch z)⟩
      cases os with
      | nil => cases hv
      | cons x os =>
        cases os with
        | cons _ _ => cases hv
        | nil =>
          simp only at hv
          split at hv
          · rename_i d hd
            split at hv
            · rename_i hz
              cases hv
              cases r with
              | cons r1 _ rr =>
                cases rr
                obtain ⟨G2, s2, st2, sb, pd, _⟩ := frz_ok s st r1 hd
                have hz' : xs.length < 16777216 := blt_lt hz
                exact ⟨a, ys, _, rfl, rfl, h3, by rw [sizeLine_eq, ← hl]; exact hz', fin s2 st2 ((h4.mono sb).append (.cons pd .nil)) rfl rfl .non⟩
            · cases hv
          · cases hv
    | extend =>
      refine ⟨(fun z => nomatch z), fun _ => ?_, (fun z => nomatch z), (fun z => nomatch z), (fun z => nomatch z)⟩
      cases os with
      | nil => cases hv
      | cons x os =>
        cases os with
        | cons _ _ => cases hv
        | nil =>
          simp only at hv
          split at hv
          · rename_i zs hd
            split at hv
            · rename_i hz
              cases hv
              cases r with
              | cons r1 _ rr =>
                cases rr
                obtain ⟨G2, s2, st2, sb, pd, _⟩ := frz_ok s st r1 hd
                cases pd with
                | lst g1 pz =>
                  exact ⟨a, _, ys, _, rfl, rfl, h3, s2.sub _ _ g1, by rw [← hl, ← pz.length]; exact lenOk_le hz, fin s2 st2 ((h4.mono sb).append pz) rfl rfl .non⟩
            · cases hv
          · cases hv
    | pop0 =>
      refine ⟨(fun z => nomatch z), (fun z => nomatch z), fun _ => ?_, (fun z => nomatch z), (fun z => nomatch z)⟩
      cases os with
      | cons _ _ => cases hv
      | nil =>
        simp only at hv
        split at hv
        · rename_i d hd
          cases hv
          cases r
          obtain ⟨y, hy, py⟩ := h4.get hd
          exact ⟨a, ys, y, rfl, rfl, h3, by rw [← hl]; exact hy, fin s st h4.dropLast rfl rfl py⟩
        · cases hv
    | pop1 =>
      refine ⟨(fun z => nomatch z), (fun z => nomatch z), (fun z => nomatch z), fun _ => ?_, (fun z => nomatch z)⟩
      rcases os with _ | ⟨x0, os⟩
      · cases hv
      rcases os with _ | ⟨x1, os⟩ <;> rcases x0 with d0 | _ | _ | _ <;> (try rcases d0 with _ | _ | kk | _ | _ | _ | _) <;> (try cases hv)
      simp only at hv
      split at hv
      · rename_i hz
        obtain ⟨z1, z2⟩ := ands hz
        have b1 := of_decide_eq_true z1
        have b2 := of_decide_eq_true z2
        split at hv
        · rename_i n hn
          split at hv
          · rename_i d hd
            cases hv
            cases r with
            | cons r1 _ rr =>
              cases rr
              obtain ⟨y, hy, py⟩ := h4.get hd
              have e1 := opd_int r1
              subst e1
              exact ⟨a, ys, kk, n, y, rfl, rfl, h3, by omega, by omega, by rw [← hl]; exact (ixN_seq hn).1, hy, fin s st (h4.eraseIdx n) rfl rfl py⟩
          · cases hv
        · cases hv
      · cases hv
    | insert =>
      refine ⟨(fun z => nomatch z), (fun z => nomatch z), (fun z => nomatch z), (fun z => nomatch z), fun _ => ?_⟩
      rcases os with _ | ⟨x0, os⟩
      · cases hv
      rcases os with _ | ⟨x, _ | ⟨x3, os⟩⟩ <;> rcases x0 with d0 | _ | _ | _ <;> (try rcases d0 with _ | _ | kk | _ | _ | _ | _) <;> (try cases hv)
      simp only at hv
      split at hv
      · rename_i d hd
        split at hv
        · rename_i hz
          obtain ⟨z12, z3⟩ := ands hz
          obtain ⟨z1, z2⟩ := ands z12
          have b1 := of_decide_eq_true z1
          have b2 := of_decide_eq_true z2
          have b3 : xs.length < 16777216 := blt_lt z3
          cases hv
          cases r with
          | cons r1 _ rr =>
            cases rr with
            | cons r2 _ rr =>
              cases rr
              have e1 := opd_int r1
              subst e1
              obtain ⟨G2, s2, st2, sb, pd, _⟩ := frz_ok s st r2 hd
              refine ⟨a, ys, kk, _, rfl, rfl, h3, by rw [sizeLine_eq, ← hl]; exact b3, b1, by omega, fin s2 st2 ?_ rfl rfl .non⟩
              rw [List.append_assoc]
              exact ((h4.mono sb).take _).append (.cons pd ((h4.mono sb).drop _))
        · cases hv
      · cases hv
  · cases hv
theorem e_mth {m : Mth} {i : Nat} {x n : Str} {q : Pos} (hN : X.N[i]? = some x) (hv : Vis X.env.scope x) (hd : (x == ("__debug__" : Str)) = false) (hcd : (x == ("__classdict__" : Str)) = false) (hn : n = mthName m) (hl : (ap.endLine == pos.line) = true) (hst : noStars es = true) (hz : es.length < 30) (h0 : es = [] → ies = .nil)
    (ha : PA X es (tA F C X.K γ ies)) : PE X (.Call (.Attribute (.Name x q) n ap) es [] pos) (tE F C X.K γ (.mth m i ies)) := by
  have red : ∀ {σ : L2.St} {H : Hp} {Q : VK}, tE F C X.K γ (.mth m i ies) σ H Q → ∃ l, σ[i]? = some (some (.ref l)) ∧ tyV X.K "list" (.ref l) H ∧ tA F C X.K γ ies σ H fun vs H1 =>
    (m = .append → rAppend (.ref l) vs H1 Q) ∧ (m = .extend → rExtend (.ref l) vs H1 Q) ∧ (m = .pop0 → rPop (.ref l) vs H1 Q) ∧ (m = .pop1 → rPopAt (.ref l) vs H1 Q) ∧
    (m = .insert → ∃ (l' : Addr) (xs : List V) (j : Int) (y : V), V.ref l = .ref l' ∧ vs = [.int j, y] ∧ H1 l' = some (.lst xs) ∧ xs.length < sizeLine ∧ 0 ≤ j ∧ j < 2 ^ 63 ∧ Q .non (upd H1 l' (.lst (xs.take j.toNat ++ [y] ++ xs.drop j.toNat)))) := fun {σ H Q} ⟨G, env, o, env', sr, ev, k⟩ => by
    obtain ⟨t, xs, os, e1, h0, h1, h2⟩ := mth_cases ev
    obtain ⟨l, ys, q1, q2, q3, q4, _⟩ := sr.ow_at h0
    exact ⟨l, q1, .inl ⟨rfl, ys, SqL.of q3⟩, G, env, os, e1, sr, h1, fun G1 H1 vs s1 st1 r1 => mth_run h2 k s1 st1 r1 q1⟩
  subst hn
  cases es with
  | nil =>
    have e0 := h0 rfl
    subst e0
    have no : m ≠ .pop0 → ∀ σ H Q, ¬ tE F C X.K γ (.mth m i .nil) σ H Q := fun hm σ H Q ⟨G, env, o, env', sr, ev, k⟩ => by
      obtain ⟨t, xs, os, e1, h0, h1, h2⟩ := mth_cases ev
      simp only [evA] at h1
      cases h1
      simp only [mthV, h0] at h2
      cases m <;> first | exact hm rfl | cases h2
    by_cases hm : m = .pop0
    · subst hm
      refine PE.weak (pe_bm0 (T := "list") (r := rPop) PySem.F.plainAttrs_list PySem.F.slot_list_pop PySem.F.type_list_pop mt_pop (pe_var hN hv hd hcd) rfl hl) fun σ H Q h => ?_
      obtain ⟨l, h1, h2, G, env, os, env', sr, ev, k⟩ := red h
      simp only [evA] at ev
      cases ev
      exact ⟨_, h1, h2, (k G H [] sr Step.refl .nil).2.2.1 rfl⟩
    · exact ⟨fun pins s σ H Q I h => (no hm σ H Q h).elim⟩
  | cons e es =>
    obtain ⟨hs1, hs2⟩ := ands hst
    have few : ((backTo pos (starEach (e :: es) X.env)).all (fun x => !x.1) && (backToKw pos (keywordEach [] X.env)).all (fun x => x.1.isSome)
      && decide ((e :: es).length + ([] : List Keyword).length + (if ([] : List Keyword).isEmpty then 0 else 1) < 30)) = true := by
      rw [plain_all hst]
      simp only [Bool.true_and, Bool.and_eq_true, decide_eq_true_eq]
      exact ⟨rfl, by simpa using hz⟩
    cases m with
    | append =>
      refine PE.weak (pe_bm (T := "list") (r := rAppend) PySem.F.plainAttrs_list PySem.F.slot_list_append PySem.F.type_list_append mt_append (pe_var hN hv hd hcd) ha rfl few hl (star_cons hs1) (plain_any hs2)) fun σ H Q h => ?_
      obtain ⟨l, h1, h2, G, env, os, env', sr, ev, k⟩ := red h
      exact ⟨_, h1, h2, G, env, os, env', sr, ev, fun G1 H1 xs s1 st1 r1 => (k G1 H1 xs s1 st1 r1).1 rfl⟩
    | extend =>
      refine PE.weak (pe_bm (T := "list") (r := rExtend) PySem.F.plainAttrs_list PySem.F.slot_list_extend PySem.F.type_list_extend mt_extend (pe_var hN hv hd hcd) ha rfl few hl (star_cons hs1) (plain_any hs2)) fun σ H Q h => ?_
      obtain ⟨l, h1, h2, G, env, os, env', sr, ev, k⟩ := red h
      exact ⟨_, h1, h2, G, env, os, env', sr, ev, fun G1 H1 xs s1 st1 r1 => (k G1 H1 xs s1 st1 r1).2.1 rfl⟩
    | pop0 =>
      refine PE.weak (pe_bm (T := "list") (r := rPop) PySem.F.plainAttrs_list PySem.F.slot_list_pop PySem.F.type_list_pop mt_pop (pe_var hN hv hd hcd) ha rfl few hl (star_cons hs1) (plain_any hs2)) fun σ H Q h => ?_
      obtain ⟨l, h1, h2, G, env, os, env', sr, ev, k⟩ := red h
      exact ⟨_, h1, h2, G, env, os, env', sr, ev, fun G1 H1 xs s1 st1 r1 => (k G1 H1 xs s1 st1 r1).2.2.1 rfl⟩
    | pop1 =>
      refine PE.weak (pe_bm (T := "list") (r := rPopAt) PySem.F.plainAttrs_list PySem.F.slot_list_pop PySem.F.type_list_pop mt_popAt (pe_var hN hv hd hcd) ha rfl few hl (star_cons hs1) (plain_any hs2)) fun σ H Q h => ?_
      obtain ⟨l, h1, h2, G, env, os, env', sr, ev, k⟩ := red h
      exact ⟨_, h1, h2, G, env, os, env', sr, ev, fun G1 H1 xs s1 st1 r1 => (k G1 H1 xs s1 st1 r1).2.2.2.1 rfl⟩
    | insert =>
      refine PE.weak (pe_bm (T := "list") PySem.F.plainAttrs_list PySem.F.slot_list_insert PySem.F.type_list_insert mt_insert (pe_var hN hv hd hcd) ha rfl few hl (star_cons hs1) (plain_any hs2)) fun σ H Q h => ?_
      obtain ⟨l, h1, h2, G, env, os, env', sr, ev, k⟩ := red h
      exact ⟨_, h1, h2, G, env, os, env', sr, ev, fun G1 H1 xs s1 st1 r1 => (k G1 H1 xs s1 st1 r1).2.2.2.2 rfl⟩
end
end Rf

set_option Elab.async false
set_option linter.all false
set_option maxRecDepth 100000
set_option maxHeartbeats 4000000
/-! Rf: calls of defs. -/
namespace Rf
open PySem PySem.Spec PyProof.Rows L2

/-- the lists handed in -/
inductive IoR (G H Hs : Hp) (env : Ev) (σ : L2.St) : List (Option Nat) → List Addr → Prop
  | nil : IoR G H Hs env σ [] []
  | slot {i : Nat} {a : Addr} {ys : List V} {is : List (Option Nat)} {as : List Addr} : OwnAt env σ i a → H a = some (.lst ys) → IoR G H Hs env σ is as → IoR G H Hs env σ (some i :: is) (a :: as)
  | fo {a : Addr} {ys : List V} {is : List (Option Nat)} {as : List Addr} : ¬ Ow env σ a → Hs a = none → H a = some (.lst ys) → IoR G H Hs env σ is as → IoR G H Hs env σ (none :: is) (a :: as)
section
variable {K : PySem.W.Frag} {γ : Gam} {G H Hs G0 H0 : Hp} {env env0 env' : Ev} {σ : L2.St}
theorem IoR.mem (s : Sr K γ G H env σ) {a : Addr} : ∀ {is : List (Option Nat)} {as : List Addr}, IoR G H Hs env σ is as → a ∈ as → (∃ ys, H a = some (.lst ys)) ∧ ((∃ i, some i ∈ is ∧ OwnAt env σ i a) ∨ (none ∈ is ∧ ¬ Ow env σ a ∧ Hs a = none))
  | _, _, .nil, h => by simp at h
  | _, _, .slot o hl r, h => by
    rcases List.mem_cons.mp h with rfl | h
    · exact ⟨⟨_, hl⟩, .inl ⟨_, by simp, o⟩⟩
    · obtain ⟨p, q⟩ := IoR.mem s r h
      refine ⟨p, ?_⟩
      rcases q with ⟨i, q1, q2⟩ | ⟨q1, q2⟩
      · exact .inl ⟨i, List.mem_cons_of_mem _ q1, q2⟩
      · exact .inr ⟨List.mem_cons_of_mem _ q1, q2⟩
  | _, _, .fo h1 h2 h3 r, h => by
    rcases List.mem_cons.mp h with rfl | h
    · exact ⟨⟨_, h3⟩, .inr ⟨by simp, h1, h2⟩⟩
    · obtain ⟨p, q⟩ := IoR.mem s r h
      refine ⟨p, ?_⟩
      rcases q with ⟨i, q1, q2⟩ | ⟨q1, q2⟩
      · exact .inl ⟨i, List.mem_cons_of_mem _ q1, q2⟩
      · exact .inr ⟨List.mem_cons_of_mem _ q1, q2⟩
theorem IoR.get {j : Nat} : ∀ {is : List (Option Nat)} {as : List Addr} {n : Nat}, IoR G H Hs env σ is as → is[n]? = some (some j) → ∃ a, as[n]? = some a ∧ OwnAt env σ j a
  | _, _, _, .nil, h => by simp at h
  | _, _, 0, .slot o _ r, h => by simp at h; subst h; exact ⟨_, rfl, o⟩
  | _, _, n + 1, .slot o _ r, h => by
    obtain ⟨a, h1, h2⟩ := IoR.get (n := n) r (by simpa using h)
    exact ⟨a, by simpa using h1, h2⟩
  | _, _, 0, .fo _ _ _ r, h => by simp at h
  | _, _, n + 1, .fo _ _ _ r, h => by
    obtain ⟨a, h1, h2⟩ := IoR.get (n := n) r (by simpa using h)
    exact ⟨a, by simpa using h1, h2⟩
theorem IoR.nodup (s : Sr K γ G H env σ) : ∀ {is : List (Option Nat)} {as : List Addr}, IoR G H Hs env σ is as → distinct is = true → as.Nodup
  | _, _, .nil, _ => .nil
  | _, _, .slot (i := i) o _ r, h => by
    unfold distinct at h
    obtain ⟨h1, h2⟩ := ands h
    refine List.nodup_cons.mpr ⟨fun z => ?_, IoR.nodup s r h2⟩
    rcases (IoR.mem s r z).2 with ⟨j, q1, q2⟩ | ⟨_, q2, _⟩
    · rw [s.inj _ _ _ q2 o] at q1
      simp [q1] at h1
    · exact q2 ⟨_, o⟩
  | _, _, .fo n1 n2 n3 r, h => by
    unfold distinct at h
    obtain ⟨h1, h2⟩ := ands h
    refine List.nodup_cons.mpr ⟨fun z => ?_, IoR.nodup s r h2⟩
    rcases (IoR.mem s r z).2 with ⟨j, q1, q2⟩ | ⟨q1, _⟩
    · exact n1 ⟨_, q2⟩
    · simp [q1] at h1
theorem args_ok (s : Sr K γ G H env σ) : ∀ {os : List Opd} {xs : List V} {as : List Ar}, OpasR K G H env σ Hs xs os → arsOf env os = some as → ArsR K G H as xs ∧ IoR G H Hs env σ (iosOf env os) (ioAd as xs)
  | _, _, _, .nil, e => by simp only [arsOf] at e; cases e; exact ⟨.nil, .nil⟩
  | _, _, _, .cons (o := o) (x := x) r nf rr, e => by
    simp only [arsOf] at e
    split at e
    · rename_i a as' h1 h2
      cases e
      obtain ⟨q1, q2⟩ := args_ok s rr h2
      cases o with
      | pu d =>
        simp only [arOf] at h1
        cases h1
        exact ⟨.cons r q1, by cases x <;> exact q2⟩
      | fr xs => cases nf
      | fo xs =>
        simp only [arOf] at h1
        cases h1
        obtain ⟨l, ys, rfl, e1, e2, e3, e4, e5⟩ := r
        exact ⟨.cons ⟨l, ys, rfl, e1, e2, e3⟩ q1, .fo e4 e5 e2 q2⟩
      | fd kvs => simp only [arOf] at h1; cases h1
      | bo i =>
        have r' : σ[i]? = some (some x) := r
        simp only [arOf] at h1
        split at h1
        · rename_i t xs q
          cases h1
          obtain ⟨l, ys, e1, e2, e3, e4, e5⟩ := s.ow_at q
          rw [r'] at e1; cases e1
          refine ⟨.cons ⟨l, ys, rfl, e2, e3, e4⟩ q1, ?_⟩
          simp only [iosOf, q]
          exact .slot e5 e3 q2
        · rename_i t xs q
          cases h1
          obtain ⟨l, ys, e1, e2, e3⟩ := s.slot i _ q
          rw [r'] at e1; cases e1
          refine ⟨.cons ⟨l, ys, rfl, e2, e3⟩ q1, ?_⟩
          simp only [iosOf, q]
          exact q2
        · cases h1
    · cases e
theorem back_ok : ∀ {ios : List (Option Nat)} {outs : List (List D)} {env env' : Ev}, backOut env ios outs = some env' → distinct ios = true →
    env'.length = env.length ∧ ∀ (j : Nat) (sl : Sl), env'[j]? = some sl → (some j ∉ ios ∧ env[j]? = some sl) ∨ ∃ (n t : Nat) (xs xs0 : List D), ios[n]? = some (some j) ∧ outs[n]? = some xs ∧ env[j]? = some (.own t xs0) ∧ sl = .own t xs
  | [], [], _, _, e, _ => by
    simp only [backOut] at e
    cases e
    exact ⟨rfl, fun j sl h => .inl ⟨by simp, h⟩⟩
  | [], _ :: _, _, _, e, _ => by cases e
  | none :: is, [], _, _, e, _ => by cases e
  | some i :: is, [], _, _, e, _ => by cases e
  | none :: is, xs :: xss, _, _, e, d => by
    simp only [backOut] at e
    unfold distinct at d
    obtain ⟨_, d2⟩ := ands d
    obtain ⟨h1, h2⟩ := back_ok e d2
    refine ⟨h1, fun j sl h => ?_⟩
    rcases h2 j sl h with ⟨p, q⟩ | ⟨n, t, ys, y0, q1, q2, q3, q4⟩
    · exact .inl ⟨by simp [p], q⟩
    · exact .inr ⟨n + 1, t, ys, y0, by simpa using q1, by simpa using q2, q3, q4⟩
  | some i :: is, xs :: xss, env, _, e, d => by
    simp only [backOut] at e
    split at e
    · rename_i t x0 h0
      unfold distinct at d
      obtain ⟨d1, d2⟩ := ands d
      obtain ⟨h1, h2⟩ := back_ok e d2
      refine ⟨by rw [h1]; simp, fun j sl h => ?_⟩
      rcases h2 j sl h with ⟨p, q⟩ | ⟨n, u, ys, y0, q1, q2, q3, q4⟩
      · rcases get_set q with ⟨rfl, rfl⟩ | ⟨ne, q⟩
        · exact .inr ⟨0, t, xs, x0, rfl, rfl, h0, rfl⟩
        · refine .inl ⟨?_, q⟩
          simp only [List.mem_cons, not_or]
          exact ⟨fun z => ne (Option.some.inj z), p⟩
      · rcases get_set q3 with ⟨rfl, _⟩ | ⟨ne, q3⟩
        · have := List.mem_of_getElem? q1
          simp [this] at d1
        · exact .inr ⟨n + 1, u, ys, y0, by simpa using q1, by simpa using q2, q3, q4⟩
    · cases e
theorem OutsR.get : ∀ {as : List Addr} {xss : List (List D)} {n : Nat} {a : Addr} {xs : List D}, OutsR K G H as xss → as[n]? = some a → xss[n]? = some xs → ∃ ys, G a = none ∧ H a = some (.lst ys) ∧ PuA K G xs ys
  | _, _, _, _, _, .nil, h, _ => by simp at h
  | _, _, 0, _, _, .cons h1 h2 h3 _, e1, e2 => by simp at e1 e2; subst e1; subst e2; exact ⟨_, h1, h2, h3⟩
  | _, _, n + 1, _, _, .cons _ _ _ r, e1, e2 => OutsR.get (n := n) r (by simpa using e1) (by simpa using e2)

/-- the caller, behind the call -/
theorem call_ok {F : FT} {f n : Nat} {os : List Opd} {xs : List V} {o : Opd} {Q : VK} {E : XK} (s : Sr K γ G H env σ) (st : Step (Ow env0 σ) G0 H0 (Ow env σ) G H) (r : OpasR K G H env σ H0 xs os) (e : callO F f os env = some (o, env'))
    (k : KE K γ G0 H0 env0 σ env' o Q) (hn : ∀ as r, F f as = some r → as.length = n) : spF K F f n xs H Q E := by
  simp only [callO] at e
  split at e
  · cases e
  rename_i as has
  split at e
  · rename_i hd
    split at e
    · cases e
    rename_i rv outs hF
    split at e
    · cases e
    rename_i env2 hb
    have eo : o = rvO rv := by cases e; rfl
    have ee : env2 = env' := by cases e; rfl
    subst ee
    obtain ⟨ar, io⟩ := args_ok s r has
    obtain ⟨b1, b2⟩ := back_ok hb hd
    refine ⟨G, as, rv, outs, s.sub, ar, io.nodup s hd, hF, by rw [← ar.length]; exact hn _ _ hF, fun G' H' x q => ?_⟩
    have noSlot : ∀ {j a}, OwnAt env σ j a → some j ∉ iosOf env os → a ∉ ioAd as xs := fun {j a} h1 h2 z => by
      rcases (io.mem s z).2 with ⟨i, q1, q2⟩ | ⟨_, q2, _⟩
      · rw [s.inj _ _ _ q2 h1] at q1; exact h2 q1
      · exact q2 ⟨_, h1⟩
    have back : ∀ {j a}, OwnAt env2 σ j a → OwnAt env σ j a := fun {j a} ⟨⟨t, h1, io'⟩, h2⟩ => by
      rcases b2 j _ h1 with ⟨_, q1⟩ | ⟨_, u, _, y0, _, _, q3, _⟩
      · exact ⟨⟨_, q1, io'⟩, h2⟩
      · exact ⟨⟨_, q3, rfl⟩, h2⟩
    have fz : ∀ {a ob u}, H a = some (.frz ob u) → a ∉ ioAd as xs := fun {a ob u} h z => by
      obtain ⟨⟨ys, h1⟩, _⟩ := io.mem s z
      rw [h] at h1; cases h1
    have outer : ∀ {a}, H0 a ≠ none → ¬ Ow env0 σ a → a ∉ ioAd as xs := fun {a} h1 h2 z => by
      rcases (io.mem s z).2 with ⟨i, _, q2⟩ | ⟨_, _, q3⟩
      · rcases st.o a ⟨_, q2⟩ with y | y
        · exact h2 y
        · exact h1 y
      · exact h1 q3
    have S' : Sr K γ G' H' env2 σ := by
      refine ⟨q.sub, by rw [b1]; exact s.len, fun j sl h => ?_, fun i j a h1 h2 => s.inj i j a (back h1) (back h2)⟩
      rcases b2 j sl h with ⟨p, h'⟩ | ⟨n', t, ys, y0, q1, q2, q3, rfl⟩
      · have w := s.slot j sl h'
        cases sl with
        | emp => trivial
        | val d => obtain ⟨v, w1, w2⟩ := w; exact ⟨v, w1, w2.mono q.g⟩
        | own t zs =>
          obtain ⟨a, ys, w1, w2, w3, w4, w5⟩ := w
          have na := noSlot ⟨⟨_, h', rfl⟩, w1⟩ p
          exact ⟨a, ys, w1, q.n a (by rw [w3]; simp) w2 na, q.h a _ w3 na, w4.mono q.g, w5⟩
        | dic zs =>
          obtain ⟨a, ys, w1, w2, w3, w4, w5⟩ := w
          have na := noSlot ⟨⟨_, h', rfl⟩, w1⟩ p
          exact ⟨a, ys, w1, q.n a (by rw [w3]; simp) w2 na, q.h a _ w3 na, w4.mono q.g, w5⟩
        | scr t zs =>
          obtain ⟨a, ys, w1, w2, w3⟩ := w
          refine ⟨a, ys, w1, ?_, w3.mono q.g⟩
          rcases w2 with ⟨ob, w2⟩ | w2
          · exact .inl ⟨ob, q.h a _ w2 (fz w2)⟩
          · exact .inr w2
      · obtain ⟨a, ws, w1, w2, w3, w4, w5⟩ := s.slot j _ q3
        obtain ⟨a', g1, g2⟩ := io.get q1
        have ea : a' = a := by
          have z := g2.2
          rw [w1] at z; cases z; rfl
        subst ea
        obtain ⟨zs, h1, h2, h3⟩ := q.o.get g1 q2
        exact ⟨a', zs, w1, h1, h2, h3, w5⟩
    have T' : Step (Ow env0 σ) G0 H0 (Ow env2 σ) G' H' := by
      refine ⟨st.g.trans q.g, fun a ob h1 h2 => ?_, fun a h1 h2 h3 => ?_, fun a h => q.f a (st.f a h), fun a ⟨j, h⟩ => st.o a ⟨j, back h⟩⟩
      · exact q.h a ob (st.h a ob h1 h2) (outer (by rw [h1]; simp) h2)
      · exact q.n a (st.f a h1) (st.n a h1 h2 h3) (outer h1 h3)
    refine k G' H' x S' T' ?_
    rw [eo]
    have rr := q.r
    cases rv with
    | pu d => exact rr
    | fr zs =>
      obtain ⟨a, ys, e1, e2, e3, e4, e5⟩ := rr
      have now : ¬ Ow env2 σ a := fun ⟨j, z⟩ => by
        obtain ⟨_, y, h⟩ := s.ow_some ⟨j, back z⟩
        rw [e5] at h; cases h
      exact ⟨a, ys, e1, e2, e3, e4, now, st.fb a e5⟩
  · cases e
end

/-! ### the rules -/
section
variable {X : Cx} {k : Nat} {f : Addr} {fd : FuncData} {ps : List Str} {sp : Sp}
theorem run_fnG {pins : List (Addr × Obj)} {σ : L2.St} {H : Hp} {s : Shared} {Q : VK} {E : XK} {us ws : List Value} {kw : List (Str × Value)} {vs : List V} (F : FnG X.prog X.w X.K X.mg X.base k f fd ps sp) (hr : Room k X.A) (hg : X.A.guards = some [])
    (hb : BindsTo s fd ⟨us, kw⟩ (ps.zip ws)) (I : Inv X pins σ H s) (r : Vals vs ws) (h : sp vs H Q E) : wpAny (model X.prog X.w) X.A (call (.ref f) us kw) (EP X pins σ Q) X.xe s := by
  refine wpAny_call (codeAny_mono (F.run X.A X.stack s H ⟨us, kw⟩ ws vs Q E hr hg I.env0 hb r h) fun r s' hq => ?_)
  cases r with
  | error e => exact False.elim hq
  | ok fl =>
    cases fl with
    | ret u => exact I.after hq
    | next => exact False.elim hq
    | brk => exact False.elim hq
    | cont => exact False.elim hq
variable {FF : FT} {C : List D} {γ : Gam} {x : Str} {p pos : Pos} {es : List Expr} {ies : IEs} {kws : List Keyword} {n fi : Nat}
theorem callN_len {pg : Pg} {k f n : Nat} {x : Str} {ps : List Str} {fn : Fn} (h : pg.fns[f]? = some (x, ps, fn)) (hn : fn.np = n) : ∀ as r, pg.F k f as = some r → as.length = n := fun as r e => by
  cases k with
  | zero => cases e
  | succ k =>
    have e' : callN pg.C pg.T (k + 1) f as = some r := e
    simp only [callN] at e'
    have ht : pg.T[f]? = some fn := by
      show (pg.fns.map (·.2.2))[f]? = some fn
      rw [List.getElem?_map, h]; rfl
    rw [ht] at e'
    simp only [runF] at e'
    split at e'
    · rename_i q; rw [← hn]; exact q
    · cases e'
theorem e_call (F : FnG X.prog X.w X.K X.mg X.base k f fd ps (spF X.K FF fi ps.length)) (hn : ∀ as r, FF fi as = some r → as.length = ps.length) (hr : Room k X.A) (hgd : X.A.guards = some []) (hg : Gl X x) (hm : X.mg x = some (.ref f)) (hk : PySem.W.keepIn X.K (.ref f) = true)
    (hb : ∀ (s : Shared) (us : List Value), X.K.In s.heap → us.length = ps.length → BindsTo s fd ⟨us, []⟩ (ps.zip us)) (hd : (x == ("__debug__" : Str)) = false) (hst : noStars es = true) (h0 : es = [] → ies = .nil) (ha : PA X es (tA FF C X.K γ ies)) :
    PE X (.Call (.Name x p) es [] pos) (tE FF C X.K γ (.call fi ies)) := by
  refine ⟨fun pins s σ H Q I ⟨G, env, o, env', sr, ev, k⟩ => ?_⟩
  simp only [evE] at ev
  split at ev
  · cases ev
  rename_i os e1 h1
  have fin : ∀ {s1 : Shared} {H1 : Hp} {G1 : Hp} {us : List Value} {vs : List V}, Inv X pins σ H1 s1 → Vals vs us → Sr X.K γ G1 H1 e1 σ → Step (Ow env σ) G H (Ow e1 σ) G1 H1 → OpasR X.K G1 H1 e1 σ H vs os → wpAny (model X.prog X.w) X.A (call (.ref f) us) (EP X pins σ Q) X.xe s1 := fun {s1 H1 G1 us vs} I1 rv s2 st r => by
    have q := call_ok (E := fun _ _ _ => False) s2 st r ev k hn
    refine run_fnG F hr hgd (hb s1 us I1.kIn ?_) I1 rv q
    rw [← rv.length]; exact F.len _ _ _ _ q
  refine wpAny_Call_Name_kw (ld_glob I hg hm ?_ hd)
  cases es with
  | nil =>
    have e0 := h0 rfl
    subst e0
    simp only [evA] at h1
    cases h1
    exact PySem.W.callWith_K0 I.kIn hk (fin I .nil sr Step.refl .nil)
  | cons e es =>
    obtain ⟨hs1, hs2⟩ := ands hst
    exact PySem.W.callWith_K (h₀ := X.base) I.ok.mod.kin hk (thn (ha.run pos pins s σ H (fun vs H1 => ∃ G1, Sr X.K γ G1 H1 e1 σ ∧ Step (Ow env σ) G H (Ow e1 σ) G1 H1 ∧ OpasR X.K G1 H1 e1 σ H vs os) I ⟨G, env, os, e1, sr, h1, fun G1 H1 xs s1 st1 r1 => ⟨G1, s1, st1, r1⟩⟩)
      fun us s1 ⟨vs, H1, I1, r, G1, s2, st, ro⟩ => ⟨I1.kIn, fin I1 r s2 st ro⟩) (star_cons hs1) (plain_any hs2)

/-! ### keywords -/
theorem kw_ok {env : Env} : ∀ {kws : List Keyword} {ks : List Str}, kwNames kws = some ks → (backToKw pos (keywordEach kws env)).all (·.1.isSome) = true ∧ (backToKw pos (keywordEach kws env)).filterMap (·.1) = ks ∧ (backToKw pos (keywordEach kws env)).any (·.1.isNone) = false ∧ ks.length = kws.length
  | [], _, h => by cases h; exact ⟨rfl, rfl, rfl, rfl⟩
  | ⟨nm, e, q⟩ :: r, ks, h => by
    cases nm with
    | none => cases h
    | some nm =>
      simp only [kwNames] at h
      obtain ⟨ks', h1, h2⟩ := Option.map_eq_some_iff.mp h
      subst h2
      obtain ⟨a, b, c, d⟩ := kw_ok (env := env) h1
      refine ⟨?_, ?_, ?_, by simp [d]⟩
      · show (true && (backToKw pos (keywordEach r env)).all (·.1.isSome)) = true
        rw [a]; rfl
      · show nm :: (backToKw pos (keywordEach r env)).filterMap (·.1) = _
        rw [b]
      · show (false || (backToKw pos (keywordEach r env)).any (·.1.isNone)) = false
        rw [c]; rfl
def IEs.len : IEs → Nat
  | .nil => 0
  | .cons _ r => r.len + 1
theorem evA_len : ∀ {ies : IEs} {env e1 : Ev} {os : List Opd}, evA FF C ies env = some (os, e1) → os.length = ies.len
  | .nil, _, _, _, h => by simp only [evA] at h; cases h; rfl
  | .cons ie r, _, _, _, h => by
    simp only [evA] at h
    split at h
    · cases h
    split at h
    · cases h
    rename_i h2
    cases h
    simp [IEs.len, evA_len h2]
theorem chkKs_len {pg : Pg} {c : SC} : ∀ {ies : IEs} {kws : List Keyword}, chkKs pg c ies kws = true → ies.len = kws.length
  | .nil, [], _ => rfl
  | .nil, _ :: _, h => by simp [chkKs] at h
  | .cons _ _, [], h => by simp [chkKs] at h
  | .cons ie r, ⟨n, e, q⟩ :: kws, h => by
    simp only [chkKs] at h
    obtain ⟨_, h2⟩ := ands h
    simp [IEs.len, chkKs_len h2]
theorem pick_opas {K : PySem.W.Frag} {G H Hs : Hp} {env : Ev} {σ : L2.St} {xs : List V} {os : List Opd} (r : OpasR K G H env σ Hs xs os) : ∀ {p : List Nat} {os' : List Opd}, pick os p = some os' → ∃ xs', pick xs p = some xs' ∧ OpasR K G H env σ Hs xs' os'
  | [], _, h => by simp only [pick] at h; cases h; exact ⟨[], rfl, .nil⟩
  | i :: p, _, h => by
    simp only [pick] at h
    split at h
    · rename_i o os' h1 h2
      cases h
      obtain ⟨xs', q1, q2⟩ := pick_opas r h2
      have key : ∀ {xs : List V} {os : List Opd} {i : Nat}, OpasR K G H env σ Hs xs os → os[i]? = some o → ∃ x, xs[i]? = some x ∧ OpdR K G H env σ Hs x o ∧ notFr o = true := by
        intro xs os i r
        induction r generalizing i with
        | nil => intro h; simp at h
        | cons a b _ ih =>
          intro h
          cases i with
          | zero => simp at h; subst h; exact ⟨_, rfl, a, b⟩
          | succ i =>
            obtain ⟨x, e1, e2⟩ := ih (by simpa using h)
            exact ⟨x, by simpa using e1, e2⟩
      obtain ⟨x, e1, e2, e3⟩ := key r h1
      exact ⟨x :: xs', by simp only [pick, e1, q1], .cons e2 e3 q2⟩
    · cases h
theorem pick_vals {xs : List V} {us : List Value} (r : Vals xs us) : ∀ {p : List Nat} {xs' : List V} {us' : List Value}, pick xs p = some xs' → pick us p = some us' → Vals xs' us'
  | [], _, _, h1, h2 => by simp only [pick] at h1 h2; cases h1; cases h2; exact .nil
  | i :: p, _, _, h1, h2 => by
    simp only [pick] at h1 h2
    split at h1
    · rename_i x xs' a1 a2
      split at h2
      · rename_i u us' b1 b2
        cases h1; cases h2
        obtain ⟨u', c1, c2⟩ := r.get a1
        rw [b1] at c1; cases c1
        exact .cons c2 (pick_vals r a2 b2)
      · cases h2
    · cases h1
theorem e_callk {pm : List Nat} {ks : List Str} (F : FnG X.prog X.w X.K X.mg X.base k f fd ps (spF X.K FF fi ps.length)) (hn : ∀ as r, FF fi as = some r → as.length = ps.length) (hr : Room k X.A) (hgd : X.A.guards = some []) (hg : Gl X x) (hm : X.mg x = some (.ref f)) (hk : PySem.W.keepIn X.K (.ref f) = true)
    (hb : ∀ (s : Shared) (ws : List Value), X.K.In s.heap → ws.length = ks.length → ∃ us, pick ws pm = some us ∧ BindsTo s fd ⟨[], ks.zip ws⟩ (ps.zip us)) (hd : (x == ("__debug__" : Str)) = false) (hks : kwNames kws = some ks) (hl : ies.len = kws.length) (ha : PK X kws (tA FF C X.K γ ies)) :
    PE X (.Call (.Name x p) [] kws pos) (tE FF C X.K γ (.callk fi pm ies)) := by
  refine ⟨fun pins s σ H Q I ⟨G, env, o, env', sr, ev, k⟩ => ?_⟩
  simp only [evE] at ev
  split at ev
  · cases ev
  rename_i os e1 h1
  split at ev
  · rename_i os' hp
    obtain ⟨k1, k2, k3, k4⟩ := kw_ok (pos := pos) (env := X.env) hks
    refine wpAny_Call_Name_kw (ld_glob I hg hm ?_ hd)
    refine PySem.W.callWith_KW0 (h₀ := X.base) I.ok.mod.kin hk k1 (thn (ha.run pos pins s σ H (fun vs H1 => ∃ G1, Sr X.K γ G1 H1 e1 σ ∧ Step (Ow env σ) G H (Ow e1 σ) G1 H1 ∧ OpasR X.K G1 H1 e1 σ H vs os) I ⟨G, env, os, e1, sr, h1, fun G1 H1 xs s1 st1 r1 => ⟨G1, s1, st1, r1⟩⟩)
      fun ws s1 ⟨vs, H1, I1, r, G1, s2, st, ro⟩ => ⟨I1.kIn, ?_⟩) (by rw [k3]; rfl)
    rw [k2]
    have hw : ws.length = ks.length := by rw [← r.length, ← ro.length, evA_len h1, hl, k4]
    obtain ⟨us, p1, bt⟩ := hb s1 ws I1.kIn hw
    obtain ⟨xs', p2, ro'⟩ := pick_opas ro hp
    have q := call_ok (E := fun _ _ _ => False) s2 st ro' ev k hn
    exact run_fnG F hr hgd bt I1 (pick_vals r p2 p1) q
  · cases ev
end
end Rf

set_option Elab.async false
set_option linter.all false
set_option maxRecDepth 100000
set_option maxHeartbeats 4000000
/-! Rf: what loops walk. -/
namespace Rf
open PySem PySem.Spec PyProof.Rows L2
open Sem (wp)
open AutoSeq1 (wpAny_loadPart')

/-! ### enumerate of a tuple -/
theorem meets_enumT (l : Addr) (o : Obj) (items : Array Value) (hc : o.cls = .type "tuple") (n : Nat) (hd : o.data = .seq items n) :
    Meets (Builtin.«enumerate.__new__» ⟨[.type "enumerate", .ref l], []⟩) (fun _ R s => s.heap.get? l = some o ∧
      R (.ok (.ret (.ref (s.heap.push { cls := .type "tuple_iterator", data := .fields #[.ref l, .int 0 0] }).objs.size)))
        { s with heap := (s.heap.push { cls := .type "tuple_iterator", data := .fields #[.ref l, .int 0 0] }).push { cls := .type "enumerate", data := .fields #[.none, .bool false, .ref s.heap.objs.size, rawInt 0, .none, .none] } }) :=
  .of_wp fun prog w A R s h => by
    obtain ⟨hp, g, d, tk, os⟩ := s; obtain ⟨hl, h⟩ := h
    have hsub := sub_enumerate
    have hL : Heap.IsTuple (Shared.heap ⟨hp, g, d, tk, os⟩) l items := ⟨_, hl, hc, n, hd⟩
    have q1 : ∀ {A' : Around} {E : Value → Shared → Prop} {Q : Value → Shared → Prop}, Q (.ref hp.objs.size) ⟨hp.push { cls := .type "tuple_iterator", data := .fields #[.ref l, .int 0 0] }, g, d, tk, os⟩ → wpAny (model prog w) A' (pyIter (.ref l)) Q E ⟨hp, g, d, tk, os⟩ :=
      fun q => wpAny_pyIter_tuple hL q
    wp_walk using q1
    refine wpAny_stack_any fun st => wpAny_pure ?_
    split
    · rename_i c _ _ _ _ _
      cases (c == Value.type "enumerate")
      · wp_walk using q1
        exact ⟨_, rfl, h⟩
      · wp_walk using q1
        exact ⟨_, rfl, h⟩
    · wp_walk using q1
      exact ⟨_, rfl, h⟩
section
variable {prog : Program} {w : World} {A : Around} {E : Value → Shared → Prop} {s : Shared}
theorem call_enumT {l : Addr} {items : Array Value} {Q : Value → Shared → Prop} (hL : s.heap.IsTuple l items)
    (h : ∀ h', IsEnum h' (s.heap.objs.size + 1) s.heap.objs.size 0 .none → h'.IsTupleIter s.heap.objs.size l 0 → h'.objs.size = s.heap.objs.size + 2 →
      (∀ b o, s.heap.get? b = some o → h'.get? b = some o) → Q (.ref (s.heap.objs.size + 1)) { s with heap := h' }) :
    wpAny (model prog w) A (call (.type "enumerate") [.ref l]) Q E s := by
  obtain ⟨o, hl, hc, n, hd⟩ := hL
  refine callType_new F.called_enumerate (by decide) (F.typeCall_enumerate_1 _) (F.newCall_enumerate_1 _) (fun obj => F.args_object_init_2 obj _) F.entry_enumerate_new
    (meets_enumT l o items hc n hd) ⟨hl, ?_⟩
  have hz : (s.heap.push { cls := .type "tuple_iterator", data := .fields #[.ref l, .int 0 0] }).objs.size = s.heap.objs.size + 1 := Heap.size_push ..
  show _ ∧ _
  rw [hz]
  have he : IsEnum ((s.heap.push { cls := .type "tuple_iterator", data := .fields #[.ref l, .int 0 0] }).push
      { cls := .type "enumerate", data := .fields #[.none, .bool false, .ref s.heap.objs.size, rawInt 0, .none, .none] }) (s.heap.objs.size + 1) s.heap.objs.size 0 .none := by
    have := Heap.get?_push_size (s.heap.push { cls := .type "tuple_iterator", data := .fields #[.ref l, .int 0 0] })
      (o := { cls := .type "enumerate", data := .fields #[.none, .bool false, .ref s.heap.objs.size, rawInt 0, .none, .none] }) rfl
    rw [hz] at this; exact this
  refine ⟨⟨_, he, rfl⟩, h _ he ⟨_, Heap.get?_push_of_some _ (Heap.get?_push_size _ rfl), rfl, rfl⟩ (by rw [Heap.size_push, hz]) fun b o x => Heap.get?_push_of_some _ (Heap.get?_push_of_some _ x)⟩
end
/-- the tuple at a as it stands at each turn, each item in a new pair -/
def IteT (K : PySem.W.Frag) (a : Addr) : It :=
  ⟨fun i H => ∃ (xs : List V) (x : V), SqT K H a xs ∧ xs[i]? = some x, fun i H v H' => ∃ T x, v = .ref T ∧ H T = none ∧ H' = upd H T (.tup [.int (i : Nat), x]) ∧ ∀ xs, SqT K H a xs → xs[i]? = some x, fun i H => ∃ xs : List V, SqT K H a xs ∧ xs.length ≤ i⟩
theorem turn_enumT {P : Program} {w : World} {K : PySem.W.Frag} {elts : List Expr} {kk : Nat} {tpos : Pos} (a e it : Addr) :
    Turn P w K (.Tuple elts kk tpos) (IteT K a) [e, it] e (fun i h => (∃ old, IsEnum h e it ((i : Nat) : Int) old) ∧ h.IsTupleIter it a i ∧ e ≠ it) where
  mem := by simp
  obj := fun i h st b hb => by
    obtain ⟨⟨old, he⟩, ⟨o, ho, hc, hd⟩, _⟩ := st
    have e' : b = e ∨ b = it := by simpa using hb
    rcases e' with z | z
    · rw [z]; exact ⟨_, he, fun v q => nomatch q⟩
    · rw [z]; exact ⟨o, ho, fun v q => by rw [hd] at q; cases q⟩
  keep := fun i h h' st k => let ⟨⟨old, he⟩, hi, hne⟩ := st; ⟨⟨old, k e (by simp) _ he⟩, hi.at fun o q => k it (by simp) o q, hne⟩
  item := by
    intro X hP hw hK hc i pins s σ H E I hf st hg
    subst hP hw hK
    obtain ⟨⟨old, he⟩, hit, hne⟩ := st
    obtain ⟨xs, x, hq, hx⟩ := hg
    obtain ⟨its, rv, p, hz⟩ := I.tuple hq
    have p' : s.heap.IsTuple a its.toArray := p
    obtain ⟨u, hu, ru⟩ := rv.get hx
    have hel : e < s.heap.objs.size := Heap.lt_size he
    have hil : it < s.heap.objs.size := by obtain ⟨_, q, _⟩ := hit; exact Heap.lt_size q
    have hlt : i < its.toArray.size := by
      have := (List.getElem?_eq_some_iff.mp hu).1
      simpa using this
    have nea : a ≠ it := fun z => by
      obtain ⟨o1, h1, c1, _⟩ := p'
      obtain ⟨o2, h2, c2, _⟩ := hit
      rw [z, h2] at h1; cases h1
      rw [c1] at c2
      exact absurd c2 (by simp)
    have nee : e ≠ a := fun z => by
      obtain ⟨o1, h1, c1, _⟩ := p'
      rw [← z, he] at h1; cases h1
      exact absurd c1 (by simp)
    refine wpAny_pyNext_enum_itemD (Draws.tuple (A := X.A.in1) (I.ok.hd hc) it a nea its.toArray) he ⟨hit, p'⟩ hlt hne (by simp [hne, nee]) fun x' h' tk hx' ho st' hT hsz hk => ?_
    have eu : x' = u := by
      have : its[i]? = some x' := by simpa using hx'
      rw [hu] at this; cases this; rfl
    subst eu
    refine ⟨_, rfl, wpAny_letOwnedTupleGo_enum (s := { s with heap := h', toks := tk + 1 }) ho fun h'' he' sb => ?_⟩
    have hT2 : h''.get? s.heap.objs.size = some { cls := .type "tuple", data := .seq #[.int i tk, x'] } := (sb.2 _ (Nat.ne_of_gt hel)).trans hT
    have new : ObjOk X.prog X.w (upd H s.heap.objs.size (.tup [.int (i : Nat), x])) h'' s.heap.objs.size (.tup [.int (i : Nat), x]) :=
      ⟨by show 2 ≤ sizeLine; decide, [.int i tk, x'], .cons ⟨_, rfl⟩ (.cons ru .nil), ⟨_, hT2, rfl, _, rfl⟩⟩
    have I1 : Inv X pins σ (upd H s.heap.objs.size (.tup [.int (i : Nat), x])) { s with heap := h'', toks := tk + 1 } :=
      I.turnedNew (ch := [e, it]) (fun b ob hb q => (sb.2 b (fun z => hb (by simp [z]))).trans (hk b ob (fun z => hb (by simp [z])) (fun z => hb (by simp [z])) q)) hf (Nat.le_refl _) new
    refine ⟨.ref s.heap.objs.size, _, I1, rfl, ⟨_, x, rfl, I.hok.fresh (Nat.le_refl _), rfl, fun ys hy => by rw [I.tuple_inj hy hq]; exact hx⟩, ⟨⟨x', ?_⟩, st'.1.at fun o q => (sb.2 it (Ne.symm hne)).trans q, hne⟩, fun b hb => ?_⟩
    · have e1 : ((i + 1 : Nat) : Int) = (i : Int) + 1 := by omega
      rw [e1]; exact he'
    · have hb' : b < s.heap.objs.size := by
        have e' : b = e ∨ b = it := by simpa using hb
        rcases e' with z | z
        · rw [z]; exact hel
        · rw [z]; exact hil
      rw [upd_ne (Nat.ne_of_lt hb')]
      exact (hf b hb).1
  done := by
    intro X hP hw hK hc i pins s σ H E I hf st hg
    subst hP hw hK
    obtain ⟨⟨old, he⟩, hit, hne⟩ := st
    obtain ⟨xs, hq, hx⟩ := hg
    obtain ⟨its, rv, p, hz⟩ := I.tuple hq
    have p' : s.heap.IsTuple a its.toArray := p
    obtain ⟨f0, f1, f2, f3, f4, f5⟩ := hf it (by simp)
    have hl := rv.length
    have hT : s.TypeIs (.ref e) "enumerate" := ⟨_, he, rfl⟩
    unfold pyNext
    refine wpAny_bind (wpAny_attempt (wpAny_callSpecial?_slot (name := Str.ofString "__next__") hT F.slot_enumerate_next
      (wpAny_call_entry F.slot_enumerate_next hT F.entry_enumerate_next ?_ (F.args_enumerate_next_1 _))))
    show wpAny _ _ (field (.ref e) 2 >>= _) _ _ _
    refine wpAny_bind (wpAny_field he rfl (x := .ref it) rfl ?_)
    refine wpAny_bind (wpAny_nextOf_tuple_end (I.ok.hd hc) hit p' (by simp; omega) fun h' x he' hx' => ?_)
    obtain ⟨o, ho, hc'⟩ := hx'
    refine wpAny_bind (wpAny_isInstance (T := "StopIteration") (b := true) ⟨o, ho, hc'⟩ isSubtype_stop ?_)
    exact wpAny_pure ⟨rfl, I.turned (t' := s.toks) (fun b o hb q => he' b o hb q) f0 f1 f3 f4 f5⟩
  self := fun A i s Q E st h => let ⟨⟨_, he⟩, _⟩ := st; wpAny_pyIter_enum he h

/-! ### lists or tuples -/
section
variable {X : Cx} {tg : Expr}
def iSeq (K : PySem.W.Frag) (tl : TE) : TI := fun σ H R => tl σ H fun x H1 => ∃ a, x = .ref a ∧ (((∃ xs, SqL K H1 a xs) ∧ R (Itl K a) H1) ∨ ((∃ xs, SqT K H1 a xs) ∧ R (Itt K a) H1))
theorem pi_seq {l : Expr} {tl : TE} (hl : PE X l tl) : PI X tg l (iSeq X.K tl) := by
  refine ⟨fun pins s σ H R I h => ?_⟩
  refine thn (hl.run pins s σ H _ I h) fun v s1 ⟨x, H1, I1, r1, q1⟩ => ?_
  obtain ⟨a, e, q1⟩ := q1
  subst e
  cases r1
  rcases q1 with ⟨⟨xs, hq⟩, q⟩ | ⟨⟨xs, hq⟩, q⟩
  · obtain ⟨its, rv, p, hz⟩ := I1.list hq
    refine wpAny_pyIter_list p.isList ?_
    refine ⟨s1.heap.objs.size, [s1.heap.objs.size], _, _, H1, rfl, I1.kept (t' := s1.toks) fun b o e => Heap.get?_push_of_some _ e, turn_list a _, ⟨_, Heap.get?_push_size _ rfl, rfl, rfl⟩, fun b hb => ?_, q⟩
    have e : b = s1.heap.objs.size := by simpa using hb
    subst e
    exact I1.fpOk (Nat.le_refl _) (I1.hok.fresh (Nat.le_refl _))
  · obtain ⟨its, rv, p, hz⟩ := I1.tuple hq
    refine wpAny_pyIter_tuple (show s1.heap.IsTuple a its.toArray from p) ?_
    refine ⟨s1.heap.objs.size, [s1.heap.objs.size], _, _, H1, rfl, I1.kept (t' := s1.toks) fun b o e => Heap.get?_push_of_some _ e, turn_tuple a _, ⟨_, Heap.get?_push_size _ rfl, rfl, rfl⟩, fun b hb => ?_, q⟩
    have e : b = s1.heap.objs.size := by simpa using hb
    subst e
    exact I1.fpOk (Nat.le_refl _) (I1.hok.fresh (Nat.le_refl _))
def iEnu (K : PySem.W.Frag) (tl : TE) : TI := fun σ H R => tl σ H fun x H1 => ∃ a, x = .ref a ∧ (((∃ xs, SqL K H1 a xs) ∧ R (Ite K a) H1) ∨ ((∃ xs, SqT K H1 a xs) ∧ R (IteT K a) H1))
theorem pi_enu {e : Expr} {te : TE} {p pos tpos : Pos} {elts : List Expr} {kk : Nat} (hg : Gl X "enumerate") (hm : X.mg "enumerate" = none) (hs : notStar e = true) (he : PE X e te) : PI X (.Tuple elts kk tpos) (.Call (.Name "enumerate" p) [e] [] pos) (iEnu X.K te) := by
  refine ⟨fun pins s σ H R I h => ?_⟩
  refine Call_ (ld_blt I hg hm boot_enumerate (PyProof.Rows.callWith_type1 (thn ((pa_cons he pa_nil (star_cons hs)).run pos pins s σ H (fun vs H1 => match vs with
    | [x] => ∃ a, x = V.ref a ∧ (((∃ xs, SqL X.K H1 a xs) ∧ R (Ite X.K a) H1) ∨ ((∃ xs, SqT X.K H1 a xs) ∧ R (IteT X.K a) H1))
    | _ => False) I h) fun us s1 ⟨vs, H1, I1, r1, q1⟩ => ?_) (star_cons hs) rfl))
  rcases vs with _ | ⟨x, _ | ⟨y, vs⟩⟩
  · exact q1.elim
  rotate_left
  · exact q1.elim
  obtain ⟨a, ea, q⟩ := q1
  subst ea
  cases r1 with
  | cons r rr =>
    cases rr
    cases r
    have fresh2 : ∀ b, b ∈ [s1.heap.objs.size + 1, s1.heap.objs.size] → FpOk X pins H1 b := fun b hb => by
      have e' : b = s1.heap.objs.size + 1 ∨ b = s1.heap.objs.size := by simpa using hb
      have hle : s1.heap.objs.size ≤ b := by
        rcases e' with z | z
        · rw [z]; exact Nat.le_add_right _ _
        · rw [z]; exact Nat.le_refl _
      exact I1.fpOk hle (I1.hok.fresh hle)
    rcases q with ⟨⟨xs, hq⟩, q⟩ | ⟨⟨xs, hq⟩, q⟩
    · obtain ⟨its, rv, p', hz⟩ := I1.list hq
      refine call_enumerate_list p'.isList fun h' he hit hsz hk => wpAny_pyIter_enum he ?_
      exact ⟨s1.heap.objs.size + 1, [s1.heap.objs.size + 1, s1.heap.objs.size], _, _, H1, rfl, I1.kept (t' := s1.toks) hk, turn_enum a (s1.heap.objs.size + 1) s1.heap.objs.size, ⟨⟨.none, he⟩, hit, Nat.succ_ne_self _⟩, fresh2, q⟩
    · obtain ⟨its, rv, p', hz⟩ := I1.tuple hq
      refine call_enumT (show s1.heap.IsTuple a its.toArray from p') fun h' he hit hsz hk => wpAny_pyIter_enum he ?_
      exact ⟨s1.heap.objs.size + 1, [s1.heap.objs.size + 1, s1.heap.objs.size], _, _, H1, rfl, I1.kept (t' := s1.toks) hk, turn_enumT a (s1.heap.objs.size + 1) s1.heap.objs.size, ⟨⟨.none, he⟩, hit, Nat.succ_ne_self _⟩, fresh2, q⟩

/-! ### what is served -/
structure ItR (K : PySem.W.Frag) (G : Hp) (J : It) (ds : List D) : Prop where
  go : ∀ i H, Sub G H → i < ds.length → J.go i H
  stop : ∀ H, Sub G H → J.stop ds.length H
  yld : ∀ i H x H' Gc, Sub G Gc → Sub Gc H → J.yld i H x H' → ∀ d, ds[i]? = some d → ∃ Gc', Ext Gc H Gc' H' ∧ Pu K Gc' d x
theorem ItR.list {K : PySem.W.Frag} {G : Hp} {a : Addr} {ys : List V} {ds : List D} (e : G a = some (.lst ys)) (p : PuA K G ds ys) : ItR K G (Itl K a) ds where
  go := fun i H s hi => by
    obtain ⟨v, hv, _⟩ := p.get (List.getElem?_eq_getElem hi)
    exact ⟨ys, v, SqL.of (s _ _ e), hv⟩
  stop := fun H s => ⟨ys, SqL.of (s _ _ e), by rw [p.length]; exact Nat.le_refl _⟩
  yld := fun i H x H' Gc s1 s2 ⟨h1, h2⟩ d hd => by
    subst h1
    have hx := h2 ys (SqL.of (s2 _ _ (s1 _ _ e)))
    obtain ⟨v, hv, pv⟩ := p.get hd
    rw [hx] at hv; cases hv
    exact ⟨Gc, Ext.refl s2, pv.mono s1⟩
theorem ItR.tup {K : PySem.W.Frag} {G : Hp} {a : Addr} {ys : List V} {ds : List D} (e : SqT K G a ys) (p : PuA K G ds ys) : ItR K G (Itt K a) ds where
  go := fun i H s hi => by
    obtain ⟨v, hv, _⟩ := p.get (List.getElem?_eq_getElem hi)
    exact ⟨ys, v, sqT_sub s e, hv⟩
  stop := fun H s => ⟨ys, sqT_sub s e, by rw [p.length]; exact Nat.le_refl _⟩
  yld := fun i H x H' Gc s1 s2 ⟨h1, h2⟩ d hd => by
    subst h1
    have hx := h2 ys (sqT_sub (s1.trans s2) e)
    obtain ⟨v, hv, pv⟩ := p.get hd
    rw [hx] at hv; cases hv
    exact ⟨Gc, Ext.refl s2, pv.mono s1⟩
theorem enuL_length : ∀ (ds : List D) (k : Nat), (enuL k ds).length = ds.length
  | [], _ => rfl
  | _ :: r, k => congrArg Nat.succ (enuL_length r (k + 1))
theorem enuL_get : ∀ {ds : List D} {k i : Nat} {d : D}, (enuL k ds)[i]? = some d → ∃ e, ds[i]? = some e ∧ d = .tuple [.int ((k + i : Nat) : Int), e]
  | [], _, _, _, h => by simp [enuL] at h
  | e :: r, k, 0, d, h => by
    simp [enuL] at h
    exact ⟨e, rfl, by rw [← h]; simp⟩
  | e :: r, k, i + 1, d, h => by
    obtain ⟨x, h1, h2⟩ := enuL_get (ds := r) (k := k + 1) (i := i) (by simpa [enuL] using h)
    refine ⟨x, by simpa using h1, ?_⟩
    rw [h2]
    have : k + 1 + i = k + (i + 1) := by omega
    rw [this]
theorem pair_new {K : PySem.W.Frag} {Gc H : Hp} {T : Addr} {x y : V} {d e : D} (s : Sub Gc H) (hT : H T = none) (px : Pu K Gc d x) (py : Pu K Gc e y) :
    ∃ Gc', Ext Gc H Gc' (upd H T (.tup [x, y])) ∧ Pu K Gc' (.tuple [d, e]) (.ref T) := by
  refine ⟨upd Gc T (.tup [x, y]), Ext.newG s hT, ?_⟩
  have up := up_sub (o := .tup [x, y]) (none_of s hT)
  exact .tup (SqT.of upd_same) (.cons (px.mono up) (.cons (py.mono up) .nil))
theorem ItR.enuL {K : PySem.W.Frag} {G : Hp} {a : Addr} {ys : List V} {ds : List D} (e : G a = some (.lst ys)) (p : PuA K G ds ys) : ItR K G (Ite K a) (enuL 0 ds) where
  go := fun i H s hi => by
    rw [enuL_length] at hi
    obtain ⟨v, hv, _⟩ := p.get (List.getElem?_eq_getElem hi)
    exact ⟨ys, v, SqL.of (s _ _ e), hv⟩
  stop := fun H s => ⟨ys, SqL.of (s _ _ e), by rw [enuL_length, p.length]; exact Nat.le_refl _⟩
  yld := fun i H x H' Gc s1 s2 ⟨T, x', e1, hT, e2, h2⟩ d hd => by
    subst e1; subst e2
    have hx := h2 ys (SqL.of (s2 _ _ (s1 _ _ e)))
    obtain ⟨d', hd', rfl⟩ := enuL_get hd
    obtain ⟨v, hv, pv⟩ := p.get hd'
    rw [hx] at hv; cases hv
    rw [Nat.zero_add]
    exact pair_new s2 hT (.int _) (pv.mono s1)
theorem ItR.enuT {K : PySem.W.Frag} {G : Hp} {a : Addr} {ys : List V} {ds : List D} (e : SqT K G a ys) (p : PuA K G ds ys) : ItR K G (IteT K a) (Rf.enuL 0 ds) where
  go := fun i H s hi => by
    rw [enuL_length] at hi
    obtain ⟨v, hv, _⟩ := p.get (List.getElem?_eq_getElem hi)
    exact ⟨ys, v, sqT_sub s e, hv⟩
  stop := fun H s => ⟨ys, sqT_sub s e, by rw [enuL_length, p.length]; exact Nat.le_refl _⟩
  yld := fun i H x H' Gc s1 s2 ⟨T, x', e1, hT, e2, h2⟩ d hd => by
    subst e1; subst e2
    have hx := h2 ys (sqT_sub (s1.trans s2) e)
    obtain ⟨d', hd', rfl⟩ := enuL_get hd
    obtain ⟨v, hv, pv⟩ := p.get hd'
    rw [hx] at hv; cases hv
    rw [Nat.zero_add]
    exact pair_new s2 hT (.int _) (pv.mono s1)
theorem zipL_length : ∀ (xs ys : List D), (zipL xs ys).length = min xs.length ys.length
  | [], _ => by simp [zipL]
  | _ :: _, [] => by simp [zipL]
  | _ :: r, _ :: s => by simp [zipL, zipL_length r s]
theorem zipL_get : ∀ {xs ys : List D} {i : Nat} {d : D}, (zipL xs ys)[i]? = some d → ∃ a b, xs[i]? = some a ∧ ys[i]? = some b ∧ d = .tuple [a, b]
  | [], _, _, _, h => by simp [zipL] at h
  | _ :: _, [], _, _, h => by simp [zipL] at h
  | x :: r, y :: s, 0, d, h => by
    simp [zipL] at h
    exact ⟨x, y, rfl, rfl, h.symm⟩
  | x :: r, y :: s, i + 1, d, h => by
    obtain ⟨a, b, h1, h2, h3⟩ := zipL_get (xs := r) (ys := s) (i := i) (by simpa [zipL] using h)
    exact ⟨a, b, by simpa using h1, by simpa using h2, h3⟩
theorem ItR.zipL {K : PySem.W.Frag} {G : Hp} {a b : Addr} {ys zs : List V} {ds es : List D} (e : G a = some (.lst ys)) (p : PuA K G ds ys) (e' : G b = some (.lst zs)) (p' : PuA K G es zs) : ItR K G (Itz K a b) (Rf.zipL ds es) where
  go := fun i H s hi => by
    rw [zipL_length] at hi
    obtain ⟨v, hv, _⟩ := p.get (List.getElem?_eq_getElem (Nat.lt_of_lt_of_le hi (Nat.min_le_left _ _)))
    obtain ⟨w, hw, _⟩ := p'.get (List.getElem?_eq_getElem (Nat.lt_of_lt_of_le hi (Nat.min_le_right _ _)))
    exact ⟨ys, zs, v, w, SqL.of (s _ _ e), SqL.of (s _ _ e'), hv, hw⟩
  stop := fun H s => ⟨ys, zs, SqL.of (s _ _ e), SqL.of (s _ _ e'), by
    rw [zipL_length, p.length, p'.length]
    omega⟩
  yld := fun i H x H' Gc s1 s2 ⟨T, x', y', e1, hT, e2, h2, h3⟩ d hd => by
    subst e1; subst e2
    have hx := h2 ys (SqL.of (s2 _ _ (s1 _ _ e)))
    have hy := h3 zs (SqL.of (s2 _ _ (s1 _ _ e')))
    obtain ⟨da, db, h1, h4, rfl⟩ := zipL_get hd
    obtain ⟨v, hv, pv⟩ := p.get h1
    obtain ⟨w, hw, pw⟩ := p'.get h4
    rw [hx] at hv; cases hv
    rw [hy] at hw; cases hw
    exact pair_new s2 hT (pv.mono s1) (pw.mono s1)
theorem ItR.zipT {K : PySem.W.Frag} {G : Hp} {a b : Addr} {ys zs : List V} {ds es : List D} (e : SqT K G a ys) (p : PuA K G ds ys) (e' : SqT K G b zs) (p' : PuA K G es zs) : ItR K G (RZ.ItzT K a b) (Rf.zipL ds es) where
  go := fun i H s hi => by
    rw [zipL_length] at hi
    obtain ⟨v, hv, _⟩ := p.get (List.getElem?_eq_getElem (Nat.lt_of_lt_of_le hi (Nat.min_le_left _ _)))
    obtain ⟨w, hw, _⟩ := p'.get (List.getElem?_eq_getElem (Nat.lt_of_lt_of_le hi (Nat.min_le_right _ _)))
    exact ⟨ys, zs, v, w, sqT_sub s e, sqT_sub s e', hv, hw⟩
  stop := fun H s => ⟨ys, zs, sqT_sub s e, sqT_sub s e', by
    rw [zipL_length, p.length, p'.length]
    omega⟩
  yld := fun i H x H' Gc s1 s2 ⟨T, x', y', e1, hT, e2, h2, h3⟩ d hd => by
    subst e1; subst e2
    have hx := h2 ys (sqT_sub (s1.trans s2) e)
    have hy := h3 zs (sqT_sub (s1.trans s2) e')
    obtain ⟨da, db, h1, h4, rfl⟩ := zipL_get hd
    obtain ⟨v, hv, pv⟩ := p.get h1
    obtain ⟨w, hw, pw⟩ := p'.get h4
    rw [hx] at hv; cases hv
    rw [hy] at hw; cases hw
    exact pair_new s2 hT (pv.mono s1) (pw.mono s1)
theorem ups_get : ∀ {n : Nat} {lo : Int} {i : Nat} {d : D}, (ups lo n)[i]? = some d → d = .int (lo + i)
  | 0, _, _, _, h => by simp [ups] at h
  | n + 1, lo, 0, d, h => by simp [ups] at h; rw [← h]; simp
  | n + 1, lo, i + 1, d, h => by
    have := ups_get (n := n) (lo := lo + 1) (i := i) (by simpa [ups] using h)
    rw [this]
    congr 1
    omega
theorem ItR.rng {K : PySem.W.Frag} {G : Hp} (lo : Int) (n : Nat) : ItR K G (Itr lo n) (ups lo n) where
  go := fun i H s hi => by rw [ups_length] at hi; exact hi
  stop := fun H s => by rw [ups_length]; exact Nat.le_refl _
  yld := fun i H x H' Gc s1 s2 ⟨h1, h2⟩ d hd => by
    subst h1
    rw [ups_get hd, h2]
    exact ⟨Gc, Ext.refl s2, .int _⟩

/-! ### the rules -/
variable {F : FT} {C : List D} {γ : Gam} {a b : Expr} {ia ib : IE} {p pos tpos : Pos} {elts : List Expr} {kk : Nat}
def tI (F : FT) (C : List D) (K : PySem.W.Frag) (γ : Gam) (ii : II) : TI := fun σ H R => ∃ G env ds env', Sr K γ G H env σ ∧ evI F C ii env = some (ds, env') ∧
  ∀ G' H' J, Sr K γ G' H' env' σ → Step (Ow env σ) G H (Ow env' σ) G' H' → ItR K G' J ds → R J H'
theorem PI.weak {tg it : Expr} {t t' : TI} (h : PI X tg it t) (w : ∀ σ H Q, t' σ H Q → t σ H Q) : PI X tg it t' := ⟨fun pins s σ H Q I q => h.run pins s σ H Q I (w _ _ _ q)⟩
theorem seq_cases {K : PySem.W.Frag} {G : Hp} {d : D} {x : V} {ds : List D} (p : Pu K G d x) (h : seqV d = some ds) : ∃ l ys, x = .ref l ∧ PuA K G ds ys ∧ (G l = some (.lst ys) ∨ SqT K G l ys) := by
  cases p <;> simp only [seqV] at h <;> (try cases h)
  · rename_i l ys e p
    exact ⟨l, ys, rfl, p, .inl e⟩
  · rename_i l ys e p
    exact ⟨l, ys, rfl, p, .inr e⟩
theorem i_it {tg : Expr} (ha : PE X a (tE F C X.K γ ia)) : PI X tg a (tI F C X.K γ (.it ia)) := by
  refine PI.weak (pi_seq ha) fun σ H R ⟨G, env, ds, env', sr, ev, k⟩ => ?_
  simp only [evI] at ev
  split at ev
  · cases ev
  rename_i o e1 h1
  split at ev
  · cases ev
  rename_i d hd
  obtain ⟨ds', h2, e2⟩ := Option.map_eq_some_iff.mp ev
  cases e2
  refine ⟨G, env, o, _, sr, h1, fun G1 H1 x s1 st1 r1 => ?_⟩
  obtain ⟨G2, s2, st2, _, pd, _⟩ := frz_ok s1 st1 r1 hd
  obtain ⟨l, ys, rfl, pa, q⟩ := seq_cases pd h2
  rcases q with q | q
  · exact ⟨l, rfl, .inl ⟨⟨ys, SqL.of (s2.sub _ _ q)⟩, k G2 H1 _ s2 st2 (.list q pa)⟩⟩
  · exact ⟨l, rfl, .inr ⟨⟨ys, sqT_sub s2.sub q⟩, k G2 H1 _ s2 st2 (.tup q pa)⟩⟩
theorem i_enu (hg : Gl X "enumerate") (hm : X.mg "enumerate" = none) (hs : notStar a = true) (ha : PE X a (tE F C X.K γ ia)) : PI X (.Tuple elts kk tpos) (.Call (.Name "enumerate" p) [a] [] pos) (tI F C X.K γ (.enu ia)) := by
  refine PI.weak (pi_enu hg hm hs ha) fun σ H R ⟨G, env, ds, env', sr, ev, k⟩ => ?_
  simp only [evI] at ev
  split at ev
  · cases ev
  rename_i o e1 h1
  split at ev
  · cases ev
  rename_i d hd
  obtain ⟨ds', h2, e2⟩ := Option.map_eq_some_iff.mp ev
  cases e2
  refine ⟨G, env, o, _, sr, h1, fun G1 H1 x s1 st1 r1 => ?_⟩
  obtain ⟨G2, s2, st2, _, pd, _⟩ := frz_ok s1 st1 r1 hd
  obtain ⟨l, ys, rfl, pa, q⟩ := seq_cases pd h2
  rcases q with q | q
  · exact ⟨l, rfl, .inl ⟨⟨ys, SqL.of (s2.sub _ _ q)⟩, k G2 H1 _ s2 st2 (.enuL q pa)⟩⟩
  · exact ⟨l, rfl, .inr ⟨⟨ys, sqT_sub s2.sub q⟩, k G2 H1 _ s2 st2 (.enuT q pa)⟩⟩
theorem i_zip (hg : Gl X "zip") (hm : X.mg "zip" = none) (hs : notStar a = true) (hs2 : notStar b = true) (ha : PE X a (tE F C X.K γ ia)) (hb : PE X b (tE F C X.K γ ib)) :
    PI X (.Tuple elts kk tpos) (.Call (.Name "zip" p) [a, b] [] pos) (tI F C X.K γ (.zip ia ib)) := by
  refine PI.weak (RZ.pi_zipA hg hm (pa_cons ha (pa_cons hb pa_nil (star_cons hs2)) (star_cons hs)) (star_cons hs) (plain_any (es := [b]) (by simp [noStars, hs2]))) fun σ H R ⟨G, env, ds, env', sr, ev, k⟩ => ?_
  simp only [evI] at ev
  split at ev
  · cases ev
  rename_i o e1 h1
  split at ev
  · cases ev
  rename_i d hd
  split at ev
  · cases ev
  rename_i o' e2 h2
  split at ev
  · cases ev
  rename_i d' hd'
  obtain ⟨ds', h3, e3⟩ := Option.map_eq_some_iff.mp ev
  cases e3
  refine ⟨G, env, o, e1, sr, h1, fun G1 H1 x s1 st1 r1 => ?_⟩
  obtain ⟨G2, s2, st2, _, pd, _⟩ := frz_ok s1 st1 r1 hd
  refine ⟨G2, e1, o', _, s2, h2, fun G3 H3 y s3 st3 r3 => ?_⟩
  obtain ⟨G4, s4, st4, sb, pd', _⟩ := frz_ok s3 st3 r3 hd'
  have pd4 := pd.mono st4.g
  cases d <;> cases d' <;> simp only [zipV] at h3 <;> cases h3
  · cases pd4 with
    | lst q pa =>
      cases pd' with
      | lst q' pa' => exact ⟨_, _, _, _, rfl, .inl ⟨SqL.of (s4.sub _ _ q), SqL.of (s4.sub _ _ q'), k G4 H3 _ s4 (st2.trans st4) (.zipL q pa q' pa')⟩⟩
  · cases pd4 with
    | tup q pa =>
      cases pd' with
      | tup q' pa' => exact ⟨_, _, _, _, rfl, .inr ⟨sqT_sub s4.sub q, sqT_sub s4.sub q', k G4 H3 _ s4 (st2.trans st4) (.zipT q pa q' pa')⟩⟩
theorem rng_cases {env env' : Ev} {ds : List D} {il ih : IE} (ev : evI F C (.rng il ih) env = some (ds, env')) : ∃ i j e1, evE F C il env = some (.pu (.int i), e1) ∧ evE F C ih e1 = some (.pu (.int j), env') ∧
    (-4611686018427387904 ≤ i ∧ i < 4611686018427387904 ∧ -4611686018427387904 ≤ j ∧ j < 4611686018427387904) ∧ ds = ups i (j - i).toNat := by
  simp only [evI] at ev
  split at ev
  · rename_i d e1 h1
    split at ev
    · rename_i d' e2 h2
      obtain ⟨ds', h3, e3⟩ := Option.map_eq_some_iff.mp ev
      cases e3
      obtain ⟨i, j, rfl, rfl, bd, rfl⟩ := rng_ok h3
      exact ⟨i, j, e1, h1, h2, bd, rfl⟩
    · cases ev
  · cases ev
theorem i_rg1 {tg : Expr} (hg : Gl X "range") (hm : X.mg "range" = none) (hs : notStar b = true) (hb : PE X b (tE F C X.K γ ib)) : PI X tg (.Call (.Name "range" p) [b] [] pos) (tI F C X.K γ (.rng (.cst (.int 0)) ib)) := by
  refine PI.weak (pi_range1 hg hm (pa_cons hb pa_nil (star_cons hs)) (star_cons hs)) fun σ H R ⟨G, env, ds, env', sr, ev, k⟩ => ?_
  obtain ⟨i, j, e1, h1, h2, bd, rfl⟩ := rng_cases ev
  simp only [evE] at h1
  cases h1
  refine ⟨G, env, _, env', sr, h2, fun G1 H1 x s1 st1 r1 => ⟨j, by rw [opd_int r1], by omega, by omega, k G1 H1 _ s1 st1 ?_⟩⟩
  have := ItR.rng (K := X.K) (G := G1) 0 (j - 0).toNat
  rw [Int.sub_zero] at this ⊢
  exact this
theorem i_rg2 {tg : Expr} (hg : Gl X "range") (hm : X.mg "range" = none) (hs : notStar a = true) (hs2 : notStar b = true) (ha : PE X a (tE F C X.K γ ia)) (hb : PE X b (tE F C X.K γ ib)) : PI X tg (.Call (.Name "range" p) [a, b] [] pos) (tI F C X.K γ (.rng ia ib)) := by
  refine PI.weak (pi_range2 hg hm (pa_cons ha (pa_cons hb pa_nil (star_cons hs2)) (star_cons hs)) (star_all (by simp [noStars, hs, hs2])) (star_cons hs2)) fun σ H R ⟨G, env, ds, env', sr, ev, k⟩ => ?_
  obtain ⟨i, j, e1, h1, h2, bd, rfl⟩ := rng_cases ev
  exact ⟨G, env, _, e1, sr, h1, fun G1 H1 x s1 st1 r1 => ⟨G1, e1, _, env', s1, h2, fun G2 H2 y s2 st2 r2 => ⟨i, j, by rw [opd_int r1, opd_int r2], by omega, k G2 H2 _ s2 (st1.trans st2) (.rng _ _)⟩⟩⟩
end
end Rf

set_option Elab.async false
set_option linter.all false
set_option maxRecDepth 100000
set_option maxHeartbeats 4000000
/-! Rf: targets. -/
namespace Rf
open PySem PySem.Spec PyProof.Rows L2

theorem Step.sub {O O1 O2 : Addr → Prop} {G H G1 H1 : Hp} (st : Step O G H O1 G1 H1) (h : ∀ a, O2 a → O1 a) : Step O G H O2 G1 H1 := ⟨st.g, st.h, st.n, st.f, fun a q => st.o a (h a q)⟩
theorem wipe_set (σ : L2.St) (i : Nat) (x : Option V) : ∀ {vs : List Nat}, i ∈ vs → wipe (σ.set i x) vs = wipe σ vs
  | v :: vs, h => by
    unfold wipe
    by_cases q : i = v
    · subst q
      by_cases z : i ∈ vs
      · rw [wipe_set σ i x z]
      · have key : ∀ {ws : List Nat}, i ∉ ws → wipe (σ.set i x) ws = (wipe σ ws).set i x := by
          intro ws
          induction ws with
          | nil => intro _; rfl
          | cons w ws ih =>
            intro h
            simp only [List.mem_cons, not_or] at h
            unfold wipe
            rw [ih h.2, List.set_comm _ _ h.1]
        rw [key z, List.set_set]
    · rcases List.mem_cons.mp h with h | h
      · exact absurd h q
      · rw [wipe_set σ i x h]
section
variable {K : PySem.W.Frag} {γ : Gam} {G H : Hp} {env : Ev} {σ : L2.St}
/-- a value is stored -/
theorem Sr.put (s : Sr K γ G H env σ) {i : Nat} {d : D} {v : V} (hi : i < env.length) (p : Pu K G d v) :
    Sr K γ G H (env.set i (.val d)) (σ.set i (some v)) ∧ Step (Ow env σ) G H (Ow (env.set i (.val d)) (σ.set i (some v))) G H := by
  have hs : i < σ.length := by rw [← s.len]; exact hi
  have back : ∀ {j a}, OwnAt (env.set i (.val d)) (σ.set i (some v)) j a → OwnAt env σ j a := fun {j a} ⟨⟨t, e, io⟩, h⟩ => by
    rcases get_set e with ⟨_, q⟩ | ⟨ne, q⟩
    · subst q; cases io
    · rw [List.getElem?_set_ne (Ne.symm ne)] at h
      exact ⟨⟨t, q, io⟩, h⟩
  refine ⟨⟨s.sub, by simpa using s.len, fun j sl e => ?_, fun j j' a h h' => s.inj j j' a (back h) (back h')⟩, ⟨Sub.refl G, fun _ _ e _ => e, fun _ _ e _ => e, fun _ e => e, fun a ⟨j, h⟩ => .inl ⟨j, back h⟩⟩⟩
  rcases get_set e with ⟨rfl, rfl⟩ | ⟨ne, q⟩
  · exact ⟨v, List.getElem?_set_self hs, p⟩
  · have w := s.slot j sl q
    rw [List.getElem?_set_ne (Ne.symm ne)]
    exact w
/-- a list of one's own is stored -/
theorem Sr.putOwn (s : Sr K γ G H env σ) {i : Nat} {xs : List D} {ys : List V} {l : Addr} (hi : i < env.length) (h1 : G l = none) (h2 : H l = some (.lst ys)) (h3 : PuA K G xs ys) (h4 : ¬ Ow env σ l) (h5 : γ.h0 l = none) :
    Sr K γ G H (env.set i (.own 0 xs)) (σ.set i (some (.ref l))) ∧ ∀ a, Ow (env.set i (.own 0 xs)) (σ.set i (some (.ref l))) a → Ow env σ a ∨ a = l := by
  have hs : i < σ.length := by rw [← s.len]; exact hi
  have back : ∀ {j a}, OwnAt (env.set i (.own 0 xs)) (σ.set i (some (.ref l))) j a → (j = i ∧ a = l) ∨ (j ≠ i ∧ OwnAt env σ j a) := fun {j a} ⟨⟨t, e, io⟩, h⟩ => by
    rcases get_set e with ⟨e1, q⟩ | ⟨ne, q⟩
    · rw [e1, List.getElem?_set_self hs] at h
      cases h
      exact .inl ⟨e1, rfl⟩
    · rw [List.getElem?_set_ne (Ne.symm ne)] at h
      exact .inr ⟨ne, ⟨t, q, io⟩, h⟩
  refine ⟨⟨s.sub, by simpa using s.len, fun j sl e => ?_, fun j j' a h h' => ?_⟩, fun a ⟨j, h⟩ => ?_⟩
  · rcases get_set e with ⟨rfl, rfl⟩ | ⟨ne, q⟩
    · exact ⟨l, ys, List.getElem?_set_self hs, h1, h2, h3, fun _ => h5, fun z => absurd rfl z⟩
    · have w := s.slot j sl q
      rw [List.getElem?_set_ne (Ne.symm ne)]
      exact w
  · rcases back h with ⟨e1, e2⟩ | ⟨n1, o1⟩
    · rcases back h' with ⟨e3, _⟩ | ⟨_, o2⟩
      · rw [e1, e3]
      · subst e2; exact absurd ⟨_, o2⟩ h4
    · rcases back h' with ⟨_, e4⟩ | ⟨_, o2⟩
      · subst e4; exact absurd ⟨_, o1⟩ h4
      · exact s.inj _ _ _ o1 o2
  · rcases back h with ⟨_, e⟩ | ⟨_, o⟩
    · exact .inr e
    · exact .inl ⟨j, o⟩
/-- a dict of one's own is stored -/
theorem Sr.putDic (s : Sr K γ G H env σ) {i : Nat} {xs : List (D × D)} {ys : List (Key × V)} {l : Addr} (hi : i < env.length) (h1 : G l = none) (h2 : H l = some (.dK ys)) (h3 : PuK K G xs ys) (h4 : ¬ Ow env σ l) (h5 : γ.h0 l = none) :
    Sr K γ G H (env.set i (.dic xs)) (σ.set i (some (.ref l))) ∧ ∀ a, Ow (env.set i (.dic xs)) (σ.set i (some (.ref l))) a → Ow env σ a ∨ a = l := by
  have hs : i < σ.length := by rw [← s.len]; exact hi
  have back : ∀ {j a}, OwnAt (env.set i (.dic xs)) (σ.set i (some (.ref l))) j a → (j = i ∧ a = l) ∨ (j ≠ i ∧ OwnAt env σ j a) := fun {j a} ⟨⟨t, e, io⟩, h⟩ => by
    rcases get_set e with ⟨e1, q⟩ | ⟨ne, q⟩
    · rw [e1, List.getElem?_set_self hs] at h
      cases h
      exact .inl ⟨e1, rfl⟩
    · rw [List.getElem?_set_ne (Ne.symm ne)] at h
      exact .inr ⟨ne, ⟨t, q, io⟩, h⟩
  refine ⟨⟨s.sub, by simpa using s.len, fun j sl e => ?_, fun j j' a h h' => ?_⟩, fun a ⟨j, h⟩ => ?_⟩
  · rcases get_set e with ⟨rfl, rfl⟩ | ⟨ne, q⟩
    · exact ⟨l, ys, List.getElem?_set_self hs, h1, h2, h3, h5⟩
    · have w := s.slot j sl q
      rw [List.getElem?_set_ne (Ne.symm ne)]
      exact w
  · rcases back h with ⟨e1, e2⟩ | ⟨n1, o1⟩
    · rcases back h' with ⟨e3, _⟩ | ⟨_, o2⟩
      · rw [e1, e3]
      · subst e2; exact absurd ⟨_, o2⟩ h4
    · rcases back h' with ⟨_, e4⟩ | ⟨_, o2⟩
      · subst e4; exact absurd ⟨_, o1⟩ h4
      · exact s.inj _ _ _ o1 o2
  · rcases back h with ⟨_, e⟩ | ⟨_, o⟩
    · exact .inr e
    · exact .inl ⟨j, o⟩
end
section
variable {X : Cx} {F : FT} {C : List D} {γ : Gam} {e o : Expr} {ie : IE} {es : List Expr} {it : IT} {its : ITs} {pos p : Pos}
def gT (F : FT) (C : List D) (K : PySem.W.Frag) (γ : Gam) (it : IT) : TG := fun v σ H Q => ∃ G env d env', Sr K γ G H env σ ∧ Pu K G d v ∧ asgT F C it d env = some env' ∧
  ∀ G' H' σ', Sr K γ G' H' env' σ' → Step (Ow env σ) G H (Ow env' σ') G' H' → (∀ vs, (∀ i ∈ tgS it, i ∈ vs) → wipe σ' vs = wipe σ vs) → Q σ' H'
def gTs (F : FT) (C : List D) (K : PySem.W.Frag) (γ : Gam) (its : ITs) : TGs := fun xs σ H Q => ∃ G env ds env', Sr K γ G H env σ ∧ PuA K G ds xs ∧ asgTs F C its ds env = some env' ∧
  ∀ G' H' σ', Sr K γ G' H' env' σ' → Step (Ow env σ) G H (Ow env' σ') G' H' → (∀ vs, (∀ i ∈ tgSs its, i ∈ vs) → wipe σ' vs = wipe σ vs) → Q σ' H'
theorem PG.weak {t t' : TG} (h : PG X e t) (w : ∀ v σ H Q, t' v σ H Q → t v σ H Q) : PG X e t' := ⟨fun pins s σ H v u Q I r q => h.run pins s σ H v u Q I r (w _ _ _ _ q)⟩
theorem PGs.weak {t t' : TGs} (h : PGs X es t) (w : ∀ v σ H Q, t' v σ H Q → t v σ H Q) : PGs X es t' := ⟨fun pins s σ H v u Q I r q => h.run pins s σ H v u Q I r (w _ _ _ _ q)⟩
theorem g_nm {i : Nat} {x : Str} (hN : X.N.Nodup) (hi : X.N[i]? = some x) (hx : Loc X.env.scope x) (hf : X.fn x = true ∨ X.env.scope.names.lookup x = some .local) : PG X (.Name x pos) (gT F C X.K γ (.nm i)) := by
  refine PG.weak (pg_name hN hi hx hf) fun v σ H Q ⟨G, env, d, env', sr, p, ev, k⟩ => ?_
  simp only [asgT, putv] at ev
  split at ev
  · rename_i hl
    cases ev
    obtain ⟨s1, st1⟩ := sr.put (blt_lt hl) p
    exact k G H _ s1 st1 fun vs h => wipe_set σ i _ (h i (by simp [tgS]))
  · cases ev
theorem gs_nil : PGs X [] (gTs F C X.K γ .nil) := PGs.weak pgs_nil fun xs σ H Q ⟨G, env, ds, env', sr, p, ev, k⟩ => by
  cases ds with
  | nil =>
    simp only [asgTs] at ev
    cases ev
    cases p
    exact ⟨rfl, k G H σ sr Step.refl fun _ _ => rfl⟩
  | cons d ds => simp only [asgTs] at ev; cases ev
theorem gs_cons (hs : notStar e = true) (h1 : PG X e (gT F C X.K γ it)) (h2 : PGs X es (gTs F C X.K γ its)) : PGs X (e :: es) (gTs F C X.K γ (.cons it its)) :=
  PGs.weak (pgs_cons h1 h2 (by rw [asg_cons hs]; rfl)) fun xs σ H Q ⟨G, env, ds, env', sr, p, ev, k⟩ => by
  cases ds with
  | nil => simp only [asgTs] at ev; cases ev
  | cons d ds =>
    simp only [asgTs] at ev
    split at ev
    · cases ev
    rename_i e1 hd
    cases p with
    | cons pd pr =>
      refine ⟨_, _, rfl, G, env, d, e1, sr, pd, hd, fun G1 H1 σ1 s1 st1 w1 => ?_⟩
      refine ⟨G1, e1, ds, env', s1, pr.mono st1.g, ev, fun G2 H2 σ2 s2 st2 w2 => k G2 H2 σ2 s2 (st1.trans st2) fun vs h => ?_⟩
      rw [w2 vs fun i hi => h i (by simp [tgSs, hi]), w1 vs fun i hi => h i (by simp [tgSs, hi])]
def ITs.len : ITs → Nat
  | .nil => 0
  | .cons _ r => r.len + 1
theorem asgTs_len : ∀ {its : ITs} {ds : List D} {env env' : Ev}, asgTs F C its ds env = some env' → ds.length = its.len
  | .nil, [], _, _, _ => rfl
  | .nil, _ :: _, _, _, h => by simp only [asgTs] at h; cases h
  | .cons _ _, [], _, _, h => by simp only [asgTs] at h; cases h
  | .cons t ts, d :: ds, _, _, h => by
    simp only [asgTs] at h
    split at h
    · cases h
    · simp [ITs.len, asgTs_len h]
theorem chkTs_len {pg : Pg} {c : SC} : ∀ {its : ITs} {es : List Expr}, chkTs pg c its es = true → its.len = es.length ∧ noStars es = true
  | .nil, [], _ => ⟨rfl, rfl⟩
  | .nil, _ :: _, h => by simp [chkTs] at h
  | .cons _ _, [], h => by simp [chkTs] at h
  | .cons t ts, e :: es, h => by
    simp only [chkTs] at h
    obtain ⟨h1, h2⟩ := ands h
    obtain ⟨h0, h1⟩ := ands h1
    obtain ⟨a, b⟩ := chkTs_len h2
    exact ⟨by simp [ITs.len, a], by simp [noStars, h0, b]⟩
theorem PG.or2 {t1 t2 : TG} (h1 : PG X e t1) (h2 : PG X e t2) : PG X e (fun v σ H Q => t1 v σ H Q ∨ t2 v σ H Q) := ⟨fun pins s σ H v u Q I r q => q.elim (h1.run pins s σ H v u Q I r) (h2.run pins s σ H v u Q I r)⟩
theorem g_tp {kk : Nat} (hc : X.calm = true) (hl : its.len = es.length) (hs : noStars es = true) (h : PGs X es (gTs F C X.K γ its)) : PG X (.Tuple es kk pos) (gT F C X.K γ (.tp its)) := by
  refine PG.weak (PG.or2 (pg_tup hc h (asg_len) (asg_nost hs)) (pg_unl hc h (asg_len) (asg_nost hs))) fun v σ H Q ⟨G, env, d, env', sr, p, ev, k⟩ => ?_
  cases d <;> simp only [asgT] at ev <;> (try cases ev)
  · rename_i ds
    cases p with
    | lst q pa => exact .inr ⟨_, _, rfl, SqL.of (sr.sub _ _ q), by rw [← pa.length, asgTs_len ev, hl], G, env, ds, env', sr, pa, ev, fun G' H' σ' s st w => k G' H' σ' s st fun vs h => w vs (by simpa [tgS] using h)⟩
  · rename_i ds
    cases p with
    | tup q pa => exact .inl ⟨_, _, rfl, sqT_sub sr.sub q, by rw [← pa.length, asgTs_len ev, hl], G, env, ds, env', sr, pa, ev, fun G' H' σ' s st w => k G' H' σ' s st fun vs h => w vs (by simpa [tgS] using h)⟩
theorem g_sub {i : Nat} {x : Str} {ip : Pos} (hN : X.N[i]? = some x) (hv : Vis X.env.scope x) (hd : (x == ("__debug__" : Str)) = false) (hcd : (x == ("__classdict__" : Str)) = false) (hs : notSlice e = true) (he : PE X e (tE F C X.K γ ie)) :
    PG X (.Subscript (.Name x ip) e pos) (gT F C X.K γ (.sub i ie)) := by
  refine PG.weak (pg_sub (pe_var hN hv hd hcd) he set_list (asg_sub hs)) fun v σ H Q ⟨G, env, d, env', sr, p, ev, k⟩ => ?_
  simp only [asgT] at ev
  split at ev
  · rename_i t0 xs0 q0
    obtain ⟨l, _, hσ, _⟩ := sr.ow_at q0
    split at ev
    · rename_i kk e1 h1
      simp only [setAt] at ev
      split at ev
      · rename_i t xs j q
        split at ev
        · rename_i m hm
          cases ev
          refine ⟨.ref l, hσ, G, env, _, e1, sr, h1, fun G1 H1 y s1 st1 r1 => ?_⟩
          obtain ⟨l', ys, a1, a2, a3, a4, _⟩ := s1.ow_at q
          rw [hσ] at a1; cases a1
          have hj := opd_int r1
          subst hj
          obtain ⟨m1, m2⟩ := s1.mut q hσ (a4.set (p.mono st1.g) m)
          exact ⟨l, ys, j, m, rfl, rfl, a3, by rw [← a4.length]; exact hm, k _ _ σ m1 (st1.trans m2) fun _ _ => rfl⟩
        · cases ev
      · cases ev
    · cases ev
  · cases ev
end
end Rf

set_option Elab.async false
set_option linter.all false
set_option maxRecDepth 100000
set_option maxHeartbeats 4000000
/-! Rf: list comprehensions. -/
namespace Rf
open PySem PySem.Spec PyProof.Rows L2

theorem wipeE_get {env : Ev} : ∀ {is : List Nat} {j : Nat} {s : Sl}, (wipeE env is)[j]? = some s → (j ∈ is ∧ s = .emp) ∨ (j ∉ is ∧ env[j]? = some s)
  | [], _, _, h => .inr ⟨by simp, h⟩
  | i :: is, j, s, h => by
    unfold wipeE at h
    rcases get_set h with ⟨rfl, e⟩ | ⟨ne, h⟩
    · exact .inl ⟨by simp, e⟩
    · rcases wipeE_get h with ⟨a, b⟩ | ⟨a, b⟩
      · exact .inl ⟨List.mem_cons_of_mem _ a, b⟩
      · exact .inr ⟨by simp [a, ne], b⟩
theorem wipeE_len (env : Ev) : ∀ is : List Nat, (wipeE env is).length = env.length
  | [] => rfl
  | i :: is => by unfold wipeE; rw [List.length_set, wipeE_len env is]
theorem backE_get {e0 env : Ev} : ∀ {is : List Nat} {j : Nat} {s : Sl}, (backE e0 env is)[j]? = some s → (j ∈ is ∧ s = valOnly e0[j]?) ∨ (j ∉ is ∧ env[j]? = some s)
  | [], _, _, h => .inr ⟨by simp, h⟩
  | i :: is, j, s, h => by
    unfold backE at h
    rcases get_set h with ⟨rfl, e⟩ | ⟨ne, h⟩
    · exact .inl ⟨by simp, e⟩
    · rcases backE_get h with ⟨a, b⟩ | ⟨a, b⟩
      · exact .inl ⟨List.mem_cons_of_mem _ a, b⟩
      · exact .inr ⟨by simp [a, ne], b⟩
theorem backE_len (e0 env : Ev) : ∀ is : List Nat, (backE e0 env is).length = env.length
  | [] => rfl
  | i :: is => by unfold backE; rw [List.length_set, backE_len e0 env is]
theorem wipe_out {σ : L2.St} {j : Nat} : ∀ {is : List Nat}, j ∉ is → (wipe σ is)[j]? = σ[j]?
  | [], _ => rfl
  | i :: is, h => by
    simp only [List.mem_cons, not_or] at h
    unfold wipe
    rw [List.getElem?_set_ne (Ne.symm h.1), wipe_out h.2]
theorem wipe_id (σ : L2.St) (vs : List Nat) : wipe (wipe σ vs) vs = wipe σ vs := by
  apply List.ext_getElem?
  intro j
  by_cases h : j ∈ vs
  · have key : ∀ {τ : L2.St} {ws : List Nat}, j ∈ ws → (wipe τ ws)[j]? = if j < τ.length then some none else none := by
      intro τ ws
      induction ws with
      | nil => intro h; cases h
      | cons w ws ih =>
        intro h
        unfold wipe
        rw [List.getElem?_set]
        by_cases q : w = j
        · subst q; simp [wipe_length]
        · rw [if_neg q]
          rcases List.mem_cons.mp h with z | z
          · exact absurd z.symm q
          · exact ih z
    rw [key h, key h, wipe_length]
  · rw [wipe_out h]
section
variable {K : PySem.W.Frag} {γ : Gam} {G H G1 H1 : Hp} {env e1 : Ev} {σ : L2.St}
theorem ow_wipe {is : List Nat} {j : Nat} {a : Addr} (h : OwnAt (wipeE env is) (wipe σ is) j a) : OwnAt env σ j a ∧ j ∉ is := by
  obtain ⟨⟨t, e, io⟩, h⟩ := h
  rcases wipeE_get e with ⟨_, q⟩ | ⟨n, q⟩
  · subst q; cases io
  · rw [wipe_out n] at h
    exact ⟨⟨⟨t, q, io⟩, h⟩, n⟩
theorem Sr.wipe (s : Sr K γ G H env σ) (is : List Nat) : Sr K γ G H (wipeE env is) (wipe σ is) := by
  refine ⟨s.sub, by rw [wipeE_len, wipe_length]; exact s.len, fun j sl e => ?_, fun j j' a h h' => s.inj j j' a (ow_wipe h).1 (ow_wipe h').1⟩
  rcases wipeE_get e with ⟨_, q⟩ | ⟨n, q⟩
  · subst q; trivial
  · rw [wipe_out n]; exact s.slot j sl q
theorem Step.wipe {O : Addr → Prop} (st : Step O G H (Ow env σ) G1 H1) (is : List Nat) : Step O G H (Ow (wipeE env is) (L2.wipe σ is)) G1 H1 := st.sub fun a ⟨j, h⟩ => ⟨j, (ow_wipe h).1⟩
theorem ow_back {is : List Nat} {j : Nat} {a : Addr} (h : OwnAt (backE e1 env is) σ j a) : OwnAt env (L2.wipe σ is) j a := by
  obtain ⟨⟨t, e, io⟩, h⟩ := h
  rcases backE_get e with ⟨_, q⟩ | ⟨n, q⟩
  · unfold valOnly at q
    split at q <;> (subst q; cases io)
  · exact ⟨⟨t, q, io⟩, by rw [wipe_out n]; exact h⟩
theorem Sr.back {is : List Nat} (s1 : Sr K γ G1 H1 e1 σ) (s : Sr K γ G H env (L2.wipe σ is)) (sb : Sub G1 G) : Sr K γ G H (backE e1 env is) σ := by
  refine ⟨s.sub, by rw [backE_len, s.len, wipe_length], fun j sl e => ?_, fun j j' a h h' => s.inj j j' a (ow_back h) (ow_back h')⟩
  rcases backE_get e with ⟨_, q⟩ | ⟨n, q⟩
  · subst q
    unfold valOnly
    split
    · rename_i d hd
      obtain ⟨v, a, b⟩ := s1.slot j _ hd
      exact ⟨v, a, b.mono sb⟩
    · trivial
  · have w := s.slot j sl q
    rw [wipe_out n] at w
    exact w
/-- a list that no slot holds and nobody told is changed -/
theorem Sr.wr (s : Sr K γ G H env σ) {a : Addr} {o o' : HO} (hg : G a = none) (hn : ¬ Ow env σ a) (hf : ∀ ob u, o ≠ .frz ob u) (h : H a = some o) : Sr K γ G (upd H a o') env σ := by
  refine ⟨fun b u q => ?_, s.len, fun j sl e => ?_, s.inj⟩
  · rw [upd_ne (fun z => by subst z; rw [hg] at q; cases q)]; exact s.sub _ _ q
  · have w := s.slot j sl e
    cases sl with
    | emp => trivial
    | val d => exact w
    | own t xs =>
      obtain ⟨b, ys, e1, e2, e3, e4⟩ := w
      exact ⟨b, ys, e1, e2, by rw [upd_ne (fun z => hn (by subst z; exact ⟨j, ⟨_, e, rfl⟩, e1⟩))]; exact e3, e4⟩
    | dic xs =>
      obtain ⟨b, ys, e1, e2, e3, e4⟩ := w
      exact ⟨b, ys, e1, e2, by rw [upd_ne (fun z => hn (by subst z; exact ⟨j, ⟨_, e, rfl⟩, e1⟩))]; exact e3, e4⟩
    | scr t xs =>
      obtain ⟨b, ys, e1, e2, e3⟩ := w
      refine ⟨b, ys, e1, ?_, e3⟩
      rcases e2 with ⟨ob, e2⟩ | e2
      · exact .inl ⟨ob, by rw [upd_ne (fun z => by subst z; rw [h] at e2; cases e2; exact hf _ _ rfl)]; exact e2⟩
      · exact .inr e2
theorem Step.wr {O O1 : Addr → Prop} {Gs Hs : Hp} (st : Step O Gs Hs O1 G H) {a : Addr} {o : HO} (h : Hs a = none) : Step O Gs Hs O1 G (upd H a o) := by
  refine ⟨st.g, fun b u e n => ?_, st.n, fun b e => ?_, st.o⟩
  · rw [upd_ne (fun z => by subst z; rw [h] at e; cases e)]; exact st.h b u e n
  · by_cases q : b = a
    · subst q; rw [upd_same]; simp
    · rw [upd_ne q]; exact st.f b e
end

section
variable {X : Cx} {F : FT} {C : List D} {γ : Gam}
def tD (F : FT) (C : List D) (K : PySem.W.Frag) (γ : Gam) (io : IO) : TT := fun σ H Q => ∃ G env b env', Sr K γ G H env σ ∧ evD F C io env = some (b, env') ∧
  ∀ G' H', Sr K γ G' H' env' σ → Step (Ow env σ) G H (Ow env' σ) G' H' → Q b H'
theorem PTs.weak {ifs : List Expr} {t t' : TT} (h : PTs X ifs t) (w : ∀ σ H Q, t' σ H Q → t σ H Q) : PTs X ifs t' := ⟨fun pins s σ H Q I q => h.run pins s σ H Q I (w _ _ _ q)⟩
theorem d_non : PTs X [] (tD F C X.K γ .non) := PTs.weak pts_nil fun σ H Q ⟨G, env, b, env', sr, ev, k⟩ => by
  simp only [evD] at ev
  cases ev
  exact k G H sr Step.refl
theorem d_som {c : Expr} {ic : IE} (h : PT X c (tT F C X.K γ ic)) : PTs X [c] (tD F C X.K γ (.som ic)) := PTs.weak (pts_one h) fun σ H Q ⟨G, env, b, env', sr, ev, k⟩ => by
  simp only [evD] at ev
  split at ev
  · rename_i b' e1 h1
    cases ev
    exact ⟨G, env, _, _, sr, h1, k⟩
  · cases ev
theorem lc_red {elt : IE} {tg : IT} {it : II} {cd : IO} {own : List Nat} {σ : L2.St} {H0 : Hp} {Q : VK} (hs : ∀ i ∈ tgS tg, i ∈ own) (h : tE F C X.K γ (.lc elt tg it cd own) σ H0 Q) :
    tLc (tI F C X.K γ it) (gT F C X.K γ tg) (tD F C X.K γ cd) (tE F C X.K γ elt) own σ H0 Q := by
  obtain ⟨G0, env, o, env', sr, ev, k⟩ := h
  simp only [evE] at ev
  cases hI : evI F C it env with
  | none => rw [hI] at ev; cases ev
  | some p =>
  obtain ⟨ds, e1⟩ := p
  rw [hI] at ev
  simp only [lcV] at ev
  split at ev
  · cases ev
  rename_i tot e2 hL
  split at ev
  · rename_i hz
    have ho : o = .fr tot := by cases ev; rfl
    have he' : env' = backE e1 e2 own := by cases ev; rfl
    subst ho; subst he'
    have hz' := lenOk_le hz
    refine ⟨G0, env, ds, e1, sr, hI, fun G1 H1 J s1 st1 ir L hLn => ?_⟩
    have H0L : H0 L = none := st1.fb L hLn
    refine ⟨fun i m H => m = ds.length - i ∧ i ≤ ds.length ∧ ∃ Gc ec acc aD xs', Sr X.K γ Gc H ec (wipe σ own) ∧ Step (Ow env σ) G0 H0 (Ow ec (wipe σ own)) Gc H ∧ Sub G1 Gc ∧ Gc L = none ∧ H L = some (.lst acc) ∧ PuA X.K Gc aD acc ∧ ¬ Ow ec (wipe σ own) L ∧
      lcLoop (fun d e => asgT F C tg d e) (fun e => evD F C cd e) (fun e => frzE (evE F C elt e)) own (ds.drop i) ec = some (xs', e2) ∧ tot = aD ++ xs', ⟨ds.length, by simp, Nat.zero_le _, G1, wipeE e1 own, [], [], tot, ?_, ?_, Sub.refl _, none_of s1.sub hLn, upd_same, .nil, ?_, hL, rfl⟩, ?_⟩
    · exact (s1.wipe own).newH hLn
    · exact (st1.trans (Step.newH hLn)).wipe own
    · exact no_ow (s1.wipe own) hLn
    rintro i m H ⟨rfl, hi, Gc, ec, acc, aD, xs', sc, stc, sb, gL, hLc, pa, nL, hl, htot⟩
    by_cases hlt : i < ds.length
    · refine .inr ⟨ir.go i H (sb.trans sc.sub) hlt, fun H' => (ds.length - (i + 1)) = ds.length - (i + 1) ∧ i + 1 ≤ ds.length ∧ ∃ Gc ec acc aD xs', Sr X.K γ Gc H' ec (wipe σ own) ∧ Step (Ow env σ) G0 H0 (Ow ec (wipe σ own)) Gc H' ∧ Sub G1 Gc ∧ Gc L = none ∧ H' L = some (.lst acc) ∧ PuA X.K Gc aD acc ∧ ¬ Ow ec (wipe σ own) L ∧
        lcLoop (fun d e => asgT F C tg d e) (fun e => evD F C cd e) (fun e => frzE (evE F C elt e)) own (ds.drop (i + 1)) ec = some (xs', e2) ∧ tot = aD ++ xs', fun H' q => ⟨ds.length - (i + 1), by omega, q⟩, fun x H2 hy => ?_⟩
      obtain ⟨G2, ex2, px⟩ := ir.yld i H x H2 Gc sb sc.sub hy ds[i] (List.getElem?_eq_getElem hlt)
      have s2 := sc.ext ex2
      have st2 : Step (Ow ec (wipe σ own)) Gc H (Ow ec (wipe σ own)) G2 H2 := Step.ext ex2
      rw [List.drop_eq_getElem_cons hlt] at hl
      simp only [lcLoop] at hl
      split at hl
      · cases hl
      rename_i e3 h3
      refine ⟨G2, ec, ds[i], e3, s2, px, h3, fun G3 H3 σ3 s3 st3 w3 => ?_⟩
      have hw : wipe σ3 own = wipe σ own := by rw [w3 own hs, wipe_id]
      refine ⟨hw, ?_⟩
      split at hl
      · cases hl
      · rename_i e4 h4
        refine ⟨G3, e3, false, e4, s3, h4, fun G4 H4 s4 st4 => ?_⟩
        have stt := (st2.trans st3).trans st4
        have hn : H L ≠ none := by rw [hLc]; simp
        dsimp only
        rw [if_neg Bool.false_ne_true]
        refine ⟨rfl, hlt, G4, wipeE e4 own, acc, aD, xs', by rw [← hw]; exact s4.wipe own, by rw [← hw]; exact (stc.trans stt).wipe own, sb.trans stt.g, stt.n L hn gL nL, stt.h L _ hLc nL, pa.mono stt.g, ?_, hl, htot⟩
        rw [← hw]
        exact fun ⟨j, z⟩ => (stt.o L ⟨j, (ow_wipe z).1⟩).elim nL hn
      · rename_i e4 h4
        refine ⟨G3, e3, true, e4, s3, h4, fun G4 H4 s4 st4 => ?_⟩
        dsimp only
        rw [if_pos rfl]
        split at hl
        · cases hl
        rename_i y e5 h5
        split at hl
        · cases hl
        rename_i xs'' e6 h6
        cases hl
        -- the element
        cases hE : evE F C elt e4 with
        | none => rw [hE] at h5; cases h5
        | some q =>
        obtain ⟨oy, e5'⟩ := q
        rw [hE] at h5
        simp only [frzE] at h5
        split at h5
        · rename_i d5 hd5
          have ey : d5 = y := by cases h5; rfl
          have ee : e5' = e5 := by cases h5; rfl
          subst ey
          subst ee
          refine ⟨G4, e4, oy, _, s4, hE, fun G5 H5 yv s5 st5 r5 => ?_⟩
          obtain ⟨G6, s6, st6, _, py, _⟩ := frz_ok s5 st5 r5 hd5
          have stt := ((st2.trans st3).trans st4).trans st6
          have hn : H L ≠ none := by rw [hLc]; simp
          have gL6 := stt.n L hn gL nL
          have hL6 := stt.h L _ hLc nL
          have nL6 : ¬ Ow e5' σ3 L := fun z => (stt.o L z).elim nL hn
          refine ⟨acc, hL6, ?_, rfl, hlt, G6, wipeE e5' own, acc ++ [yv], aD ++ [d5], xs'', ?_, ?_, sb.trans stt.g, gL6, upd_same, (pa.mono stt.g).append (.cons py .nil), ?_, h6, by rw [htot, List.append_assoc]; rfl⟩
          · have := pa.length
            rw [htot, List.length_append, List.length_cons] at hz'
            omega
          · rw [← hw]; exact (s6.wr (o := .lst acc) gL6 nL6 (by intro _ _ z; cases z) hL6).wipe own
          · rw [← hw]; exact ((stc.trans stt).wr H0L).wipe own
          · rw [← hw]
            exact fun ⟨j, z⟩ => nL6 ⟨j, (ow_wipe z).1⟩
        · cases h5
    · have ei : i = ds.length := by omega
      subst ei
      rw [List.drop_length] at hl
      simp only [lcLoop] at hl
      cases hl
      rw [List.append_nil] at htot
      subst htot
      refine .inl ⟨ir.stop H (sb.trans sc.sub), k Gc H _ (s1.back sc sb) (stc.sub fun a ⟨j, z⟩ => ⟨j, ow_back z⟩) ⟨L, acc, rfl, gL, hLc, pa, fun ⟨j, z⟩ => nL ⟨j, ow_back z⟩, H0L⟩⟩
  · cases ev
end
end Rf

set_option Elab.async false
set_option linter.all false
set_option maxRecDepth 100000
set_option maxHeartbeats 4000000
/-! Rf: statements. -/
namespace Rf
open PySem PySem.Spec PyProof.Rows L2

def FlK (K : PySem.W.Frag) (γ : Gam) (G H : Hp) (env : Ev) (σ : L2.St) (D : Ends) : Fl → Prop
  | .nx e' => ∀ G' H' σ', Sr K γ G' H' e' σ' → Step (Ow env σ) G H (Ow e' σ') G' H' → D.nx σ' H'
  | .bk e' => ∀ G' H' σ', Sr K γ G' H' e' σ' → Step (Ow env σ) G H (Ow e' σ') G' H' → D.bk σ' H'
  | .ct e' => ∀ G' H' σ', Sr K γ G' H' e' σ' → Step (Ow env σ) G H (Ow e' σ') G' H' → D.ct σ' H'
  | .rt o e' => ∀ G' H' σ' x, Sr K γ G' H' e' σ' → Step (Ow env σ) G H (Ow e' σ') G' H' → OpdR K G' H' e' σ' H x o → D.rt x H'
def tS (F : FT) (C : List D) (K : PySem.W.Frag) (γ : Gam) (is : IS) : TS := fun D σ H => ∃ G env fl, (∀ a, H a = none → γ.h0 a = none) ∧ Sr K γ G H env σ ∧ evS F C is env = some fl ∧ FlK K γ G H env σ D fl
def tSs (F : FT) (C : List D) (K : PySem.W.Frag) (γ : Gam) (is : ISs) : TS := fun D σ H => ∃ G env fl, (∀ a, H a = none → γ.h0 a = none) ∧ Sr K γ G H env σ ∧ evSs F C is env = some fl ∧ FlK K γ G H env σ D fl
section
variable {K : PySem.W.Frag} {γ : Gam} {G H G1 H1 : Hp} {env env1 : Ev} {σ σ1 : L2.St} {D D' : Ends} {fl : Fl}
theorem OpdR.start' {K : PySem.W.Frag} {G H Hs Hs' : Hp} {env : Ev} {σ : L2.St} {x : V} {o : Opd} (r : OpdR K G H env σ Hs x o) (h : ∀ a, Hs a = none → Hs' a = none) : OpdR K G H env σ Hs' x o := r.start h
theorem FlK.later (k : FlK K γ G H env σ D fl) (st : Step (Ow env σ) G H (Ow env1 σ1) G1 H1) : FlK K γ G1 H1 env1 σ1 D fl := by
  cases fl with
  | nx e => exact fun G' H' σ' s st' => k G' H' σ' s (st.trans st')
  | bk e => exact fun G' H' σ' s st' => k G' H' σ' s (st.trans st')
  | ct e => exact fun G' H' σ' s st' => k G' H' σ' s (st.trans st')
  | rt o e => exact fun G' H' σ' x s st' r => k G' H' σ' x s (st.trans st') (r.start st.fb)
end
theorem PS.weak {X : Cx} {e : Stmt} {t t' : TS} (h : PS X e t) (w : ∀ D σ H, t' D σ H → t D σ H) : PS X e t' := ⟨fun pins s σ H D I q => h.run pins s σ H D I (w _ _ _ q)⟩
theorem PSs.weak {X : Cx} {e : List Stmt} {t t' : TS} (h : PSs X e t) (w : ∀ D σ H, t' D σ H → t D σ H) : PSs X e t' := ⟨fun pins s σ H D I q => h.run pins s σ H D I (w _ _ _ q)⟩

section
variable {X : Cx} {F : FT} {C : List D} {γ : Gam} {e tg iter : Expr} {ie ia ib ic : IE} {it : IT} {ii : II} {is : IS} {iss ia' ib' : ISs} {st : Stmt} {sts a b : List Stmt} {pos p : Pos}
theorem s_nil : PSs X [] (tSs F C X.K γ .nil) := PSs.weak pss_nil fun D σ H ⟨G, env, fl, h0, sr, ev, k⟩ => by
  simp only [evSs] at ev
  cases ev
  exact k G H σ sr Step.refl
theorem s_cons (h1 : PS X st (tS F C X.K γ is)) (h2 : PSs X sts (tSs F C X.K γ iss)) : PSs X (st :: sts) (tSs F C X.K γ (.cons is iss)) :=
  PSs.weak (pss_cons h1 h2) fun D σ H ⟨G, env, fl, h0, sr, ev, k⟩ => by
  simp only [evSs] at ev
  split at ev
  · rename_i e1 q
    exact ⟨G, env, .nx e1, h0, sr, q, fun G1 H1 σ1 s1 st1 => ⟨G1, e1, fl, fun a h => h0 a (st1.fb a h), s1, ev, k.later st1⟩⟩
  · rename_i q
    refine ⟨G, env, fl, h0, sr, ev, ?_⟩
    cases fl with
    | nx e1 => exact (q e1 ev).elim
    | bk e1 => exact k
    | ct e1 => exact k
    | rt o e1 => exact k
theorem s_pass : PS X (.Pass pos) (tS F C X.K γ .pass) := PS.weak ps_pass fun D σ H ⟨G, env, fl, h0, sr, ev, k⟩ => by
  simp only [evS] at ev
  cases ev
  exact k G H σ sr Step.refl
theorem s_doc {x j p'} : PS X (.Expr (.Constant (.str x) j p) p') (tS F C X.K γ .pass) := PS.weak ps_doc fun D σ H ⟨G, env, fl, h0, sr, ev, k⟩ => by
  simp only [evS] at ev
  cases ev
  exact k G H σ sr Step.refl
theorem s_brk : PS X (.Break pos) (tS F C X.K γ .brk) := PS.weak ps_break fun D σ H ⟨G, env, fl, h0, sr, ev, k⟩ => by
  simp only [evS] at ev
  cases ev
  exact k G H σ sr Step.refl
theorem s_cnt : PS X (.Continue pos) (tS F C X.K γ .cnt) := PS.weak ps_continue fun D σ H ⟨G, env, fl, h0, sr, ev, k⟩ => by
  simp only [evS] at ev
  cases ev
  exact k G H σ sr Step.refl
theorem s_nev : PS X st (tS F C X.K γ .nev) := PS.weak ps_never fun D σ H ⟨G, env, fl, h0, sr, ev, k⟩ => by
  simp only [evS] at ev
  cases ev
theorem s_ex (hs : swapsWith e none pos.line X.env = pure false) (he : PE X e (tE F C X.K γ ie)) : PS X (.Expr e pos) (tS F C X.K γ (.ex ie)) := PS.weak (ps_expr he hs) fun D σ H ⟨G, env, fl, h0, sr, ev, k⟩ => by
  simp only [evS] at ev
  split at ev
  · cases ev
  · rename_i o e1 h1
    cases ev
    exact ⟨G, env, o, e1, sr, h1, fun G1 H1 x s1 st1 r1 => k G1 H1 σ s1 st1⟩
theorem s_ret (he : PE X e (tE F C X.K γ ie)) : PS X (.Return (some e) pos) (tS F C X.K γ (.ret ie)) := PS.weak (ps_ret he) fun D σ H ⟨G, env, fl, h0, sr, ev, k⟩ => by
  simp only [evS] at ev
  split at ev
  · cases ev
  · rename_i o e1 h1
    cases ev
    exact ⟨G, env, o, e1, sr, h1, fun G1 H1 x s1 st1 r1 => k G1 H1 σ x s1 st1 r1⟩
theorem s_retN : PS X (.Return none pos) (tS F C X.K γ (.ret (.cst .none))) := PS.weak ps_retN fun D σ H ⟨G, env, fl, h0, sr, ev, k⟩ => by
  simp only [evS, evE] at ev
  cases ev
  exact k G H σ _ sr Step.refl .non
theorem s_if {c : Expr} (hc : PT X c (tT F C X.K γ ic)) (ha : PSs X a (tSs F C X.K γ ia')) (hb : PSs X b (tSs F C X.K γ ib')) : PS X (.If c a b pos) (tS F C X.K γ (.ite ic ia' ib')) :=
  PS.weak (ps_if hc ha hb) fun D σ H ⟨G, env, fl, h0, sr, ev, k⟩ => by
  simp only [evS] at ev
  split at ev
  · rename_i e1 h1
    refine ⟨G, env, true, e1, sr, h1, fun G1 H1 s1 st1 => ?_⟩
    show (if true = true then tSs F C X.K γ ia' D σ H1 else _)
    rw [if_pos rfl]
    exact ⟨G1, e1, fl, fun a h => h0 a (st1.fb a h), s1, ev, k.later st1⟩
  · rename_i e1 h1
    exact ⟨G, env, false, e1, sr, h1, fun G1 H1 s1 st1 => ⟨G1, e1, fl, fun a h => h0 a (st1.fb a h), s1, ev, k.later st1⟩⟩
  · cases ev
/-- a store, from the value's and the target's readings -/
theorem asg_red {σ : L2.St} {H : Hp} {D : Ends} (h : tS F C X.K γ (.asg it ie) D σ H) : tAsg (tE F C X.K γ ie) (gT F C X.K γ it) D σ H := by
  obtain ⟨G, env, fl, h0, sr, ev, k⟩ := h
  simp only [evS] at ev
  split at ev
  · cases ev
  rename_i o e1 h1
  split at ev
  · cases ev
  rename_i d hd
  obtain ⟨e2, h2, e⟩ := Option.map_eq_some_iff.mp ev
  cases e
  refine ⟨G, env, o, e1, sr, h1, fun G1 H1 x s1 st1 r1 => ?_⟩
  obtain ⟨G2, s2, st2, _, pd, _⟩ := frz_ok s1 st1 r1 hd
  exact ⟨G2, e1, d, e2, s2, pd, h2, fun G' H' σ' s st _ => k G' H' σ' s (st2.trans st)⟩
theorem s_asg (hs : swapsWithSole [tg] e pos.line X.env = pure false) (hw : swappedStores [tg] e X.env = pure none) (hst : notStar tg = true) (he : PE X e (tE F C X.K γ ie)) (hg : PG X tg (gT F C X.K γ it)) : PS X (.Assign [tg] e pos) (tS F C X.K γ (.asg it ie)) :=
  PS.weak (ps_asg he hg hs hw (by rw [asg_cons hst]; rfl)) fun D σ H h => asg_red h
/-- a name's store -/
theorem nm_red {i : Nat} {σ : L2.St} {H : Hp} {D : Ends} (h : tS F C X.K γ (.asg (.nm i) ie) D σ H) : tAsg (tE F C X.K γ ie) (gName i) D σ H := by
  obtain ⟨G, env, fl, h0, sr, ev, k⟩ := h
  simp only [evS] at ev
  split at ev
  · cases ev
  rename_i o e1 h1
  split at ev
  · cases ev
  rename_i d hd
  obtain ⟨e2, h2, e⟩ := Option.map_eq_some_iff.mp ev
  cases e
  refine ⟨G, env, o, e1, sr, h1, fun G1 H1 x s1 st1 r1 => ?_⟩
  obtain ⟨G2, s2, st2, _, pd, _⟩ := frz_ok s1 st1 r1 hd
  simp only [asgT, putv] at h2
  split at h2
  · rename_i hl
    cases h2
    obtain ⟨s3, st3⟩ := s2.put (blt_lt hl) pd
    exact k G2 H1 _ s3 (st2.trans st3)
  · cases h2
/-- a list of one's own -/
theorem own_red {i : Nat} {σ : L2.St} {H : Hp} {D : Ends} (h : tS F C X.K γ (.own i ie) D σ H) : tAsg (tE F C X.K γ ie) (gName i) D σ H := by
  obtain ⟨G, env, fl, h0, sr, ev, k⟩ := h
  simp only [evS] at ev
  split at ev
  · rename_i xs e1 h1
    obtain ⟨e2, h2, e⟩ := Option.map_eq_some_iff.mp ev
    cases e
    simp only [putv] at h2
    split at h2
    · rename_i hl
      cases h2
      refine ⟨G, env, _, e1, sr, h1, fun G1 H1 x s1 st1 r1 => ?_⟩
      obtain ⟨l, ys, rfl, q1, q2, q3, q4, q5⟩ := r1
      obtain ⟨s2, o2⟩ := s1.putOwn (blt_lt hl) q1 q2 q3 q4 (h0 l q5)
      refine k G1 H1 _ s2 ⟨st1.g, st1.h, st1.n, st1.f, fun a ha => ?_⟩
      rcases o2 a ha with z | z
      · exact st1.o a z
      · subst z; exact .inr q5
    · cases h2
  · rename_i xs e1 h1
    obtain ⟨e2, h2, e⟩ := Option.map_eq_some_iff.mp ev
    cases e
    simp only [putv] at h2
    split at h2
    · rename_i hl
      cases h2
      refine ⟨G, env, _, e1, sr, h1, fun G1 H1 x s1 st1 r1 => ?_⟩
      obtain ⟨l, ys, rfl, q1, q2, q3, q4, q5⟩ := r1
      obtain ⟨s2, o2⟩ := s1.putDic (blt_lt hl) q1 q2 q3 q4 (h0 l q5)
      refine k G1 H1 _ s2 ⟨st1.g, st1.h, st1.n, st1.f, fun a ha => ?_⟩
      rcases o2 a ha with z | z
      · exact st1.o a z
      · subst z; exact .inr q5
    · cases h2
  · rename_i d e1 h1
    obtain ⟨e2, h2, e⟩ := Option.map_eq_some_iff.mp ev
    cases e
    simp only [putv] at h2
    split at h2
    · rename_i hl
      cases h2
      refine ⟨G, env, _, e1, sr, h1, fun G1 H1 x s1 st1 r1 => ?_⟩
      obtain ⟨s3, st3⟩ := s1.put (blt_lt hl) r1
      exact k G1 H1 _ s3 (st1.trans st3)
    · cases h2
  · cases ev

/-! ### loops -/
theorem s_for (hp : PassesOwn (model X.prog X.w) X.A X.env X.xe) (hc : X.calm = true) (hns : notSet iter = true) (hi : PI X tg iter (tI F C X.K γ ii)) (hg : PG X tg (gT F C X.K γ it)) (hb : PSs X b (tSs F C X.K γ iss)) :
    PS X (.For tg iter b [] pos) (tS F C X.K γ (.fo it ii iss)) :=
  PS.weak (ps_for hp hc hi hg hb (fold_no hns)) fun D σ H ⟨G, env, fl, h0, sr, ev, k⟩ => by
  simp only [evS] at ev
  split at ev
  · split at ev
    · cases ev
    rename_i ds e1 hI
    refine ⟨G, env, ds, e1, sr, hI, fun G1 H1 J s1 st1 ir => ?_⟩
    refine ⟨fun i m σc Hc => m = ds.length - i ∧ i ≤ ds.length ∧ ∃ Gc ec, Sr X.K γ Gc Hc ec σc ∧ Step (Ow env σ) G H (Ow ec σc) Gc Hc ∧ Sub G1 Gc ∧ foLoop (fun d e => asgT F C it d e) (fun e => evSs F C iss e) (ds.drop i) ec = some fl,
      ⟨ds.length, by simp, Nat.zero_le _, G1, e1, s1, st1, Sub.refl _, ev⟩, ?_⟩
    rintro i m σc Hc ⟨rfl, hi, Gc, ec, sc, stc, sb, hl⟩
    by_cases hlt : i < ds.length
    · refine .inr ⟨ir.go i Hc (sb.trans sc.sub) hlt, fun σ' H' => i + 1 ≤ ds.length ∧ ∃ Gc ec, Sr X.K γ Gc H' ec σ' ∧ Step (Ow env σ) G H (Ow ec σ') Gc H' ∧ Sub G1 Gc ∧ foLoop (fun d e => asgT F C it d e) (fun e => evSs F C iss e) (ds.drop (i + 1)) ec = some fl,
        fun σ' H' q => ⟨ds.length - (i + 1), by omega, rfl, q⟩, fun x H2 hy => ?_⟩
      obtain ⟨G2, ex2, px⟩ := ir.yld i Hc x H2 Gc sb sc.sub hy ds[i] (List.getElem?_eq_getElem hlt)
      have s2 := sc.ext ex2
      have st2 : Step (Ow ec σc) Gc Hc (Ow ec σc) G2 H2 := Step.ext ex2
      rw [List.drop_eq_getElem_cons hlt] at hl
      simp only [foLoop] at hl
      split at hl
      · cases hl
      rename_i e3 h3
      refine ⟨G2, ec, ds[i], e3, s2, px, h3, fun G3 H3 σ3 s3 st3 _ => ?_⟩
      have stt := (stc.trans st2).trans st3
      have hH : ∀ a, H3 a = none → γ.h0 a = none := fun a h => h0 a (stt.fb a h)
      split at hl
      · rename_i e4 h4
        exact ⟨G3, e3, .nx e4, hH, s3, h4, fun G4 H4 σ4 s4 st4 => ⟨hlt, G4, e4, s4, stt.trans st4, ((sb.trans st2.g).trans st3.g).trans st4.g, hl⟩⟩
      · rename_i e4 h4
        exact ⟨G3, e3, .ct e4, hH, s3, h4, fun G4 H4 σ4 s4 st4 => ⟨hlt, G4, e4, s4, stt.trans st4, ((sb.trans st2.g).trans st3.g).trans st4.g, hl⟩⟩
      · rename_i e4 h4
        cases hl
        exact ⟨G3, e3, .bk e4, hH, s3, h4, fun G4 H4 σ4 s4 st4 => k G4 H4 σ4 s4 (stt.trans st4)⟩
      · rename_i o e4 h4
        cases hl
        exact ⟨G3, e3, .rt o e4, hH, s3, h4, fun G4 H4 σ4 x4 s4 st4 r4 => k G4 H4 σ4 x4 s4 (stt.trans st4) (r4.start stt.fb)⟩
      · cases hl
    · have ei : i = ds.length := by omega
      subst ei
      rw [List.drop_length] at hl
      simp only [foLoop] at hl
      cases hl
      exact .inl ⟨ir.stop Hc (sb.trans sc.sub), k Gc Hc σc sc stc⟩
  · cases ev
theorem wh_test {env : Ev} {c : IE} {b : Bool} {e1 : Ev} (h : (match evE F C c env with
      | some (.pu (.bool k), e1) => some (k, e1)
      | _ => none) = some (b, e1)) : evE F C c env = some (.pu (.bool b), e1) := by
  split at h
  · rename_i k e q
    cases h
    exact q
  · cases h
theorem s_wh {c : Expr} (hp : PassesOwn (model X.prog X.w) X.A X.env X.xe) (hc : PT X c (tT F C X.K γ ic)) (hb : PSs X b (tSs F C X.K γ iss)) : PS X (.While c b [] pos) (tS F C X.K γ (.wh ic iss)) :=
  PS.weak (ps_while hp hc hb) fun D σ H ⟨G, env, fl, h0, sr, ev, k⟩ => by
  simp only [evS] at ev
  generalize (1000000 : Nat) = fuel at ev
  refine ⟨fun m σc Hc => ∃ Gc ec, Sr X.K γ Gc Hc ec σc ∧ Step (Ow env σ) G H (Ow ec σc) Gc Hc ∧ whLoop (fun e => match evE F C ic e with
      | some (.pu (.bool k), e1) => some (k, e1)
      | _ => none) (fun e => evSs F C iss e) m ec = some fl, ⟨fuel, G, env, sr, Step.refl, ev⟩, ?_⟩
  rintro m σc Hc ⟨Gc, ec, sc, stc, hl⟩
  cases m with
  | zero => simp only [whLoop] at hl; cases hl
  | succ m =>
    unfold whLoop at hl
    split at hl
    · cases hl
    · rename_i e1 h1
      cases hl
      exact ⟨Gc, ec, false, e1, sc, wh_test h1, fun G1 H1 s1 st1 => k G1 H1 σc s1 (stc.trans st1)⟩
    · rename_i e1 h1
      refine ⟨Gc, ec, true, e1, sc, wh_test h1, fun G1 H1 s1 st1 => ?_⟩
      dsimp only
      rw [if_pos rfl]
      have stt := stc.trans st1
      have hH : ∀ a, H1 a = none → γ.h0 a = none := fun a h => h0 a (stt.fb a h)
      refine ⟨fun σ' H' => ∃ Gc ec, Sr X.K γ Gc H' ec σ' ∧ Step (Ow env σ) G H (Ow ec σ') Gc H' ∧ whLoop (fun e => match evE F C ic e with
        | some (.pu (.bool k), e1) => some (k, e1)
        | _ => none) (fun e => evSs F C iss e) m ec = some fl, fun σ' H' q => ⟨m, Nat.lt_succ_self m, q⟩, ?_⟩
      split at hl
      · rename_i e4 h4
        exact ⟨G1, e1, .nx e4, hH, s1, h4, fun G4 H4 σ4 s4 st4 => ⟨G4, e4, s4, stt.trans st4, hl⟩⟩
      · rename_i e4 h4
        exact ⟨G1, e1, .ct e4, hH, s1, h4, fun G4 H4 σ4 s4 st4 => ⟨G4, e4, s4, stt.trans st4, hl⟩⟩
      · rename_i e4 h4
        cases hl
        exact ⟨G1, e1, .bk e4, hH, s1, h4, fun G4 H4 σ4 s4 st4 => k G4 H4 σ4 s4 (stt.trans st4)⟩
      · rename_i o e4 h4
        cases hl
        exact ⟨G1, e1, .rt o e4, hH, s1, h4, fun G4 H4 σ4 x4 s4 st4 r4 => k G4 H4 σ4 x4 s4 (stt.trans st4) (r4.start stt.fb)⟩
      · cases hl
end
end Rf

set_option Elab.async false
set_option linter.all false
set_option maxRecDepth 100000
set_option maxHeartbeats 4000000
/-! Rf: several names stored at once. -/
namespace Rf
open PySem PySem.Spec PyProof.Rows L2

def isNew : Opd → Bool
  | .fr _ => true
  | .fd _ => true
  | _ => false
def frAt (o : Opd) (x : V) (c : Addr) : Prop := isNew o = true ∧ x = .ref c
section
variable {K : PySem.W.Frag} {γ : Gam} {G H G0 H0 : Hp} {env env0 env' : Ev} {σ σ0 : L2.St} {o o' : Opd} {x y : V}
theorem slot_ok {u : Bool} {sl : Sl} {i : Nat} (s : Sr K γ G H env σ) (st : Step (Ow env0 σ0) G0 H0 (Ow env σ) G H) (r : OpdR K G H env σ H0 x o) (e : slotOf u o = some sl) (p : putv env i sl = some env') (h0 : ∀ a, H0 a = none → γ.h0 a = none) :
    ∃ G', Sr K γ G' H env' (σ.set i (some x)) ∧ Step (Ow env0 σ0) G0 H0 (Ow env' (σ.set i (some x))) G' H ∧ Sub G G' ∧ (∀ c, G c = none → ¬ frAt o x c → G' c = none) ∧ ∀ c, ¬ Ow env σ c → ¬ frAt o x c → ¬ Ow env' (σ.set i (some x)) c := by
  simp only [putv] at p
  split at p
  · rename_i hl
    cases p
    have hl' := blt_lt hl
    cases o with
    | bo i => cases e
    | fo xs => cases e
    | pu d =>
      cases u with
      | true => cases e
      | false =>
        simp only [slotOf] at e
        cases e
        obtain ⟨s1, st1⟩ := s.put hl' r
        refine ⟨G, s1, st.trans st1, Sub.refl G, fun c h _ => h, fun c h _ z => ?_⟩
        obtain ⟨j, ⟨⟨t, q, io⟩, w⟩⟩ := z
        rcases get_set q with ⟨_, q⟩ | ⟨ne, q⟩
        · subst q; cases io
        · rw [List.getElem?_set_ne (Ne.symm ne)] at w
          exact h ⟨j, ⟨t, q, io⟩, w⟩
    | fr xs =>
      cases u with
      | true =>
        simp only [slotOf] at e
        cases e
        obtain ⟨l, ys, rfl, q1, q2, q3, q4, q5⟩ := r
        obtain ⟨s2, o2⟩ := s.putOwn hl' q1 q2 q3 q4 (h0 l q5)
        refine ⟨G, s2, ⟨st.g, st.h, st.n, st.f, fun a ha => ?_⟩, Sub.refl G, fun c h _ => h, fun c h n z => ?_⟩
        · rcases o2 a ha with z | z
          · exact st.o a z
          · subst z; exact .inr q5
        · rcases o2 c z with w | w
          · exact h w
          · subst w; exact n ⟨rfl, rfl⟩
      | false =>
        simp only [slotOf] at e
        cases e
        obtain ⟨G1, s1, st1, sb, pd, ot⟩ := frz_ok (d := .list xs) s st r rfl
        obtain ⟨s2, st2⟩ := s1.put hl' pd
        refine ⟨G1, s2, st1.trans st2, sb, fun c h n => ?_, fun c h n z => ?_⟩
        · obtain ⟨l, ys, rfl, q1, q2, q3, q4, q5⟩ := r
          cases hc : H c with
          | none => exact none_of s1.sub hc
          | some ob =>
            rcases ot c (by rw [hc]; simp) with w | w
            · rw [w]; exact h
            · exact absurd ⟨rfl, w⟩ n
        · obtain ⟨j, ⟨⟨t, q, io⟩, w⟩⟩ := z
          rcases get_set q with ⟨_, q⟩ | ⟨ne, q⟩
          · subst q; cases io
          · rw [List.getElem?_set_ne (Ne.symm ne)] at w
            exact h ⟨j, ⟨t, q, io⟩, w⟩
    | fd xs =>
      cases u with
      | true =>
        simp only [slotOf] at e
        cases e
        obtain ⟨l, ys, rfl, q1, q2, q3, q4, q5⟩ := r
        obtain ⟨s2, o2⟩ := s.putDic hl' q1 q2 q3 q4 (h0 l q5)
        refine ⟨G, s2, ⟨st.g, st.h, st.n, st.f, fun a ha => ?_⟩, Sub.refl G, fun c h _ => h, fun c h n z => ?_⟩
        · rcases o2 a ha with z | z
          · exact st.o a z
          · subst z; exact .inr q5
        · rcases o2 c z with w | w
          · exact h w
          · subst w; exact n ⟨rfl, rfl⟩
      | false =>
        simp only [slotOf] at e
        cases e
        obtain ⟨G1, s1, st1, sb, pd, ot⟩ := frz_ok (d := .dict xs) s st r rfl
        obtain ⟨s2, st2⟩ := s1.put hl' pd
        refine ⟨G1, s2, st1.trans st2, sb, fun c h n => ?_, fun c h n z => ?_⟩
        · obtain ⟨l, ys, rfl, q1, q2, q3, q4, q5⟩ := r
          cases hc : H c with
          | none => exact none_of s1.sub hc
          | some ob =>
            rcases ot c (by rw [hc]; simp) with w | w
            · rw [w]; exact h
            · exact absurd ⟨rfl, w⟩ n
        · obtain ⟨j, ⟨⟨t, q, io⟩, w⟩⟩ := z
          rcases get_set q with ⟨_, q⟩ | ⟨ne, q⟩
          · subst q; cases io
          · rw [List.getElem?_set_ne (Ne.symm ne)] at w
            exact h ⟨j, ⟨t, q, io⟩, w⟩
  · cases p
/-- another operand, behind such a store -/
theorem OpdR.kept {G' : Hp} {σ' : L2.St} {Hs : Hp} {u : Bool} {sl : Sl} (r : OpdR K G H env σ Hs y o') (e : slotOf u o' = some sl) (sb : Sub G G') (h1 : ∀ c, G c = none → ¬ frAt o x c → G' c = none) (h2 : ∀ c, ¬ Ow env σ c → ¬ frAt o x c → ¬ Ow env' σ' c) (ap : ∀ c, frAt o' y c → ¬ frAt o x c) :
    OpdR K G' H env' σ' Hs y o' := by
  cases o' with
  | bo i => cases e
  | fo xs => cases e
  | pu d => exact Pu.mono sb r
  | fr xs =>
    obtain ⟨l, ys, rfl, q1, q2, q3, q4, q5⟩ := r
    have n := ap l ⟨rfl, rfl⟩
    exact ⟨l, ys, rfl, h1 l q1 n, q2, q3.mono sb, h2 l q4 n, q5⟩
  | fd xs =>
    obtain ⟨l, ys, rfl, q1, q2, q3, q4, q5⟩ := r
    have n := ap l ⟨rfl, rfl⟩
    exact ⟨l, ys, rfl, h1 l q1 n, q2, q3.mono sb, h2 l q4 n, q5⟩
theorem apart {G1 H1 G2 H2 : Hp} {e1 e2 : Ev} (r1 : OpdR K G1 H1 e1 σ H0 x o) (r2 : OpdR K G2 H2 e2 σ H1 y o') : ∀ c, frAt o' y c → ¬ frAt o x c := fun c ⟨e, q⟩ ⟨e', q'⟩ => by
  subst q; subst q'
  have z1 : ∃ ob, H1 c = some ob := by
    cases o with
    | fr xs => obtain ⟨l, ys, w1, _, w2, _⟩ := r1; cases w1; exact ⟨_, w2⟩
    | fd xs => obtain ⟨l, ys, w1, _, w2, _⟩ := r1; cases w1; exact ⟨_, w2⟩
    | pu d => cases e'
    | bo i => cases e'
    | fo xs => cases e'
  have z2 : H1 c = none := by
    cases o' with
    | fr xs => obtain ⟨l, ys, w1, _, _, _, _, w2⟩ := r2; cases w1; exact w2
    | fd xs => obtain ⟨l, ys, w1, _, _, _, _, w2⟩ := r2; cases w1; exact w2
    | pu d => cases e
    | bo i => cases e
    | fo xs => cases e
  obtain ⟨ob, z1⟩ := z1
  rw [z1] at z2; cases z2
end

section
variable {X : Cx} {F : FT} {C : List D} {γ : Gam} {a b c : Expr} {ia ib ic : IE} {pos : Pos} {i j l : Nat} {u v w : Bool}
/-- the stores of two values, whichever way they go -/
theorem par2_run {σ : L2.St} {H : Hp} {D : Ends} (h : tS F C X.K γ (.par2 i j u v ia ib) D σ H) {P : List V → Hp → Prop} (hP : ∀ H1 x y, D.nx ((σ.set i (some x)).set j (some y)) H1 → (∀ p o, H1 p = none → D.nx ((σ.set i (some x)).set j (some y)) (upd H1 p o)) → P [x, y] H1) : tCons (tE F C X.K γ ia) (tCons (tE F C X.K γ ib) tNil) σ H P := by
  obtain ⟨G, env, fl, h0, sr, ev, k⟩ := h
  simp only [evS] at ev
  split at ev
  · cases ev
  rename_i ox e1 h1
  split at ev
  · cases ev
  rename_i sx hx
  split at ev
  · cases ev
  rename_i oy e2 h2
  split at ev
  · cases ev
  rename_i sy hy
  split at ev
  · cases ev
  rename_i e3 p1
  obtain ⟨e4, p2, e⟩ := Option.map_eq_some_iff.mp ev
  cases e
  refine ⟨G, env, ox, e1, sr, h1, fun G1 H1 x s1 st1 r1 => ⟨G1, e1, oy, e2, s1, h2, fun G2 H2 y s2 st2 r2 => ?_⟩⟩
  have stt := st1.trans st2
  obtain ⟨G3, s3, st3, sb3, g3, o3⟩ := slot_ok s2 stt (r1.later st2) hx p1 h0
  have r3 := OpdR.kept (env' := e3) (σ' := σ.set i (some x)) (r2.start st1.fb) hy sb3 g3 o3 (apart r1 r2)
  obtain ⟨G4, s4, st4, _⟩ := slot_ok s3 st3 r3 hy p2 h0
  exact hP H2 x y (k G4 H2 _ s4 st4) fun p o hp => k G4 _ _ (s4.newH hp) (st4.trans (Step.newH hp))
theorem par3_run {σ : L2.St} {H : Hp} {D : Ends} (h : tS F C X.K γ (.par3 i j l u v w ia ib ic) D σ H) {P : List V → Hp → Prop} (hP : ∀ H1 x y z, D.nx (((σ.set i (some x)).set j (some y)).set l (some z)) H1 → (∀ p o, H1 p = none → D.nx (((σ.set i (some x)).set j (some y)).set l (some z)) (upd H1 p o)) → P [x, y, z] H1) : tCons (tE F C X.K γ ia) (tCons (tE F C X.K γ ib) (tCons (tE F C X.K γ ic) tNil)) σ H P := by
  obtain ⟨G, env, fl, h0, sr, ev, k⟩ := h
  simp only [evS] at ev
  split at ev
  · cases ev
  rename_i ox e1 h1
  split at ev
  · cases ev
  rename_i sx hx
  split at ev
  · cases ev
  rename_i oy e2 h2
  split at ev
  · cases ev
  rename_i sy hy
  split at ev
  · cases ev
  rename_i oz e3 h3
  split at ev
  · cases ev
  rename_i sz hz
  split at ev
  · cases ev
  rename_i e4 p1
  split at ev
  · cases ev
  rename_i e5 p2
  obtain ⟨e6, p3, e⟩ := Option.map_eq_some_iff.mp ev
  cases e
  refine ⟨G, env, ox, e1, sr, h1, fun G1 H1 x s1 st1 r1 => ⟨G1, e1, oy, e2, s1, h2, fun G2 H2 y s2 st2 r2 => ⟨G2, e2, oz, e3, s2, h3, fun G3 H3 z s3 st3 r3 => ?_⟩⟩⟩
  have stt := (st1.trans st2).trans st3
  obtain ⟨G4, s4, st4, sb4, g4, o4⟩ := slot_ok s3 stt ((r1.later st2).later st3) hx p1 h0
  have r3' := OpdR.kept (env' := e4) (σ' := σ.set i (some x)) (r3.start (st1.trans st2).fb) hz sb4 g4 o4 (apart (r1.later st2) r3)
  have r2' := OpdR.kept (env' := e4) (σ' := σ.set i (some x)) ((r2.later st3).start st1.fb) hy sb4 g4 o4 (apart r1 (r2.later st3))
  obtain ⟨G5, s5, st5, sb5, g5, o5⟩ := slot_ok s4 st4 r2' hy p2 h0
  have r3'' := OpdR.kept (env' := e5) (σ' := (σ.set i (some x)).set j (some y)) r3' hz sb5 g5 o5 (apart r2 r3)
  obtain ⟨G6, s6, st6, _⟩ := slot_ok s5 st5 r3'' hz p3 h0
  exact hP H3 x y z (k G6 H3 _ s6 st6) fun p o hp => k G6 _ _ (s6.newH hp) (st6.trans (Step.newH hp))

/-! ### which way the stores go -/
def isLoc (sc : Scope) (x : Str) : Bool := match sc.names.lookup x with
  | some .local => true
  | _ => false
theorem isLoc_of {sc : Scope} {x : Str} (h : isLoc sc x = true) : sc.names.lookup x = some .local := by
  unfold isLoc at h
  split at h
  · assumption
  · cases h
theorem isLoc_eq {env : Env} {x : Str} : (env.kindOf x == some .local) = isLoc env.scope x := by
  unfold isLoc Env.kindOf
  cases env.scope.names.lookup x with
  | none => rfl
  | some k => cases k <;> rfl
def isFun (sc : Scope) : Bool := match sc.kind with
  | .function => true
  | _ => false
theorem isFun_of {sc : Scope} (h : isFun sc = true) : sc.kind = .function := by
  unfold isFun at h
  split at h
  · assumption
  · cases h
theorem blk_fun {env : Env} (h : env.scope.kind = .function) : env.blockKind = .function := by unfold Env.blockKind; rw [h]; rfl
/-- some true: swapped; some false: through the tuple -/
def sw2 (sc : Scope) (x y : Str) (px py : Pos) (a b : Expr) : Option Bool :=
  if isLoc sc x && isLoc sc y && (py.line == px.line) && !(x == y) then
    if foldedForSure 8 a && foldedForSure 8 b then some false else if constantsAlone 8 a && constantsAlone 8 b then none else some true
  else some false
def sw3 (sc : Scope) (x y z : Str) (px py pz : Pos) (a b c : Expr) : Option Bool :=
  if isLoc sc x && isLoc sc y && isLoc sc z && (py.line == px.line) && (pz.line == px.line) then
    if !(x == y) && !(x == z) && !(y == z) then
      if foldedForSure 8 a && foldedForSure 8 b && foldedForSure 8 c then some false else if constantsAlone 8 a && constantsAlone 8 b && constantsAlone 8 c then none else some true
    else none
  else some false
theorem star_not : ∀ e : Expr, (match e with | .Starred .. => true | _ => false) = !notStar e := by intro e; cases e <;> rfl
theorem ite_neg' {α : Type} {c : Prop} [Decidable c] {a b r : α} (h : ¬ c) (e : b = r) : (if c then a else b) = r := by rw [if_neg h]; exact e
theorem sw2_ok {env : Env} {x y : Str} {px py pt pt2 : Pos} {kt k2 : Nat} {a b : Expr} {r : Bool} (hk : env.scope.kind = .function) (ha : notStar a = true) (hb : notStar b = true) (h : sw2 env.scope x y px py a b = some r) :
    swappedStores [.Tuple [.Name x px, .Name y py] kt pt] (.Tuple [a, b] k2 pt2) env = pure (if r = true then some [x, y] else none) := by
  unfold swappedStores
  dsimp only [List.any_cons, List.any_nil, List.length_cons, List.length_nil, List.head?_cons, Option.map_some, Option.getD_some, List.filterMap_cons, List.filterMap_nil, List.all_cons, List.all_nil, Expr.pos]
  refine ite_neg' ?_ (ite_neg' (fun z => ?_) ?_)
  · rw [blk_fun hk]; decide
  · rcases (Bool.or_eq_true _ _).mp z with z | z
    · have z' := (star_not a).symm.trans z; rw [ha] at z'; cases z'
    · rcases (Bool.or_eq_true _ _).mp z with z | z
      · have z' := (star_not b).symm.trans z; rw [hb] at z'; cases z'
      · cases z
  · simp only [isLoc_eq, beq_self_eq_true, Bool.and_true] at h ⊢
    unfold sw2 at h
    generalize isLoc env.scope x = lx at h ⊢
    generalize isLoc env.scope y = ly at h ⊢
    generalize (py.line == px.line) = lp at h ⊢
    generalize foldedForSure 8 a = fa at h ⊢
    generalize foldedForSure 8 b = fb at h ⊢
    generalize constantsAlone 8 a = ca at h ⊢
    generalize constantsAlone 8 b = cb at h ⊢
    have ed : ([x, y].eraseDups.length != 2) = (x == y) := by
      by_cases q : x = y
      · subst q; simp [List.eraseDups_cons]
      · simp [List.eraseDups_cons, Ne.symm q, q]
    cases lx <;> cases ly <;> cases lp <;> simp at h ⊢
    all_goals (try (subst h; rfl))
    by_cases q : x = y
    · rw [if_pos q] at h
      have e2 : ¬ [x, y].eraseDups.length = 2 := by
        rw [q]; simp [List.eraseDups_cons]
      rw [if_neg e2]
      cases h; rfl
    · rw [if_neg q] at h
      have e2 : [x, y].eraseDups.length = 2 := by simp [List.eraseDups_cons, Ne.symm q]
      rw [if_pos e2]
      split at h
      · rename_i z
        rw [if_pos z]
        cases h; rfl
      · rename_i z
        rw [if_neg z]
        split at h
        · cases h
        · rename_i z'
          rw [if_neg z']
          cases h; rfl
theorem sw3_ok {env : Env} {x y w : Str} {px py pw pt pt2 : Pos} {kt k2 : Nat} {a b c : Expr} {r : Bool} (hk : env.scope.kind = .function) (ha : notStar a = true) (hb : notStar b = true) (hc : notStar c = true) (h : sw3 env.scope x y w px py pw a b c = some r) :
    swappedStores [.Tuple [.Name x px, .Name y py, .Name w pw] kt pt] (.Tuple [a, b, c] k2 pt2) env = pure (if r = true then some [x, y, w] else none) := by
  unfold swappedStores
  dsimp only [List.any_cons, List.any_nil, List.length_cons, List.length_nil, List.head?_cons, Option.map_some, Option.getD_some, List.filterMap_cons, List.filterMap_nil, List.all_cons, List.all_nil, Expr.pos]
  refine ite_neg' ?_ (ite_neg' (fun z => ?_) ?_)
  · rw [blk_fun hk]; decide
  · rcases (Bool.or_eq_true _ _).mp z with z | z
    · have z' := (star_not a).symm.trans z; rw [ha] at z'; cases z'
    · rcases (Bool.or_eq_true _ _).mp z with z | z
      · have z' := (star_not b).symm.trans z; rw [hb] at z'; cases z'
      · rcases (Bool.or_eq_true _ _).mp z with z | z
        · have z' := (star_not c).symm.trans z; rw [hc] at z'; cases z'
        · cases z
  · simp only [isLoc_eq, beq_self_eq_true, Bool.and_true] at h ⊢
    unfold sw3 at h
    generalize isLoc env.scope x = lx at h ⊢
    generalize isLoc env.scope y = ly at h ⊢
    generalize isLoc env.scope w = lw at h ⊢
    generalize (py.line == px.line) = lp at h ⊢
    generalize (pw.line == px.line) = lq at h ⊢
    generalize foldedForSure 8 a = fa at h ⊢
    generalize foldedForSure 8 b = fb at h ⊢
    generalize foldedForSure 8 c = fc at h ⊢
    generalize constantsAlone 8 a = ca at h ⊢
    generalize constantsAlone 8 b = cb at h ⊢
    generalize constantsAlone 8 c = cc at h ⊢
    cases lx <;> cases ly <;> cases lw <;> cases lp <;> cases lq <;> simp at h ⊢
    all_goals (try (subst h; rfl))
    obtain ⟨⟨⟨q1, q2⟩, q3⟩, h⟩ := h
    have e2 : [x, y, w].eraseDups.length = 3 := by simp [List.eraseDups_cons, Ne.symm q1, Ne.symm q2, Ne.symm q3]
    rw [if_pos e2]
    simp only [and_assoc] at h ⊢
    split at h
    · rename_i z
      rw [if_pos z]
      cases h; rfl
    · rename_i z
      rw [if_neg z]
      split at h
      · cases h
      · rename_i z'
        rw [if_neg z']
        cases h; rfl

/-! ### the rules -/
variable {x y z : Str} {px py pz pt pt2 : Pos} {kt k2 : Nat}
theorem s_par2 (hk : X.env.scope.kind = .function) (hc : X.calm = true) (hN : X.N.Nodup) (hi : X.N[i]? = some x) (hj : X.N[j]? = some y) (hij : i ≠ j) (hx : Loc X.env.scope x) (hy : Loc X.env.scope y)
    (fx : X.fn x = true ∨ X.env.scope.names.lookup x = some .local) (fy : X.fn y = true ∨ X.env.scope.names.lookup y = some .local) (sa : notStar a = true) (sb : notStar b = true) (ha : PE X a (tE F C X.K γ ia)) (hb : PE X b (tE F C X.K γ ib))
    {r : Bool} (h : sw2 X.env.scope x y px py a b = some r) (hl : r = true → X.env.scope.names.lookup x = some .local ∧ X.env.scope.names.lookup y = some .local) :
    PS X (.Assign [.Tuple [.Name x px, .Name y py] kt pt] (.Tuple [a, b] k2 pt2) pos) (tS F C X.K γ (.par2 i j u v ia ib)) := by
  have hw := sw2_ok (kt := kt) (k2 := k2) (pt := pt) (pt2 := pt2) hk sa sb h
  have pa := pa_cons ha (pa_cons hb pa_nil (star_cons sb)) (star_cons sa)
  cases r with
  | true =>
    rw [if_pos rfl] at hw
    obtain ⟨l1, l2⟩ := hl rfl
    exact PS.weak (ps_par hc hN hi hj hij l1 l2 pa hw) fun D σ H q => par2_run q fun H1 v w h1 _ => ⟨v, w, rfl, h1⟩
  | false =>
    rw [if_neg Bool.false_ne_true] at hw
    refine PS.weak (ps_asg (pe_tup pa) (pg_tup hc (pgs_cons (pg_name hN hi hx fx) (pgs_cons (pg_name hN hj hy fy) pgs_nil rfl) rfl)) rfl hw rfl) fun D σ H q => ?_
    show tCons (tE F C X.K γ ia) (tCons (tE F C X.K γ ib) tNil) σ H (fun xs H1 => xs.length ≤ sizeLine ∧ ∀ p, H1 p = none → gTup X.K 2 (gCons (gName i) (gCons (gName j) gNil)) (.ref p) σ (upd H1 p (.tup xs)) D.nx)
    refine par2_run q fun H1 v w _ h2 => ⟨by show 2 ≤ sizeLine; decide, fun p hp => ⟨p, [v, w], rfl, SqT.of upd_same, rfl, v, [w], rfl, w, [], rfl, rfl, h2 p _ hp⟩⟩
theorem s_par3 {l : Nat} (hk : X.env.scope.kind = .function) (hc : X.calm = true) (hN : X.N.Nodup) (hi : X.N[i]? = some x) (hj : X.N[j]? = some y) (hlz : X.N[l]? = some z) (hij : i ≠ j) (hil : i ≠ l) (hjl : j ≠ l) (hx : Loc X.env.scope x) (hy : Loc X.env.scope y) (hz : Loc X.env.scope z)
    (fx : X.fn x = true ∨ X.env.scope.names.lookup x = some .local) (fy : X.fn y = true ∨ X.env.scope.names.lookup y = some .local) (fz : X.fn z = true ∨ X.env.scope.names.lookup z = some .local) (sa : notStar a = true) (sb : notStar b = true) (sc : notStar c = true)
    (ha : PE X a (tE F C X.K γ ia)) (hb : PE X b (tE F C X.K γ ib)) (hcc : PE X c (tE F C X.K γ ic))
    {r : Bool} (h : sw3 X.env.scope x y z px py pz a b c = some r) (hl : r = true → X.env.scope.names.lookup x = some .local ∧ X.env.scope.names.lookup y = some .local ∧ X.env.scope.names.lookup z = some .local) :
    PS X (.Assign [.Tuple [.Name x px, .Name y py, .Name z pz] kt pt] (.Tuple [a, b, c] k2 pt2) pos) (tS F C X.K γ (.par3 i j l u v w ia ib ic)) := by
  have hw := sw3_ok (kt := kt) (k2 := k2) (pt := pt) (pt2 := pt2) hk sa sb sc h
  have pa := pa_cons ha (pa_cons hb (pa_cons hcc pa_nil (star_cons sc)) (star_cons sb)) (star_cons sa)
  cases r with
  | true =>
    rw [if_pos rfl] at hw
    obtain ⟨l1, l2, l3⟩ := hl rfl
    exact PS.weak (ps_par3 hc hN hi hj hlz hij hil hjl l1 l2 l3 pa hw) fun D σ H q => par3_run q fun H1 v w z h1 _ => ⟨v, w, z, rfl, h1⟩
  | false =>
    rw [if_neg Bool.false_ne_true] at hw
    refine PS.weak (ps_asg (pe_tup pa) (pg_tup hc (pgs_cons (pg_name hN hi hx fx) (pgs_cons (pg_name hN hj hy fy) (pgs_cons (pg_name hN hlz hz fz) pgs_nil rfl) rfl) rfl)) rfl hw rfl) fun D σ H q => ?_
    show tCons (tE F C X.K γ ia) (tCons (tE F C X.K γ ib) (tCons (tE F C X.K γ ic) tNil)) σ H (fun xs H1 => xs.length ≤ sizeLine ∧ ∀ p, H1 p = none → gTup X.K 3 (gCons (gName i) (gCons (gName j) (gCons (gName l) gNil))) (.ref p) σ (upd H1 p (.tup xs)) D.nx)
    refine par3_run q fun H1 v w z _ h2 => ⟨by show 3 ≤ sizeLine; decide, fun p hp => ⟨p, [v, w, z], rfl, SqT.of upd_same, rfl, v, [w, z], rfl, w, [z], rfl, z, [], rfl, rfl, h2 p _ hp⟩⟩
end
end Rf

set_option Elab.async false
set_option linter.all false
set_option maxRecDepth 100000
set_option maxHeartbeats 4000000
/-! Rf: dicts with keys ints and texts. -/
namespace Rf
open PySem PySem.Spec PyProof.Rows L2

section
variable {K : PySem.W.Frag} {γ : Gam} {G H : Hp} {env : Ev} {σ : L2.St}
theorem keyD_kV {p : D} {k : Key} {x : V} (r : Pu K G p x) (e : keyD p = some k) : x = kV k := by
  cases r <;> simp only [keyD] at e <;> cases e <;> rfl
theorem isKey_ok {p : D} (h : isKey p = true) : ∃ k, keyD p = some k := Option.isSome_iff_exists.mp h
theorem keq_dec {p q : D} {k j : Key} (e1 : keyD p = some k) (e2 : keyD q = some j) : keq p q = decide (k = j) := by
  cases p <;> simp only [keyD] at e1 <;> cases e1 <;> cases q <;> simp only [keyD] at e2 <;> cases e2 <;> simp [keq]
theorem kget_ok {p : D} {k : Key} (e : keyD p = some k) : ∀ {kvs : List (D × D)} {qs : List (Key × V)}, PuK K G kvs qs → (kget kvs p = none ∧ valV qs k = none) ∨ ∃ d v, kget kvs p = some d ∧ valV qs k = some v ∧ Pu K G d v
  | _, _, .nil => .inl ⟨rfl, rfl⟩
  | _, _, .cons (p := p1) (k := k1) e1 a b => by
    have ih := kget_ok e b
    have q := keq_dec e1 e
    by_cases h : k1 = k
    · refine .inr ⟨_, _, ?_, valV_pos h, a⟩
      simp only [kget, q, decide_eq_true h, if_pos]
    · rw [valV_neg h]
      simp only [kget, q, decide_eq_false h]
      exact ih
theorem khas_ok {p : D} {k : Key} (e : keyD p = some k) {kvs : List (D × D)} {qs : List (Key × V)} (r : PuK K G kvs qs) : khas kvs p = (valV qs k).isSome := by
  unfold khas
  rcases kget_ok e r with ⟨h1, h2⟩ | ⟨d, v, h1, h2, _⟩ <;> rw [h1, h2] <;> rfl
theorem kmap_ok {p d : D} {k : Key} {v : V} (e : keyD p = some k) (pv : Pu K G d v) : ∀ {kvs : List (D × D)} {qs : List (Key × V)}, PuK K G kvs qs → PuK K G (kmap p d kvs) (qs.map fun kv => if kv.1 = k then (kv.1, v) else kv)
  | _, _, .nil => .nil
  | _, _, .cons (p := p1) (k := k1) e1 a b => by
    have ih := kmap_ok e pv b
    have q := keq_dec e1 e
    simp only [kmap, q, List.map_cons]
    by_cases h : k1 = k
    · rw [if_pos (decide_eq_true h), if_pos h]
      exact .cons e1 pv ih
    · rw [if_neg (by simpa using h), if_neg h]
      exact .cons e1 a ih
theorem PuK.append {ds es : List (D × D)} {vs ws : List (Key × V)} (h : PuK K G ds vs) (g : PuK K G es ws) : PuK K G (ds ++ es) (vs ++ ws) := by
  induction ds generalizing vs with
  | nil => cases h; exact g
  | cons p ds ih => cases h with | cons e a b => exact .cons e a (ih b)
theorem kput_ok {p d : D} {k : Key} {v : V} (e : keyD p = some k) (pv : Pu K G d v) {kvs : List (D × D)} {qs : List (Key × V)} (r : PuK K G kvs qs) : PuK K G (kput kvs p d) (putK qs k v) := by
  unfold kput putK
  rw [khas_ok e r, valV_any]
  split
  · exact kmap_ok e pv r
  · exact r.append (.cons e pv .nil)
theorem kmrg_ok : ∀ {more : List (D × D)} {ms : List (Key × V)} {kvs : List (D × D)} {qs : List (Key × V)}, PuK K G more ms → PuK K G kvs qs → PuK K G (kmrg kvs more) (mergeK qs ms)
  | _, _, _, _, .nil, r => r
  | _, _, _, _, .cons e a b, r => by
    have h := kmrg_ok b (kput_ok e a r)
    exact h
theorem prs_ok : ∀ {xs : List D} {ys : List V} {kvs : List (D × D)}, PuA K G xs ys → prsOf xs = some kvs → ∃ (ps : List Addr) (qs : List (Key × V)), ys = ps.map V.ref ∧ PuK K G kvs qs ∧ Paired (fun p kv => SqT K G p [kV kv.1, kv.2]) ps qs
  | [], _, _, .nil, h => by simp [prsOf] at h; subst h; exact ⟨[], [], rfl, .nil, .nil⟩
  | d :: xs, _, kvs, .cons (v := v) a b, h => by
    cases d <;> try (simp [prsOf] at h; done)
    rename_i ds
    rcases ds with _ | ⟨p, _ | ⟨q, _ | ⟨_, _⟩⟩⟩ <;> try (simp [prsOf] at h; done)
    simp only [prsOf] at h
    split at h
    · rename_i hk
      cases hr : prsOf xs with
      | none => rw [hr] at h; cases h
      | some r =>
        rw [hr] at h
        have h' := Option.some.inj h
        subst h'
        obtain ⟨ps, qs, e, pk, pr⟩ := prs_ok b hr
        obtain ⟨k, ek⟩ := isKey_ok hk
        cases a with
        | tup sq pa =>
          rename_i ad ws
          cases pa with
          | cons pp pr' =>
            cases pr' with
            | cons pq pn =>
              cases pn
              have e1 := keyD_kV pp ek
              subst e1
              refine ⟨ad :: ps, (k, _) :: qs, by rw [e]; rfl, .cons ek pq pk, .cons sq pr⟩
    · cases h
theorem paired_sub {H : Hp} (s : Sub G H) : ∀ {ps : List Addr} {qs : List (Key × V)}, Paired (fun p kv => SqT K G p [kV kv.1, kv.2]) ps qs → Paired (fun p kv => SqT K H p [kV kv.1, kv.2]) ps qs
  | _, _, .nil => .nil
  | _, _, .cons a b => .cons (sqT_sub s a) (paired_sub s b)
/-- the dict that slot i holds is changed -/
theorem Sr.mutD (s : Sr K γ G H env σ) {i : Nat} {kvs kvs' : List (D × D)} {a : Addr} {qs' : List (Key × V)} (e : env[i]? = some (.dic kvs)) (ha : σ[i]? = some (some (.ref a))) (p : PuK K G kvs' qs') :
    Sr K γ G (upd H a (.dK qs')) (env.set i (.dic kvs')) σ ∧ Step (Ow env σ) G H (Ow (env.set i (.dic kvs')) σ) G (upd H a (.dK qs')) := by
  obtain ⟨a', qs, h1, h2, h3, h4, h5⟩ := s.slot i _ e
  rw [ha] at h1; cases h1
  have own : OwnAt env σ i a := ⟨⟨_, e, rfl⟩, ha⟩
  have back : ∀ {j b}, OwnAt (env.set i (.dic kvs')) σ j b → OwnAt env σ j b := fun {j b} h => by
    obtain ⟨⟨u, q, io⟩, h1⟩ := h
    rcases get_set q with ⟨rfl, _⟩ | ⟨_, q⟩
    · exact ⟨⟨_, e, rfl⟩, h1⟩
    · exact ⟨⟨u, q, io⟩, h1⟩
  refine ⟨⟨fun b u q => ?_, by simpa using s.len, fun j sl q => ?_, fun j j' b q q' => s.inj j j' b (back q) (back q')⟩, ⟨Sub.refl G, fun b u q no => ?_, fun _ _ q _ => q, fun b q => ?_, fun b ⟨j, hj⟩ => .inl ⟨j, back hj⟩⟩⟩
  · rw [upd_ne (fun z => by subst z; rw [h2] at q; cases q)]; exact s.sub _ _ q
  · rcases get_set q with ⟨rfl, rfl⟩ | ⟨ne, q⟩
    · exact ⟨a, qs', ha, h2, upd_same, p, h5⟩
    · have r := s.slot j sl q
      cases sl with
      | emp => trivial
      | val d => exact r
      | own u zs =>
        obtain ⟨m, ws, e1, e2, e3, e4⟩ := r
        refine ⟨m, ws, e1, e2, ?_, e4⟩
        rw [upd_ne]
        · exact e3
        · rintro rfl
          exact ne (s.inj j i m ⟨⟨_, q, rfl⟩, e1⟩ own)
      | dic zs =>
        obtain ⟨m, ws, e1, e2, e3, e4⟩ := r
        refine ⟨m, ws, e1, e2, ?_, e4⟩
        rw [upd_ne]
        · exact e3
        · rintro rfl
          exact ne (s.inj j i m ⟨⟨_, q, rfl⟩, e1⟩ own)
      | scr u zs =>
        obtain ⟨m, ws, e1, e2, e3⟩ := r
        refine ⟨m, ws, e1, ?_, e3⟩
        rcases e2 with ⟨o, e2⟩ | e2
        · exact .inl ⟨o, by rw [upd_ne (fun z => by subst z; rw [h3] at e2; cases e2)]; exact e2⟩
        · exact .inr e2
  · rw [upd_ne (fun z => no (by subst z; exact ⟨i, own⟩))]; exact q
  · by_cases z : b = a
    · subst z; rw [upd_same]; simp
    · rw [upd_ne z]; exact q
end

section
variable {X : Cx} {F : FT} {C : List D} {γ : Gam} {a b c e f : Expr} {ia ib ic ie : IE} {es : List Expr} {ies : IEs} {pos p ap pos' : Pos}
theorem e_dnw : PE X (.Dict [] [] pos) (tE F C X.K γ .dnw) := PE.weak pe_dnewK fun σ H Q ⟨G, env, o, env', sr, ev, k⟩ => by
  simp only [evE] at ev
  cases ev
  exact fun q hq => RQ.fd (k.fin sr Step.refl) sr.sub .nil hq
theorem e_dix (hu : X.A.units + 65 < cLine) (hs : notSlice b = true) (ha : PE X a (tE F C X.K γ ia)) (hb : PE X b (tE F C X.K γ ib)) : PE X (.Subscript a b pos) (tE F C X.K γ (.dix ia ib)) := by
  refine PE.weak (pe_dget (by omega) ha hb (fun o i => plainIx hs o i)) fun σ H Q ⟨G, env, o, env', sr, ev, k⟩ => ?_
  simp only [evE] at ev
  split at ev
  · cases ev
  rename_i x e1 h1
  split at ev
  · rename_i p e2 h2
    split at ev
    · rename_i kvs h3
      split at ev
      · rename_i hk
        obtain ⟨d, hd, e⟩ := Option.map_eq_some_iff.mp ev
        cases e
        obtain ⟨kk, ek⟩ := isKey_ok hk
        refine ⟨G, env, x, e1, sr, h1, fun G1 H1 v s1 st1 r1 => ⟨G1, e1, _, _, s1, h2, fun G2 H2 u s2 st2 r2 => ?_⟩⟩
        obtain ⟨l, qs, rfl, hA, pk⟩ := (rds_ok s2 (r1.later st2) h3).dict s2.sub rfl
        have r2' : Pu X.K G2 p u := r2
        have eu := keyD_kV r2' ek
        subst eu
        rcases kget_ok ek pk with ⟨z, _⟩ | ⟨d', w, q1, q2, q3⟩
        · rw [z] at hd; cases hd
        · rw [hd] at q1; cases q1
          exact ⟨l, w, rfl, by rw [← q2]; exact DGet.k hA, k.pu s2 (st1.trans st2) q3⟩
      · cases ev
    · cases ev
  · cases ev
theorem din_red {n : Bool} {σ : L2.St} {H : Hp} {Q : VK} (h : tE F C X.K γ (.din n ia ib) σ H Q) : (n = false → tDIn (tE F C X.K γ ia) (tE F C X.K γ ib) σ H Q) ∧ (n = true → tDNotIn (tE F C X.K γ ia) (tE F C X.K γ ib) σ H Q) := by
  obtain ⟨G, env, o, env', sr, ev, k⟩ := h
  simp only [evE] at ev
  split at ev
  · rename_i p e1 h1
    split at ev
    · cases ev
    rename_i y e2 h2
    split at ev
    · rename_i kvs h3
      split at ev
      · rename_i hk
        cases ev
        obtain ⟨kk, ek⟩ := isKey_ok hk
        have go : ∀ {G1 H1 : Hp} {u : V}, Sr X.K γ G1 H1 e1 σ → Step (Ow env σ) G H (Ow e1 σ) G1 H1 → OpdR X.K G1 H1 e1 σ H u (.pu p) → ∀ {G2 H2 : Hp} {x : V}, Sr X.K γ G2 H2 env' σ → Step (Ow e1 σ) G1 H1 (Ow env' σ) G2 H2 → OpdR X.K G2 H2 env' σ H1 x y → ∃ l qs, x = .ref l ∧ H2 l = some (.dK qs) ∧ u = kV kk ∧ khas kvs p = (valV qs kk).isSome ∧ (∀ bb, bb = (khas kvs p != n) → Q (.bl bb) H2) := fun {G1 H1 u} s1 st1 r1 {G2 H2 x} s2 st2 r2 => by
          obtain ⟨l, qs, rfl, hA, pk⟩ := (rds_ok s2 r2 h3).dict s2.sub rfl
          have r1' : Pu X.K G1 p u := r1
          refine ⟨l, qs, rfl, hA, keyD_kV r1' ek, khas_ok ek pk, fun bb hb => ?_⟩
          subst hb
          exact k.pu s2 (st1.trans st2) (.bl _)
        refine ⟨fun hn => ?_, fun hn => ?_⟩ <;> subst hn
        · refine ⟨G, env, _, e1, sr, h1, fun G1 H1 v s1 st1 r1 => ⟨G1, e1, y, _, s1, h2, fun G2 H2 u s2 st2 r2 => ?_⟩⟩
          obtain ⟨l, qs, rfl, hA, eu, hh, fin⟩ := go s1 st1 r1 s2 st2 r2
          subst eu
          exact ⟨l, _, rfl, DGet.k hA, fin _ (by rw [hh]; simp)⟩
        · refine ⟨G, env, _, e1, sr, h1, fun G1 H1 v s1 st1 r1 => ⟨G1, e1, y, _, s1, h2, fun G2 H2 u s2 st2 r2 => ?_⟩⟩
          obtain ⟨l, qs, rfl, hA, eu, hh, fin⟩ := go s1 st1 r1 s2 st2 r2
          subst eu
          exact ⟨l, _, rfl, DGet.k hA, fin _ (by rw [hh]; simp)⟩
      · cases ev
    · cases ev
  · cases ev
theorem e_din {n : Bool} {op : CmpOp} (hu : X.A.units + 65 < cLine) (ho : (match n, op with | false, .In => true | true, .NotIn => true | _, _ => false) = true) (hs : notSet b = true) (ha : PE X a (tE F C X.K γ ia)) (hb : PE X b (tE F C X.K γ ib)) : PE X (.Compare a [op] [b] pos) (tE F C X.K γ (.din n ia ib)) := by
  cases n <;> cases op <;> first | (cases ho; done) | skip
  · exact PE.weak (pe_cmp (pc_din (by omega) ha hb) (mark_no hs)) fun _ _ _ h => (din_red h).1 rfl
  · exact PE.weak (pe_cmp (pc_dnotin (by omega) ha hb) (mark_no hs)) fun _ _ _ h => (din_red h).2 rfl
theorem t_din {n : Bool} {op : CmpOp} (hu : X.A.units + 65 < cLine) (ho : (match n, op with | false, .In => true | true, .NotIn => true | _, _ => false) = true) (hs : notSet b = true) (ha : PE X a (tE F C X.K γ ia)) (hb : PE X b (tE F C X.K γ ib)) : PT X (.Compare a [op] [b] pos) (tT F C X.K γ (.din n ia ib)) := by
  cases n <;> cases op <;> first | (cases ho; done) | skip
  · exact PT.weak (pt_cmp (pc_din (by omega) ha hb) (mark_no hs)) fun _ _ _ h => (din_red (tT_tE h)).1 rfl
  · exact PT.weak (pt_cmp (pc_dnotin (by omega) ha hb) (mark_no hs)) fun _ _ _ h => (din_red (tT_tE h)).2 rfl
theorem base_of (h : plainBase a = true) {m : Str} : attributeBase a m X.env (eval a X.env) = eval a X.env := by
  unfold plainBase at h
  split at h
  · rfl
  · rename_i fn _ _ _ _
    cases fn <;> rfl
  · cases h
theorem m2_of (h : plainBase a = true) (hl : (ap.endLine == pos.line) = true) (hb : notStar b = true) (hc : notStar c = true) {m : Str} : M2 X a m ap b c pos := by
  have st : noStars [b, c] = true := by simp [noStars, hb, hc]
  refine ⟨base_of h, ?_, hl, ?_⟩
  · rw [plain_all st]; rfl
  · rw [star_all st]; rfl
theorem e_dgt {n : Str} (hu : X.A.units + 65 < cLine) (hn : n = ("get" : Str)) (hp : plainBase a = true) (hl : (ap.endLine == pos.line) = true) (h1 : notStar b = true) (h2 : notStar c = true) (ha : PE X a (tE F C X.K γ ia)) (hb : PE X b (tE F C X.K γ ib)) (hc : PE X c (tE F C X.K γ ic)) :
    PE X (.Call (.Attribute a n ap) [b, c] [] pos) (tE F C X.K γ (.dgt ia ib ic)) := by
  subst hn
  refine PE.weak (pe_dget2 (by omega) ha hb hc (m2_of hp hl h1 h2)) fun σ H Q ⟨G, env, o, env', sr, ev, k⟩ => ?_
  simp only [evE] at ev
  split at ev
  · rename_i kvs e1 q1
    split at ev
    · rename_i p e2 q2
      split at ev
      · rename_i q e3 q3
        split at ev
        · rename_i hk
          cases ev
          obtain ⟨kk, ek⟩ := isKey_ok hk
          refine ⟨G, env, _, e1, sr, q1, fun G1 H1 v s1 st1 r1 => ?_⟩
          have r1' : Pu X.K G1 (.dict kvs) v := r1
          cases r1' with
          | dic hG pk =>
            rename_i l qs
            refine ⟨l, rfl, .inl ⟨qs, .inl (s1.sub _ _ hG)⟩, G1, e1, _, e2, s1, q2, fun G2 H2 u s2 st2 r2 => ⟨G2, e2, _, _, s2, q3, fun G3 H3 w s3 st3 r3 => ?_⟩⟩
            have r2' : Pu X.K G2 p u := r2
            have r3' : Pu X.K G3 q w := r3
            have eu := keyD_kV r2' ek
            subst eu
            have g13 := st2.g.trans st3.g
            refine ⟨valV qs kk, DGet.k (s3.sub _ _ (g13 _ _ hG)), ?_⟩
            rcases kget_ok ek pk with ⟨z1, z2⟩ | ⟨d', y, z1, z2, z3⟩
            · rw [z1] at k
              rw [z2]
              exact k.pu s3 (st1.trans (st2.trans st3)) r3'
            · rw [z1] at k
              rw [z2]
              exact k.pu s3 (st1.trans (st2.trans st3)) (z3.mono g13)
        · cases ev
      · cases ev
    · cases ev
  · cases ev
theorem frz_off {K : PySem.W.Frag} {γ : Gam} {G H G' H' : Hp} {env : Ev} {σ : L2.St} {x : V} {o : Opd} {O : Addr → Prop} (s : Sr K γ G H env σ) (st : Step O G' H' (Ow env σ) G H) (r : OpdR K G H env σ H' x o) {d : D} (e : frzd o = some d) {q : Addr} (hq : H' q ≠ none) (hg : G q = none) :
    ∃ G1, Sr K γ G1 H env σ ∧ Step O G' H' (Ow env σ) G1 H ∧ Sub G G1 ∧ Pu K G1 d x ∧ G1 q = none := by
  cases o with
  | pu d' =>
    have e' : d' = d := by simpa [frzd] using e
    subst e'
    exact ⟨G, s, st, Sub.refl G, r, hg⟩
  | fr xs =>
    have e' : PyData.list xs = d := by simpa [frzd] using e
    subst e'
    obtain ⟨a, ys, rfl, h1, h2, h3, h4, h5⟩ := r
    exact ⟨upd G a (.lst ys), s.tell h2 h1 h4, st.tell (.inl h5) h1, sub_tell h1, .lst upd_same (h3.mono (sub_tell h1)), by rw [upd_ne (fun z => hq (by rw [z]; exact h5))]; exact hg⟩
  | fd xs =>
    have e' : PyData.dict xs = d := by simpa [frzd] using e
    subst e'
    obtain ⟨a, ys, rfl, h1, h2, h3, h4, h5⟩ := r
    exact ⟨upd G a (.dK ys), s.tell h2 h1 h4, st.tell (.inl h5) h1, sub_tell h1, .dic upd_same (h3.mono (sub_tell h1)), by rw [upd_ne (fun z => hq (by rw [z]; exact h5))]; exact hg⟩
  | bo i => simp [frzd] at e
  | fo xs => simp [frzd] at e
theorem e_ds1 (ha : PE X a (tE F C X.K γ ia)) (hb : PE X b (tE F C X.K γ ib)) : PE X (.Dict [some a] [b] pos) (tE F C X.K γ (.ds1 ia ib)) := by
  refine PE.weak (pe_disp (pps_cons ha hb pps_nil) rfl rfl (by simp) (by simp)) fun σ H Q ⟨G, env, o, env', sr, ev, k⟩ => ?_
  simp only [evE] at ev
  split at ev
  · rename_i p e1 h1
    split at ev
    · cases ev
    rename_i o2 e2 h2
    split at ev
    · cases ev
    rename_i d hd
    split at ev
    · rename_i hk
      cases ev
      obtain ⟨kk, ek⟩ := isKey_ok hk
      refine fun q hq => ⟨G, env, _, e1, sr.newH hq, h1, fun G1 H1 v s1 st1 r1 => ⟨G1, e1, _, _, s1, h2, fun G2 H2 u s2 st2 r2 => ?_⟩⟩
      have r1' : Pu X.K G1 p v := r1
      have ev := keyD_kV r1' ek
      subst ev
      have nq : ¬ Ow env σ q := no_ow sr hq
      have nq1 : ¬ Ow e1 σ q := fun z => (st1.o q z).elim nq (by rw [upd_same]; simp)
      have hG : G q = none := none_of sr.sub hq
      have a1 : H1 q = some (.dK []) := st1.h q _ upd_same nq
      have a2 : H2 q = some (.dK []) := st2.h q _ a1 nq1
      have b1 : G1 q = none := st1.n q (by rw [upd_same]; simp) hG nq
      have b2 : G2 q = none := st2.n q (by rw [a1]; simp) b1 nq1
      have nq2 : ¬ Ow env' σ q := fun z => (st2.o q z).elim nq1 (by rw [a1]; simp)
      obtain ⟨G3, s3, st3, sb, pd, b3⟩ := frz_off s2 st2 r2 hd (q := q) (by rw [a1]; simp) b2
      refine ⟨a2, [(kk, u)], rfl, by simp, ?_⟩
      refine k G3 _ _ (s3.wr b3 nq2 (by intro ob w z; cases z) a2) (((Step.newH hq).trans (st1.trans st3)).wr hq) ?_
      exact ⟨q, [(kk, u)], rfl, b3, upd_same, .cons ek pd .nil, nq2, hq⟩
    · cases ev
  · cases ev
/-- d[k] = v -/
theorem s_dpt {i : Nat} {x : Str} {q : Pos} (hu : X.A.units + 65 < cLine) (hN : X.N[i]? = some x) (hv : Vis X.env.scope x) (hd : (x == ("__debug__" : Str)) = false) (hcd : (x == ("__classdict__" : Str)) = false)
    (hk : PE X b (tE F C X.K γ ib)) (he : PE X e (tE F C X.K γ ie)) (hs : swapsWith e (some (.Subscript (.Name x q) b pos')) pos.line X.env = pure false) : PS X (.Assign [.Subscript (.Name x q) b pos'] e pos) (tS F C X.K γ (.dpt i ib ie)) := by
  refine PS.weak (ps_dput (by omega) (pe_var hN hv hd hcd) hk he hs) fun D σ H ⟨G, env, fl, h0, sr, ev, k⟩ => ?_
  simp only [evS] at ev
  split at ev
  · cases ev
  rename_i o e1 h1
  split at ev
  · cases ev
  rename_i d hd'
  split at ev
  · rename_i kvs0 h30
    split at ev
    · rename_i p e2 h2
      split at ev
      · rename_i kvs h3
        split at ev
        · rename_i hz
          cases ev
          obtain ⟨hkk, hl⟩ := ands hz
          obtain ⟨kk, ek⟩ := isKey_ok hkk
          refine ⟨G, env, o, e1, sr, h1, fun G1 H1 v s1 st1 r1 => ?_⟩
          obtain ⟨G1', s1', st1', sb, pd, _⟩ := frz_ok s1 st1 r1 hd'
          obtain ⟨l, _, hσ, _⟩ := s1'.dc_at h30
          refine ⟨_, hσ, G1', e1, _, e2, s1', h2, fun G2 H2 u s2 st2 r2 => ?_⟩
          obtain ⟨l', qs, a1, a2, a3, a4, _⟩ := s2.dc_at h3
          rw [hσ] at a1; cases a1
          have r2' : Pu X.K G2 p u := r2
          have eu := keyD_kV r2' ek
          subst eu
          obtain ⟨m1, m2⟩ := s2.mutD h3 hσ (kput_ok ek (pd.mono st2.g) a4)
          exact ⟨l, _, rfl, DPut.k a3 (by rw [← a4.length, sizeLine_eq]; exact blt_lt hl), k _ _ σ m1 ((st1'.trans st2).trans m2)⟩
        · cases ev
      · cases ev
    · cases ev
  · cases ev
end
end Rf

set_option Elab.async false
set_option linter.all false
set_option maxRecDepth 100000
set_option maxHeartbeats 4000000
/-! Rf: len(set(xs)), xs a list of ints. -/
namespace Rf
open PySem PySem.Spec PyProof.Rows L2

theorem dedup_fold : ∀ (ns acc : List Int), dedup acc ns = ns.foldl step_dedup acc
  | [], _ => rfl
  | n :: ns, acc => by
    rw [List.foldl_cons, ← dedup_fold ns]
    rfl
theorem map_getD (ns : List Int) : (List.range ns.length).map (fun i => ns.getD i 0) = ns := by
  apply List.ext_getElem
  · simp
  · intro i h1 h2
    simp [h2]
theorem firstMet_dedup (ns : List Int) : firstMet (fun i => ns.getD i 0) ns.length = dedup [] ns := by
  unfold firstMet
  rw [map_getD, dedup_fold]
theorem dedup_len : ∀ (ns acc : List Int), (dedup acc ns).length ≤ acc.length + ns.length
  | [], acc => by simp [dedup]
  | n :: ns, acc => by
    simp only [dedup]
    have h := dedup_len ns (if acc.any (· == n) then acc else acc ++ [n])
    split at h
    · rename_i q; rw [if_pos q]; simp at h ⊢; omega
    · rename_i q; rw [if_neg q]; simp at h ⊢; omega
section
variable {X : Cx} {F : FT} {C : List D} {γ : Gam} {a : Expr} {ia : IE} {p p2 q pos : Pos}
def tLenD (K : PySem.W.Frag) (ta : TE) : TE := fun σ H Q => ta σ H fun x H1 => ∃ (l : Addr) (ns : List Int), x = .ref l ∧ SqL K H1 l (ns.map V.int) ∧ ns.length ≤ 4000 ∧ Q (.int ((dedup [] ns).length : Nat)) H1
theorem pe_lenD {ta : TE} (hg : Gl X "len") (hm : X.mg "len" = none) (hg2 : Gl X "set") (hm2 : X.mg "set" = none) (ha : PE X a ta) (hc : X.calm = true)
    (na : starEach [a] X.env = (false, eval a X.env) :: starEach [] X.env) : PE X (.Call (.Name "len" p) [.Call (.Name "set" p2) [a] [] q] [] pos) (tLenD X.K ta) := by
  refine ⟨fun pins s σ H Q I h => ?_⟩
  refine Call_ (ld_blt I hg hm boot_len ?_)
  refine PyProof.Rows.callWith_builtin1 (PyProof.Rows.args_cons ?_ rfl) rfl rfl
  refine Call_ (ld_blt I hg2 hm2 boot_set ?_)
  refine PyProof.Rows.callWith_type1 (PyProof.Rows.args_cons (thn (ha.run pins s σ H _ I h) fun v s1 ⟨x, H1, I1, r1, q1⟩ => PyProof.Rows.args_nil ?_) na) na rfl
  obtain ⟨l, ns, rfl, hq, hl, q1⟩ := q1
  cases r1
  obtain ⟨its, r, pl, hz⟩ := I1.list hq
  have hlen : its.toArray.size = ns.length := by rw [List.size_toArray, ← r.length, List.length_map]
  refine call_set_list (I1.ok.hd hc) pl.isList (by simpa using RZ.intsAre_vals r) (by rw [hlen]; unfold scanBound; omega) fun h' tk hS hk => ?_
  refine PyProof.Rows.args_nil ?_
  rw [hlen, firstMet_dedup] at hS
  obtain ⟨o, es, ep, t, ho, hex, hd, _, _, _, hf, hn⟩ := hS
  have I2 : Inv X pins σ H1 { s1 with heap := h', toks := tk } := I1.kept fun b o e => hk b o (Heap.lt_size e) e
  have hle := dedup_len ns []
  exact call_len_set ho hex hd hf (by rw [hn]; simp at hle; omega) ⟨.int (dedup [] ns).length, H1, I2.tok _, ⟨_, by rw [hn]⟩, q1⟩
theorem e_lset (hc : X.calm = true) (hg : Gl X "len") (hm : X.mg "len" = none) (hg2 : Gl X "set") (hm2 : X.mg "set" = none) (hs : notStar a = true) (ha : PE X a (tE F C X.K γ ia)) :
    PE X (.Call (.Name "len" p) [.Call (.Name "set" p2) [a] [] q] [] pos) (tE F C X.K γ (.lset ia)) := by
  refine PE.weak (pe_lenD hg hm hg2 hm2 ha hc (star_cons hs)) fun σ H Q ⟨G, env, o, env', sr, ev, k⟩ => ?_
  simp only [evE] at ev
  split at ev
  · cases ev
  rename_i x e1 h1
  split at ev
  · rename_i xs h2
    split at ev
    · rename_i ns h3
      split at ev
      · rename_i hz
        cases ev
        refine ⟨G, env, x, _, sr, h1, fun G1 H1 v s1 st1 r1 => ?_⟩
        obtain ⟨l, ys, rfl, hl, pl⟩ := (rds_ok s1 r1 h2).list s1.sub rfl
        have e := ints_ok pl h3
        subst e
        exact ⟨l, ns, rfl, hl, Nat.le_of_ble_eq_true hz, k.pu s1 st1 (.int _)⟩
      · cases ev
    · cases ev
  · cases ev
end
end Rf

set_option Elab.async false
set_option linter.all false
set_option maxRecDepth 100000
set_option maxHeartbeats 4000000
/-! Rf: a comprehension over a list of one's own, which stays so. -/
namespace Rf
open PySem PySem.Spec PyProof.Rows L2

def offG (G : Hp) (a : Addr) : Hp := fun b => if b = a then none else G b
theorem offG_ne {G : Hp} {a b : Addr} (h : b ≠ a) : offG G a b = G b := by unfold offG; rw [if_neg h]
theorem offG_eq {G : Hp} {a : Addr} : offG G a a = none := by unfold offG; rw [if_pos rfl]
section
variable {K : PySem.W.Frag} {G : Hp} {a : Addr} {ys0 : List V}
mutual
theorem Pu.off (h : G a = some (.lst ys0)) : ∀ {d : D} {v : V}, scl d = true → Pu K G d v → Pu K (offG G a) d v
  | _, _, _, .non => .non
  | _, _, _, .bl b => .bl b
  | _, _, _, .int i => .int i
  | _, _, _, .str x => .str x
  | _, _, z, .lst _ _ => by simp only [scl] at z; cases z
  | _, _, z, .tup e r => by
    refine .tup ?_ (PuA.off h (by simpa only [scl] using z) r)
    rcases e with (e | ⟨o, e⟩) | e
    · refine .inl (.inl ?_)
      rw [offG_ne (fun q => by subst q; rw [h] at e; cases e)]; exact e
    · refine .inl (.inr ⟨o, ?_⟩)
      rw [offG_ne (fun q => by subst q; rw [h] at e; cases e)]; exact e
    · exact .inr e
  | _, _, z, .dic _ _ => by simp only [scl] at z; cases z
theorem PuA.off (h : G a = some (.lst ys0)) : ∀ {ds : List D} {vs : List V}, scls ds = true → PuA K G ds vs → PuA K (offG G a) ds vs
  | _, _, _, .nil => .nil
  | _, _, z, .cons p q => by
    simp only [scls, Bool.and_eq_true] at z
    exact .cons (Pu.off h z.1 p) (PuA.off h z.2 q)
end
end
theorem mskE_get {env : Ev} {i j : Nat} {xs : List D} {sl : Sl} (h : (mskE env i xs)[j]? = some sl) : (j = i ∧ sl = .val (.list xs)) ∨ (j ≠ i ∧ ∃ s0, env[j]? = some s0 ∧ sl = mskS s0) := by
  unfold mskE at h
  rcases get_set h with ⟨e1, e2⟩ | ⟨ne, h⟩
  · exact .inl ⟨e1, e2⟩
  · rw [List.getElem?_map] at h
    obtain ⟨s0, q1, q2⟩ := Option.map_eq_some_iff.mp h
    exact .inr ⟨ne, s0, q1, q2.symm⟩
theorem msk_no {env : Ev} {σ : L2.St} {i : Nat} {xs : List D} {b : Addr} : ¬ Ow (mskE env i xs) σ b := fun ⟨j, ⟨t, e, io⟩, _⟩ => by
  rcases mskE_get e with ⟨_, q⟩ | ⟨_, s0, _, q⟩
  · subst q; cases io
  · subst q
    cases s0 <;> cases io
section
variable {K : PySem.W.Frag} {γ : Gam} {G H G2 H2 : Hp} {env : Ev} {σ : L2.St}
theorem Sr.lend (s : Sr K γ G H env σ) {i t : Nat} {xs : List D} (e : env[i]? = some (.own t xs)) : ∃ a ys, σ[i]? = some (some (.ref a)) ∧ G a = none ∧ H a = some (.lst ys) ∧ PuA K G xs ys ∧ Ow env σ a ∧
    Sr K γ (upd G a (.lst ys)) H (mskE env i xs) σ ∧ Step (Ow env σ) G H (Ow (mskE env i xs) σ) (upd G a (.lst ys)) H := by
  obtain ⟨a, ys, h1, h2, h3, h4, h5⟩ := s.ow_at e
  have sb := sub_tell (o := .lst ys) h2
  refine ⟨a, ys, h1, h2, h3, h4, ⟨i, h5⟩, ⟨fun b u q => ?_, ?_, fun j sl q => ?_, fun j j' b q _ => (msk_no ⟨j, q⟩).elim⟩, ?_⟩
  · by_cases z : b = a
    · subst z; rw [upd_same] at q; cases q; exact h3
    · rw [upd_ne z] at q; exact s.sub _ _ q
  · unfold mskE
    rw [List.length_set, List.length_map]; exact s.len
  · rcases mskE_get q with ⟨e1, e2⟩ | ⟨_, s0, e1, e2⟩
    · subst e1; subst e2
      exact ⟨.ref a, h1, .lst upd_same (h4.mono sb)⟩
    · subst e2
      have w := s.slot j s0 e1
      cases s0 with
      | emp => trivial
      | val d =>
        obtain ⟨v, w1, w2⟩ := w
        exact ⟨v, w1, w2.mono sb⟩
      | own u zs => trivial
      | dic zs => trivial
      | scr u zs =>
        obtain ⟨b, ws, w1, w2, w3⟩ := w
        exact ⟨b, ws, w1, w2, w3.mono sb⟩
  · exact (Step.refl (O := Ow env σ)).tell (.inr ⟨i, h5⟩) h2 |>.sub fun b q => (msk_no q).elim
/-- .. and given back -/
theorem Sr.unlend (s : Sr K γ G H env σ) {i t : Nat} {xs : List D} {a : Addr} {ys : List V} (e : env[i]? = some (.own t xs)) (h1 : σ[i]? = some (some (.ref a))) (h2 : G a = none) (h3 : H a = some (.lst ys)) (own : List Nat)
    (sb : Sub G2 H2) {O : Addr → Prop} (st : Step (Ow (mskE env i xs) σ) (upd G a (.lst ys)) H O G2 H2) :
    Sr K γ (offG G2 a) H2 (backE env env own) σ ∧ Step (Ow env σ) G H (Ow (backE env env own) σ) (offG G2 a) H2 := by
  have own1 : OwnAt env σ i a := ⟨⟨_, e, rfl⟩, h1⟩
  have g2 : G2 a = some (.lst ys) := st.g _ _ upd_same
  have gs : Sub G (offG G2 a) := fun b u q => by
    have ne : b ≠ a := fun z => by subst z; rw [h2] at q; cases q
    rw [offG_ne ne]
    exact st.g _ _ (by rw [upd_ne ne]; exact q)
  have back : ∀ {j b}, OwnAt (backE env env own) σ j b → OwnAt env σ j b := fun {j b} ⟨⟨u, q, io⟩, h⟩ => by
    rcases backE_get q with ⟨_, z⟩ | ⟨_, z⟩
    · unfold valOnly at z
      split at z <;> (subst z; cases io)
    · exact ⟨⟨u, z, io⟩, h⟩
  have keep : ∀ {b u}, H b = some u → G b = none → offG G2 a b = none ∧ H2 b = some u := fun {b u} q1 q2 => by
    by_cases z : b = a
    · subst z
      rw [h3] at q1; cases q1
      exact ⟨offG_eq, sb _ _ g2⟩
    · rw [offG_ne z]
      exact ⟨st.n b (by rw [q1]; simp) (by rw [upd_ne z]; exact q2) msk_no, st.h b u q1 msk_no⟩
  refine ⟨⟨fun b u q => ?_, by rw [backE_len]; exact s.len, fun j sl q => ?_, fun j j' b q q' => s.inj j j' b (back q) (back q')⟩, ⟨gs, fun b u q n => ?_, fun b q1 q2 n => ?_, st.f, fun b ⟨j, q⟩ => .inl ⟨j, back q⟩⟩⟩
  · by_cases z : b = a
    · subst z; rw [offG_eq] at q; cases q
    · rw [offG_ne z] at q; exact sb _ _ q
  · have go : ∀ {sl : Sl}, SlotR K γ G H (σ[j]?) sl → SlotR K γ (offG G2 a) H2 (σ[j]?) sl := fun {sl} w => by
      cases sl with
      | emp => trivial
      | val d =>
        obtain ⟨v, w1, w2⟩ := w
        exact ⟨v, w1, w2.mono gs⟩
      | own u zs =>
        obtain ⟨b, ws, w1, w2, w3, w4, w5⟩ := w
        obtain ⟨k1, k2⟩ := keep w3 w2
        exact ⟨b, ws, w1, k1, k2, w4.mono gs, w5⟩
      | dic zs =>
        obtain ⟨b, ws, w1, w2, w3, w4, w5⟩ := w
        obtain ⟨k1, k2⟩ := keep w3 w2
        exact ⟨b, ws, w1, k1, k2, w4.mono gs, w5⟩
      | scr u zs =>
        obtain ⟨b, ws, w1, w2, w3⟩ := w
        refine ⟨b, ws, w1, ?_, w3.mono gs⟩
        rcases w2 with ⟨o, w2⟩ | w2
        · exact .inl ⟨o, st.h b _ w2 msk_no⟩
        · exact .inr w2
    rcases backE_get q with ⟨_, z⟩ | ⟨_, z⟩
    · subst z
      unfold valOnly
      split
      · rename_i d hd
        exact go (s.slot j _ hd)
      · trivial
    · exact go (s.slot j sl z)
  · exact st.h b u q msk_no
  · have z : b ≠ a := fun z => by subst z; exact n ⟨_, own1⟩
    rw [offG_ne z]
    exact st.n b q1 (by rw [upd_ne z]; exact q2) msk_no
end
section
variable {X : Cx} {F : FT} {C : List D} {γ : Gam}
theorem lw_red {i : Nat} {elt : IE} {tg : IT} {cd : IO} {own : List Nat} {σ : L2.St} {H : Hp} {Q : VK} (h : tE F C X.K γ (.lw i elt tg cd own) σ H Q) : tE F C X.K γ (.lc elt tg (.it (.var i)) cd own) σ H Q := by
  obtain ⟨G, env, o, env', sr, ev, k⟩ := h
  simp only [evE] at ev
  split at ev
  · rename_i t xs q
    obtain ⟨a, ys, h1, h2, h3, h4, h5, s1, st1⟩ := sr.lend q
    cases hL : lcLoop (fun d e => asgT F C tg d e) (fun e => evD F C cd e) (fun e => frzE (evE F C elt e)) own xs (wipeE (mskE env i xs) own) with
    | none => rw [hL] at ev; cases ev
    | some p =>
      obtain ⟨zs, e2⟩ := p
      rw [hL] at ev
      simp only [lwV] at ev
      split at ev
      · rename_i hz
        obtain ⟨hz, hs⟩ := ands hz
        cases ev
        have hlt : i < env.length := (List.getElem?_eq_some_iff.mp q).1
        have hv : (mskE env i xs)[i]? = some (.val (.list xs)) := by
          unfold mskE
          rw [List.getElem?_set_self (by rw [List.length_map]; exact hlt)]
        have hI : evI F C (.it (.var i)) (mskE env i xs) = some (xs, mskE env i xs) := by
          rw [evI, evE, hv]; rfl
        refine ⟨_, _, .fr zs, backE (mskE env i xs) e2 own, s1, ?_, fun G' H' x s' st' r' => ?_⟩
        · rw [evE, hI]
          simp only [lcV, hL, hz, if_true]
        · obtain ⟨l, ws, rfl, r1, r2, r3, r4, r5⟩ := r'
          obtain ⟨s2, st2⟩ := sr.unlend q h1 h2 h3 own s'.sub st'
          have g2 : G' a = some (.lst ys) := st'.g _ _ upd_same
          have nl : l ≠ a := fun z => by subst z; rw [g2] at r1; cases r1
          have now : ¬ Ow (backE env env own) σ l := fun z => by
            rcases st2.o l z with y | y
            · obtain ⟨_, u, y2⟩ := sr.ow_some y
              rw [r5] at y2; cases y2
            · obtain ⟨_, u, y2⟩ := s2.ow_some z
              obtain ⟨j, ⟨sl, w1, w2⟩, w3⟩ := z
              have := sr.ow_some (a := l) ⟨j, by
                rcases backE_get w1 with ⟨_, w⟩ | ⟨_, w⟩
                · unfold valOnly at w
                  split at w <;> (subst w; cases w2)
                · exact ⟨⟨sl, w, w2⟩, w3⟩⟩
              obtain ⟨_, u', y3⟩ := this
              rw [r5] at y3; cases y3
          exact k _ _ _ s2 st2 ⟨l, ws, rfl, by rw [offG_ne nl]; exact r1, r2, r3.off g2 hs, now, r5⟩
      · cases ev
  · cases ev
end
end Rf

set_option Elab.async false
set_option linter.all false
set_option maxRecDepth 100000
set_option maxHeartbeats 8000000
/-! Rf: sorted(set(xs)), xs a list of ints. -/
namespace PySem
open PyProof.Rows
abbrev rfSo (w : World) : Obj := { cls := .type "set", dict := none, data := .set #[] 0 (.fresh 0 0 (!w.params.followText "set-order")) }
section
variable {P : Program} {w : World} {A : Around} {E : Value → Shared → Prop} {s : Shared}
theorem rf_set_list {l : Addr} {xs : Array Value} (ms : List Int) {Q : Value → Shared → Prop} (hn : A.handled = none) (hL : s.heap.IsList l xs) (hX : IntsAre xs.toList ms) (hB : ms.length + 1 < scanBound)
    (fin : ∀ (g : Heap) (tk c : Nat), L2.SetR w g s.heap.objs.size (fun j => decide (j ∈ ms)) c → c ≤ ms.length → (∀ b o, s.heap.get? b = some o → g.get? b = some o) → Q (.ref s.heap.objs.size) { s with heap := g, toks := tk }) :
    wpAny (model P w) A (call (.type "set") [.ref l]) Q E s := by
  have hsz : xs.size = ms.length := (Array.length_toList (xs := xs)).symm.trans (IntsAre.length hX)
  obtain ⟨c, tl, m1⟩ := F.called_set.mro
  have m2 := F.called_set.made; have m3 := F.called_set.sub
  refine wpAny_call (codeAny_of_tree ?_); show wpAny _ _ (callAny (.type "set") _) _ _ _
  refine wpAny_pure ⟨Code.quiet_builtin _ (by decide +kernel), codeAny_builtin F.entry_type_call ?_⟩; rw [Around.under_plain (weight_type_call_type "set" [.ref l] []) rfl]
  have n1 := F.called_set.notType; have n2 := F.called_set.canCreate; have n3 := F.typeCall_set_1 (.ref l)
  repeat (any_goals (first | assumption | wp_step))
  refine codeAny_mono (L2.code_set_led1 (.ref l) (E := E) (Q₁ := fun u t => u = .ref s.heap.objs.size ∧ t = { s with heap := s.heap.push (rfSo w) }) ⟨rfl, rfl⟩) fun r t hr => ?_
  cases r with
  | error e => exact hr
  | ok fl =>
    cases fl with
    | ret u =>
      obtain ⟨rfl, rfl⟩ := hr
      have hS : (s.heap.push (rfSo w)).get? s.heap.objs.size = some (rfSo w) := Heap.get?_push_size _ rfl
      have hT : Shared.TypeIs { s with heap := s.heap.push (rfSo w) } (.ref s.heap.objs.size) "set" := ⟨_, hS, rfl⟩
      have i1 := F.called_set.init.lookup; have i2 := F.called_set.init.bind (.ref s.heap.objs.size)
      repeat (any_goals (first | assumption | wp_step))
      refine codeAny_mono (codeAny_call_builtin (R := wants (fun r t => r = .none ∧ ∃ g tk c, t = { s with heap := g, toks := tk } ∧ L2.SetR w g s.heap.objs.size (fun j => decide (j ∈ ms)) c ∧ c ≤ ms.length ∧ (∀ b o, s.heap.get? b = some o → g.get? b = some o)) E)
        F.called_set.init.plain F.entry_set_init (check_set_init_1 hT ?_)) fun r2 t2 hr2 => ?_
      · obtain ⟨ol, ho, hc, nl, hd⟩ := hL
        obtain ⟨oc, od, oda, osl⟩ := ol
        simp only at hc hd; subst hc; subst hd
        have ho' : (s.heap.push (rfSo w)).get? l = some { cls := .type "list", dict := od, data := .seq xs nl, slots := osl } := Heap.get?_push_of_some _ ho
        have b1 := F.sub_list_set; have b2 := F.sub_list_frozenset; have b3 : (Value.type "list" == Value.type "dict") = false := by decide
        have hl1 : (s.heap.push (rfSo w)).IsList l xs := ⟨_, ho', rfl, nl, rfl⟩
        unfold Builtin.«set.__init__» noKeywords Builtin.Frozenset.updateFrom
        generalize hPI : pyIter = PI; wp_walk; subst hPI
        refine wpAny_pyIter_list hl1 (wpAny_bind (wpAny_runValue ?_))
        have lS : l < s.heap.objs.size := Heap.lt_size ho
        have z1 : (s.heap.push (rfSo w)).objs.size = s.heap.objs.size + 1 := Heap.size_push ..
        have neI : l ≠ (s.heap.push (rfSo w)).objs.size := by rw [z1]; exact Nat.ne_of_lt (Nat.lt_succ_of_lt lS)
        have nf : s.heap.objs.size ∉ [(s.heap.push (rfSo w)).objs.size, l] := by
          rw [z1]; simp only [List.mem_cons, List.not_mem_nil, or_false, not_or]
          exact ⟨Nat.ne_of_lt (Nat.lt_succ_self _), Nat.ne_of_gt lS⟩
        have val : ∀ (i : Nat) (v : Value), xs[i]? = some v → ∃ k t, ms[i]? = some k ∧ v = .int k t := fun i v hv => by
          have hi : i < ms.length := by rw [← hsz]; exact (Array.getElem?_eq_some_iff.mp hv).1
          obtain ⟨t, e⟩ := IntsAre.int_at hX i v (by rw [Array.getElem?_toList]; exact hv)
          refine ⟨ms[i], t, List.getElem?_eq_getElem hi, ?_⟩
          rw [e, List.getD_eq_getElem?_getD, List.getElem?_eq_getElem hi]; rfl
        refine L2.set_update_ints ((Walks.list (by simp [hn]) _ l neI xs).toS) s.heap.objs.size nf ms hsz hB val (xs.size - 0) 0 _ (by omega) (Nat.zero_le _) ⟨⟨_, Heap.get?_push_size _ rfl, rfl, rfl⟩, (hl1.push _)⟩ ?zS ?zR
        case zS => exact ⟨0, Nat.le_refl 0, L2.setR_new_at (Heap.get?_push_of_some _ hS)⟩
        case zR =>
          intro t' c' hm hc' hS'
          obtain ⟨g, g2, d2, tk2, os2⟩ := t'
          have e1 : g2 = s.gens := hm.gens
          have e2 : d2 = s.drawn := hm.drawn
          have e3 : os2 = s.os := hm.os
          subst e1; subst e2; subst e3
          show wpAny _ _ _ _ _ _
          refine wpAny_pure ?_; show wpAny _ _ (ret Value.none) _ _ _
          rw [hsz] at hc'
          refine wpAny_pure ⟨rfl, g, tk2, c', rfl, hS', hc', fun b o e => ?_⟩
          have l0 : b < s.heap.objs.size := Heap.lt_size e
          exact hm.heap b o (by simp only [List.mem_cons, List.not_mem_nil, or_false, not_or]; exact ⟨Nat.ne_of_lt l0, by rw [z1]; exact Nat.ne_of_lt (Nat.lt_succ_of_lt l0)⟩) (Heap.get?_push_of_some _ (Heap.get?_push_of_some _ e))
      · cases r2 with
        | error e => exact hr2
        | ok f2 =>
          cases f2 with
          | ret r =>
            obtain ⟨rfl, g, tk, c', rfl, hS', hc', hk'⟩ := hr2
            repeat (any_goals (first | assumption | wp_step))
            exact fin _ _ _ hS' hc' hk'
          | _ => exact hr2.elim
    | _ => exact hr.elim
end
end PySem
namespace Rf
open PySem PySem.Spec PyProof.Rows L2
theorem dedup_mem : ∀ (ns acc : List Int) (k : Int), k ∈ dedup acc ns ↔ k ∈ acc ∨ k ∈ ns
  | [], acc, k => by simp [dedup]
  | n :: ns, acc, k => by
    rw [dedup, dedup_mem ns]
    by_cases h : acc.any (· == n) = true
    · rw [if_pos h]
      have hn : n ∈ acc := by
        obtain ⟨x, h1, h2⟩ := List.any_eq_true.mp h
        rw [beq_iff_eq] at h2; subst h2; exact h1
      constructor
      · rintro (z | z)
        · exact .inl z
        · exact .inr (List.mem_cons_of_mem _ z)
      · rintro (z | z)
        · exact .inl z
        · rcases List.mem_cons.mp z with rfl | z
          · exact .inl hn
          · exact .inr z
    · rw [if_neg h]
      simp only [List.mem_append, List.mem_cons, List.not_mem_nil, or_false]
      constructor
      · rintro ((z | z) | z)
        · exact .inl z
        · exact .inr (.inl z)
        · exact .inr (.inr z)
      · rintro (z | z | z)
        · exact .inl (.inl z)
        · exact .inl (.inr z)
        · exact .inr z
theorem dedup_nodup : ∀ (ns acc : List Int), acc.Nodup → (dedup acc ns).Nodup
  | [], acc, h => h
  | n :: ns, acc, h => by
    rw [dedup]
    refine dedup_nodup ns _ ?_
    split
    · exact h
    · rename_i q
      rw [List.nodup_append]
      refine ⟨h, by simp, fun a ha b hb e => q ?_⟩
      simp at hb
      exact List.any_eq_true.mpr ⟨a, ha, by rw [e, hb]; simp⟩
theorem sins_sorted {x : Int} : ∀ {l : List Int}, x ∉ l → l.Pairwise (· < ·) → (ins (fun a b : Int => decide (a ≤ b)) x l).Pairwise (· < ·) ∧ ∀ y, y ∈ ins (fun a b : Int => decide (a ≤ b)) x l ↔ y = x ∨ y ∈ l
  | [], _, _ => by simp [ins]
  | y :: l, hx, h => by
    obtain ⟨h1, h2⟩ := List.pairwise_cons.mp h
    simp only [List.mem_cons, not_or] at hx
    simp only [ins]
    split
    · rename_i q
      have q := of_decide_eq_true q
      refine ⟨List.pairwise_cons.mpr ⟨fun z hz => ?_, h⟩, fun z => by simp⟩
      rcases List.mem_cons.mp hz with rfl | hz
      · have := hx.1; omega
      · have := h1 z hz; omega
    · rename_i q
      have q : ¬ x ≤ y := fun z => q (decide_eq_true z)
      obtain ⟨i1, i2⟩ := sins_sorted hx.2 h2
      refine ⟨List.pairwise_cons.mpr ⟨fun z hz => ?_, i1⟩, fun z => ?_⟩
      · rcases (i2 z).mp hz with rfl | hz
        · omega
        · exact h1 z hz
      · simp only [List.mem_cons, i2]
        constructor
        · rintro (a | a | a)
          · exact .inr (.inl a)
          · exact .inl a
          · exact .inr (.inr a)
        · rintro (a | a | a)
          · exact .inr (.inl a)
          · exact .inl a
          · exact .inr (.inr a)
theorem sisort_sorted : ∀ {l : List Int}, l.Nodup → (isort (fun a b : Int => decide (a ≤ b)) l).Pairwise (· < ·) ∧ ∀ y, y ∈ isort (fun a b : Int => decide (a ≤ b)) l ↔ y ∈ l
  | [], _ => by simp [isort]
  | x :: l, h => by
    obtain ⟨h1, h2⟩ := List.nodup_cons.mp h
    obtain ⟨i1, i2⟩ := sisort_sorted h2
    obtain ⟨j1, j2⟩ := sins_sorted (x := x) (fun z => h1 ((i2 x).mp z)) i1
    exact ⟨j1, fun y => by rw [isort, j2, i2]; simp⟩
theorem sset_one {l r : List Int} (hl : l.Pairwise (· < ·)) (hr : r.Pairwise (· < ·)) (h : ∀ x, x ∈ l ↔ x ∈ r) : l = r := by
  induction l generalizing r with
  | nil =>
    cases r with
    | nil => rfl
    | cons y r => have := (h y).mpr (by simp); simp at this
  | cons x l ih =>
    cases r with
    | nil => have := (h x).mp (by simp); simp at this
    | cons y r =>
      obtain ⟨l1, l2⟩ := List.pairwise_cons.mp hl
      obtain ⟨r1, r2⟩ := List.pairwise_cons.mp hr
      have e : x = y := by
        rcases List.mem_cons.mp ((h x).mp (by simp)) with e | hx
        · exact e
        · rcases List.mem_cons.mp ((h y).mpr (by simp)) with e | hy
          · exact e.symm
          · have := r1 x hx; have := l1 y hy; omega
      subst e
      refine congrArg _ (ih l2 r2 fun z => ⟨fun hz => ?_, fun hz => ?_⟩)
      · rcases List.mem_cons.mp ((h z).mp (by simp [hz])) with e | q
        · have := l1 z hz; omega
        · exact q
      · rcases List.mem_cons.mp ((h z).mpr (by simp [hz])) with e | q
        · have := r1 z hz; omega
        · exact q
theorem boot_sorted : bootBuiltins "sorted" = some (.builtin "sorted") := by decide +kernel
section
variable {X : Cx} {F : FT} {C : List D} {γ : Gam} {a : Expr} {ia : IE} {p p2 q pos : Pos}
def tSrtD (K : PySem.W.Frag) (ta : TE) : TE := fun σ H Q => ta σ H fun x H1 => ∃ (l : Addr) (ns : List Int), x = .ref l ∧ SqL K H1 l (ns.map V.int) ∧ ns.length ≤ 60 ∧
  ∀ p, H1 p = none → Q (.ref p) (upd H1 p (.lst ((isort (fun a b : Int => decide (a ≤ b)) (dedup [] ns)).map V.int)))
theorem pe_srtD {ta : TE} (hg : Gl X "sorted") (hm : X.mg "sorted" = none) (hg2 : Gl X "set") (hm2 : X.mg "set" = none) (ha : PE X a ta) (hc : X.calm = true)
    (na : starEach [a] X.env = (false, eval a X.env) :: starEach [] X.env) : PE X (.Call (.Name "sorted" p) [.Call (.Name "set" p2) [a] [] q] [] pos) (tSrtD X.K ta) := by
  refine ⟨fun pins s σ H Q I h => ?_⟩
  refine Call_ (ld_blt I hg hm boot_sorted ?_)
  refine PyProof.Rows.callWith_builtin1 (PyProof.Rows.args_cons ?_ rfl) rfl rfl
  refine Call_ (ld_blt I hg2 hm2 boot_set ?_)
  refine PyProof.Rows.callWith_type1 (PyProof.Rows.args_cons (thn (ha.run pins s σ H _ I h) fun v s1 ⟨x, H1, I1, r1, q1⟩ => PyProof.Rows.args_nil ?_) na) na rfl
  obtain ⟨l, ns, rfl, hq, hl, q1⟩ := q1
  cases r1
  obtain ⟨its, r, pl, hz⟩ := I1.list hq
  refine rf_set_list ns (I1.ok.hd hc) pl.isList (by simpa using RZ.intsAre_vals r) (by unfold scanBound; omega) fun h' tk c R hcn hk => ?_
  refine PyProof.Rows.args_nil ?_
  have I2 : Inv X pins σ H1 { s1 with heap := h', toks := tk } := I1.kept fun b o e => hk b o e
  refine sorted_set R (I2.ok.hd hc) (by omega) fun s' p out c2 ms k g o hp hgt hi hs hmm hll => ?_
  obtain ⟨d1, d2⟩ := sisort_sorted (dedup_nodup ns [] List.nodup_nil)
  have em : ms = isort (fun a b : Int => decide (a ≤ b)) (dedup [] ns) := sset_one hs d1 fun x => by
    rw [hmm x, d2, dedup_mem]
    simp
  have hlen : (ms.map V.int).length ≤ sizeLine := by rw [List.length_map, hll, sizeLine_eq]; omega
  have hn : H1 p = none := I2.hok.fresh hp
  have J : Inv X pins σ (upd H1 p (.lst (ms.map V.int))) { ({ s1 with heap := h', toks := tk } : Shared) with heap := s'.heap, gens := s'.gens, drawn := s'.drawn, toks := s'.toks } :=
    I2.call (ch := []) (Un.laid k hp hn) (I2.hok.laid k hp ⟨hlen, out.toList, c2, vals_of_ints hi, hgt⟩) (by rw [g]; exact I2.bare) (fun _ z => nomatch z)
  have e : s' = { ({ s1 with heap := h', toks := tk } : Shared) with heap := s'.heap, gens := s'.gens, drawn := s'.drawn, toks := s'.toks } := by
    cases s'
    cases s1
    cases o
    rfl
  rw [e]
  exact ⟨.ref p, _, J, rfl, by rw [em]; exact q1 p hn⟩
theorem e_sset (hc : X.calm = true) (hg : Gl X "sorted") (hm : X.mg "sorted" = none) (hg2 : Gl X "set") (hm2 : X.mg "set" = none) (hs : notStar a = true) (ha : PE X a (tE F C X.K γ ia)) :
    PE X (.Call (.Name "sorted" p) [.Call (.Name "set" p2) [a] [] q] [] pos) (tE F C X.K γ (.sset ia)) := by
  refine PE.weak (pe_srtD hg hm hg2 hm2 ha hc (star_cons hs)) fun σ H Q ⟨G, env, o, env', sr, ev, k⟩ => ?_
  simp only [evE] at ev
  split at ev
  · cases ev
  rename_i x e1 h1
  split at ev
  · rename_i xs h2
    split at ev
    · rename_i ns h3
      split at ev
      · rename_i hz
        cases ev
        refine ⟨G, env, x, _, sr, h1, fun G1 H1 v s1 st1 r1 => ?_⟩
        obtain ⟨l, ys, rfl, hl, pl⟩ := (rds_ok s1 r1 h2).list s1.sub rfl
        have e := ints_ok pl h3
        subst e
        refine ⟨l, ns, rfl, hl, Nat.le_of_ble_eq_true hz, fun p hp => ?_⟩
        have pu : ∀ ms : List Int, PuA X.K G1 (ms.map PyData.int) (ms.map V.int) := fun ms => by
          induction ms with
          | nil => exact .nil
          | cons m ms ih => exact .cons (.int m) ih
        refine k _ _ _ (s1.newH hp) (st1.trans (Step.newH hp)) ⟨p, _, rfl, none_of s1.sub hp, upd_same, pu _, no_ow s1 hp, st1.fb p hp⟩
      · cases ev
    · cases ev
  · cases ev
end
end Rf

set_option Elab.async false
set_option linter.all false
set_option maxRecDepth 100000
set_option maxHeartbeats 40000000
/-! Rf: what the checker lets through means what it says: expressions. -/
namespace Rf
open PySem PySem.Spec PyProof.Rows L2

def isBo : Expr → Bool
  | .BoolOp .. => true
  | _ => false
def isLc : Expr → Bool
  | .ListComp .. => true
  | _ => false
structure Snd (X : Cx) (F : FT) (C : List D) (γ : Gam) (e : Expr) (ie : IE) : Prop where
  pe : PE X e (tE F C X.K γ ie)
  pt : PT X e (tT F C X.K γ ie)
  pw : isBo e = true → PW X e (tT F C X.K γ ie)
  set : isLc e = true → ∀ {i : Nat} {y : Str} {py spos : Pos}, X.N[i]? = some y → X.env.scope.names.lookup y = some .local → swapsWith e (some (.Name y py)) spos.line X.env = pure true → PS X (.Assign [.Name y py] e spos) (tAsg (tE F C X.K γ ie) (gName i))
theorem Snd.plain {X : Cx} {F : FT} {C : List D} {γ : Gam} {e : Expr} {ie : IE} (pe : PE X e (tE F C X.K γ ie)) (he : ∀ whole, isTrue e X.env whole = (do let v ← whole; standAt e.pos; holding [v] (truthy v))) (nb : isBo e = false) (nl : isLc e = false) : Snd X F C γ e ie :=
  ⟨pe, pt_plain pe he, fun h => by (rw [nb] at h; cases h), fun h => by rw [nl] at h; cases h⟩
theorem XOk.blk {pg : Pg} {k : Nat} {c : SC} {X : Cx} (h : XOk pg k c X) (scope : Scope) (s : Shared) (H : Hp) (Ca : Addr) (cl : List (Str × Addr)) (fp : List Addr) : XOk pg k (blkSC c scope) (X.blk s H scope (compEnvC scope cl Ca X.env) fp) :=
  ⟨h.N, h.nd, by show relS scope X.env.scope = _; rw [h.sc]; rfl, rfl, h.calm, h.room, h.gds, h.pg⟩
theorem own_ix (c : SC) (own : List Nat) : (ownN c own).map (·.2) = own := by
  unfold ownN
  rw [List.map_map]
  show own.map (fun i => i) = own
  simp
theorem gcd_mg {pg : Pg} {k : Nat} {c : SC} {X : Cx} (h : XOk pg k c X) {b : Blt} {x : Str} (e : (match b with | .gcd2 => pg.gcd | _ => pg.bn.contains x) = true) : if b = .gcd2 then X.mg "gcd" = some (.builtin "math.gcd") else X.mg x = none := by
  by_cases q : b = .gcd2
  · subst q
    rw [if_pos rfl]
    exact h.pg.gcd e
  · rw [if_neg q]
    refine h.pg.bn x ?_
    cases b <;> first | exact absurd rfl q | simpa using e
theorem rg_of {X : Cx} {F : FT} {C : List D} {γ : Gam} {a b : Expr} : True := trivial

theorem XOk.T {pg : Pg} {k : Nat} {c : SC} {X : Cx} (h : XOk pg k c X) {f : Nat} {x : Str} (e : fnB pg c f x = true) : ∃ ps fn a fd, Gl X x ∧ (x == ("__debug__" : Str)) = false ∧ pg.fns[f]? = some (x, ps, fn) ∧ X.mg x = some (.ref a) ∧ PySem.W.keepIn X.K (.ref a) = true ∧ fn.np = ps.length ∧ BindG pg.kws X.K f fd ps ∧ FnG X.prog X.w X.K X.mg X.base k a fd ps (spF X.K (pg.F k) f ps.length) := by
  unfold fnB at e
  obtain ⟨e1, e2⟩ := ands e
  obtain ⟨g1, g2, _⟩ := h.gl e1
  split at e2
  · rename_i y ps fn q
    have hx : x = y := of_decide_eq_true e2
    subst hx
    obtain ⟨a, fd, h1, h2, h3, h4, h5⟩ := h.pg.fns f x ps fn q
    exact ⟨ps, fn, a, fd, g1, g2, q, h1, h2, h3, h4, h5⟩
  · cases e2
theorem stars_of {pg : Pg} {c : SC} : ∀ {ies : IEs} {es : List Expr}, chkEs pg c ies es = true → noStars es = true ∧ (es = [] → ies = .nil)
  | .nil, [], _ => ⟨rfl, fun _ => rfl⟩
  | .nil, _ :: _, h => by simp [chkEs] at h
  | .cons _ _, [], h => by simp [chkEs] at h
  | .cons ie r, e :: es, h => by
    simp only [chkEs] at h
    obtain ⟨h1, h2⟩ := ands h
    obtain ⟨h0, h1⟩ := ands h1
    exact ⟨by simp [noStars, h0, (stars_of h2).1], fun z => nomatch z⟩
variable {pg : Pg} {k : Nat} {γ : Gam}
mutual
theorem sndE : ∀ (ie : IE) {c : SC} {X : Cx} {e : Expr}, XOk pg k c X → chkE pg c ie e = true → Snd X (pg.F k) pg.C γ e ie
  | .var i, c, X, e, hX, h => by
    simp only [chkE] at h
    split at h
    · obtain ⟨h1, h2, h3, h4⟩ := slotB_of h
      rw [← hX.N] at h1; rw [← hX.sc] at h2
      exact Snd.plain (e_var h1 h2 h3 h4) (fun _ => rfl) rfl rfl
    · cases h
  | .frz i, c, X, e, hX, h => by
    simp only [chkE] at h
    split at h
    · obtain ⟨h1, h2, h3, h4⟩ := slotB_of h
      rw [← hX.N] at h1; rw [← hX.sc] at h2
      exact Snd.plain (e_frz h1 h2 h3 h4) (fun _ => rfl) rfl rfl
    · cases h
  | .cst d, c, X, e, hX, h => by
    simp only [chkE] at h
    split at h
    · exact Snd.plain (e_cst h) (fun _ => rfl) rfl rfl
    · cases h
  | .glo n, c, X, e, hX, h => by
    simp only [chkE] at h
    split at h
    · obtain ⟨h1, h2⟩ := ands h
      obtain ⟨g1, g2, _⟩ := hX.gl h1
      split at h2
      · rename_i y d q
        have hx := of_decide_eq_true h2
        subst hx
        obtain ⟨v, u, m1, m2, m3⟩ := hX.pg.gl n _ _ q
        have hC : pg.C[n]? = some d := by
          show (pg.gl.map (·.2))[n]? = some d
          rw [List.getElem?_map, q]; rfl
        exact Snd.plain (e_glo hC g1 m1 m2 m3 g2) (fun _ => rfl) rfl rfl
      · cases h2
    · cases h
  | .bin o a b, c, X, e, hX, h => by
    simp only [chkE] at h
    split at h
    · obtain ⟨h12, h3⟩ := ands h
      obtain ⟨h1, h2⟩ := ands h12
      exact Snd.plain (e_bin h1 (sndE a hX h2).pe (sndE b hX h3).pe) (fun _ => rfl) rfl rfl
    · cases h
  | .neg a, c, X, e, hX, h => by
    simp only [chkE] at h
    split at h
    · exact Snd.plain (e_neg (sndE a hX h).pe) (fun _ => rfl) rfl rfl
    · cases h
  | .cmp o a b, c, X, e, hX, h => by
    simp only [chkE] at h
    split at h
    · obtain ⟨h12, h4⟩ := ands h
      obtain ⟨h12, h3⟩ := ands h12
      obtain ⟨h1, h2⟩ := ands h12
      exact ⟨e_cmp hX.u65 h1 h2 (sndE a hX h3).pe (sndE b hX h4).pe, t_cmp hX.u65 h1 h2 (sndE a hX h3).pe (sndE b hX h4).pe, fun z => (nomatch z), fun z => (nomatch z)⟩
    · cases h
  | .chn o o' a b d, c, X, e, hX, h => by
    simp only [chkE] at h
    split at h
    · obtain ⟨h, h6⟩ := ands h
      obtain ⟨h, h5⟩ := ands h
      obtain ⟨h, h4⟩ := ands h
      obtain ⟨h, h3⟩ := ands h
      obtain ⟨h1, h2⟩ := ands h
      exact ⟨e_chn hX.u65 h1 h2 h3 (sndE a hX h4).pe (sndE b hX h5).pe (sndE d hX h6).pe, t_chn hX.u65 h1 h2 h3 (sndE a hX h4).pe (sndE b hX h5).pe (sndE d hX h6).pe, fun z => (nomatch z), fun z => (nomatch z)⟩
    · cases h
  | .and2 a b, c, X, e, hX, h => by
    simp only [chkE] at h
    split at h
    · rename_i x y r p
      obtain ⟨h1, h2⟩ := ands h
      have sa := sndE a hX h1
      cases r with
      | nil =>
        have sb := sndE b hX h2
        have pw : PW X (.BoolOp .And [x, y] p) (tT (pg.F k) pg.C X.K γ (.and2 a b)) := PW.weak (pw_and sa.pt (pw_and1 sb.pt)) fun _ _ _ q => and_redT q
        exact ⟨PE.weak (pe_and sa.pe (pe_one sb.pe)) fun _ _ _ q => and_redV q, pw.pt, fun _ => pw, fun z => (nomatch z)⟩
      | cons z r =>
        have sb := sndE b hX h2
        have pw : PW X (.BoolOp .And (x :: y :: z :: r) p) (tT (pg.F k) pg.C X.K γ (.and2 a b)) := PW.weak (pw_and sa.pt (sb.pw rfl)) fun _ _ _ q => and_redT q
        exact ⟨PE.weak (pe_and sa.pe sb.pe) fun _ _ _ q => and_redV q, pw.pt, fun _ => pw, fun z => (nomatch z)⟩
    · cases h
  | .or2 a b, c, X, e, hX, h => by
    simp only [chkE] at h
    split at h
    · rename_i x y r p
      obtain ⟨h1, h2⟩ := ands h
      have sa := sndE a hX h1
      cases r with
      | nil =>
        have sb := sndE b hX h2
        have pw : PW X (.BoolOp .Or [x, y] p) (tT (pg.F k) pg.C X.K γ (.or2 a b)) := PW.weak (pw_or sa.pt (pw_or1 sb.pt)) fun _ _ _ q => or_redT q
        exact ⟨PE.weak (pe_or sa.pe (pe_one sb.pe)) fun _ _ _ q => or_redV q, pw.pt, fun _ => pw, fun z => (nomatch z)⟩
      | cons z r =>
        have sb := sndE b hX h2
        have pw : PW X (.BoolOp .Or (x :: y :: z :: r) p) (tT (pg.F k) pg.C X.K γ (.or2 a b)) := PW.weak (pw_or sa.pt (sb.pw rfl)) fun _ _ _ q => or_redT q
        exact ⟨PE.weak (pe_or sa.pe sb.pe) fun _ _ _ q => or_redV q, pw.pt, fun _ => pw, fun z => (nomatch z)⟩
    · cases h
  | .nt a, c, X, e, hX, h => by
    simp only [chkE] at h
    split at h
    · exact ⟨e_not (sndE a hX h).pe, t_not (sndE a hX h).pt, fun z => (nomatch z), fun z => (nomatch z)⟩
    · cases h
  | .ite q a b, c, X, e, hX, h => by
    simp only [chkE] at h
    split at h
    · obtain ⟨h12, h3⟩ := ands h
      obtain ⟨h1, h2⟩ := ands h12
      exact ⟨e_ite (sndE q hX h1).pt (sndE a hX h2).pe (sndE b hX h3).pe, t_ite (sndE q hX h1).pt (sndE a hX h2).pt (sndE b hX h3).pt, fun z => (nomatch z), fun z => (nomatch z)⟩
    · cases h
  | .tup es, c, X, e, hX, h => by
    simp only [chkE] at h
    split at h
    · exact Snd.plain (e_tup (sndP es hX h)) (fun _ => rfl) rfl rfl
    · cases h
  | .lst es, c, X, e, hX, h => by
    simp only [chkE] at h
    split at h
    · exact Snd.plain (e_lst (sndP es hX h)) (fun _ => rfl) rfl rfl
    · cases h
  | .idx a i, c, X, e, hX, h => by
    simp only [chkE] at h
    split at h
    · obtain ⟨h12, h3⟩ := ands h
      obtain ⟨h1, h2⟩ := ands h12
      exact Snd.plain (e_idx h1 (sndE a hX h2).pe (sndE i hX h3).pe) (fun _ => rfl) rfl rfl
    · cases h
  | .slc a lo hi, c, X, e, hX, h => by
    simp only [chkE] at h
    split at h
    · obtain ⟨h12, h3⟩ := ands h
      obtain ⟨h1, h2⟩ := ands h12
      exact Snd.plain (e_slc (sndE a hX h1).pe (sndO lo hX h2) (sndO hi hX h3)) (fun _ => rfl) rfl rfl
    · cases h
  | .rev a, c, X, e, hX, h => by
    simp only [chkE] at h
    split at h
    · exact Snd.plain (e_rev (sndE a hX h).pe) (fun _ => rfl) rfl rfl
    · cases h
  | .call f es, c, X, e, hX, h => by
    simp only [chkE] at h
    split at h
    · obtain ⟨h1, h2⟩ := ands h
      obtain ⟨ps, fn, a, fd, t1, t2, t3, t4, t5, t6, t7, t8⟩ := hX.T h1
      obtain ⟨s1, s2⟩ := stars_of h2
      exact Snd.plain (e_call t8 (callN_len t3 t6) hX.room hX.gds t1 t4 t5 t7.pos t2 s1 s2 (sndA es hX h2)) (fun _ => rfl) rfl rfl
    · cases h
  | .callk f p es, c, X, e, hX, h => by
    simp only [chkE] at h
    split at h
    · obtain ⟨h12, h3⟩ := ands h
      obtain ⟨h1, h2⟩ := ands h12
      obtain ⟨ps, fn, a, fd, t1, t2, t3, t4, t5, t6, t7, t8⟩ := hX.T h1
      split at h2
      · rename_i ks hks
        unfold kwB at h2
        exact Snd.plain (e_callk t8 (callN_len t3 t6) hX.room hX.gds t1 t4 t5 (t7.kw ks p (by simpa using h2)) t2 hks (chkKs_len h3) (sndK es hX h3)) (fun _ => rfl) rfl rfl
      · cases h2
    · cases h
  | .blt b es, c, X, e, hX, h => by
    simp only [chkE] at h
    split at h
    · obtain ⟨h, h4⟩ := ands h
      obtain ⟨h, h3⟩ := ands h
      obtain ⟨h1, h2⟩ := ands h
      obtain ⟨g1, g2, g3⟩ := hX.gl h1
      exact Snd.plain (e_blt hX.calm hX.gds hX.u67 (of_decide_eq_true h3) g1 g2 g3 (gcd_mg hX h2) (stars_of h4).1 (sndA es hX h4)) (fun _ => rfl) rfl rfl
    · cases h
  | .isi a ts, c, X, e, hX, h => by
    simp only [chkE] at h
    split at h
    · rename_i x p y t q
      obtain ⟨h, h5⟩ := ands h
      obtain ⟨h, h4⟩ := ands h
      obtain ⟨h, h3⟩ := ands h
      obtain ⟨h1, h2⟩ := ands h
      obtain ⟨g1, g2, g3, g4⟩ := hX.blt h1
      have hx := of_decide_eq_true h2
      subst hx
      have sa := sndE a hX h4
      split at h5
      · rename_i tn tp
        cases ts with
        | nil => simp only [tysB] at h5; cases h5
        | cons t0 ts =>
          simp only [tysB] at h5
          cases ts with
          | cons t1 ts => simp only [tysB, Bool.and_false] at h5; cases h5
          | nil =>
            obtain ⟨h5a, h7⟩ := ands h5
            obtain ⟨h5b, h6'⟩ := ands h5a
            obtain ⟨b1, b2, b3, b4⟩ := hX.blt h5b
            have hv := boot_ty t0
            rw [← of_decide_eq_true h6'] at hv
            exact Snd.plain (e_isi1 (ts := []) g1 g2 h3 sa.pe (pe_bltn (v := .ty (tyN t0)) b1 b2 hv rfl b4 b3)) (fun _ => rfl) rfl rfl
      · rename_i us kk pp
        obtain ⟨h5, h6⟩ := ands h5
        obtain ⟨r1, r2⟩ := tys_pa hX h6
        exact Snd.plain (e_isiT g1 g2 h3 sa.pe r1 (Nat.le_of_ble_eq_true h5)) (fun _ => rfl) rfl rfl
      · cases h5
    · cases h
  | .lrg lo hi, c, X, e, hX, h => by
    simp only [chkE] at h
    split at h
    · rename_i x p y q xs r s
      obtain ⟨h, h5⟩ := ands h
      obtain ⟨h, h4⟩ := ands h
      obtain ⟨h, h3⟩ := ands h
      obtain ⟨h1, h2⟩ := ands h
      obtain ⟨g1, g2, g3, g4⟩ := hX.blt h1
      obtain ⟨g5, g6, _, _⟩ := hX.blt h3
      have hx := of_decide_eq_true h2
      have hy := of_decide_eq_true h4
      subst hx; subst hy
      split at h5
      · rename_i hh
        obtain ⟨h5, h7⟩ := ands h5
        obtain ⟨h5, h6⟩ := ands h5
        split at h5
        · exact Snd.plain (e_lrg hX.calm g1 g2 rfl (rg_1 g5 g6 h6 (sndE hi hX h7).pe)) (fun _ => rfl) rfl rfl
        · cases h5
      · rename_i l hh
        obtain ⟨h5, h8⟩ := ands h5
        obtain ⟨h5, h7⟩ := ands h5
        obtain ⟨h5, h6⟩ := ands h5
        exact Snd.plain (e_lrg hX.calm g1 g2 rfl (rg_2 g5 g6 h5 h6 (sndE lo hX h7).pe (sndE hi hX h8).pe)) (fun _ => rfl) rfl rfl
      · cases h5
    · cases h
  | .trg lo hi, c, X, e, hX, h => by
    simp only [chkE] at h
    split at h
    · rename_i x p y q xs r s
      obtain ⟨h, h5⟩ := ands h
      obtain ⟨h, h4⟩ := ands h
      obtain ⟨h, h3⟩ := ands h
      obtain ⟨h1, h2⟩ := ands h
      obtain ⟨g1, g2, g3, g4⟩ := hX.blt h1
      obtain ⟨g5, g6, _, _⟩ := hX.blt h3
      have hx := of_decide_eq_true h2
      have hy := of_decide_eq_true h4
      subst hx; subst hy
      split at h5
      · rename_i hh
        obtain ⟨h5, h7⟩ := ands h5
        obtain ⟨h5, h6⟩ := ands h5
        split at h5
        · exact Snd.plain (e_trg hX.calm g1 g2 rfl (rg_1 g5 g6 h6 (sndE hi hX h7).pe)) (fun _ => rfl) rfl rfl
        · cases h5
      · rename_i l hh
        obtain ⟨h5, h8⟩ := ands h5
        obtain ⟨h5, h7⟩ := ands h5
        obtain ⟨h5, h6⟩ := ands h5
        exact Snd.plain (e_trg hX.calm g1 g2 rfl (rg_2 g5 g6 h5 h6 (sndE lo hX h7).pe (sndE hi hX h8).pe)) (fun _ => rfl) rfl rfl
      · cases h5
    · cases h
  | .lc elt tg it cd own, c, X, e, hX, h => by
    unfold chkE at h
    split at h
    · rename_i x t i fs scope pp
      obtain ⟨h, h7⟩ := ands h
      obtain ⟨h, h6⟩ := ands h
      obtain ⟨h, h5⟩ := ands h
      obtain ⟨h, h4⟩ := ands h
      obtain ⟨h, h3⟩ := ands h
      obtain ⟨h, h2⟩ := ands h
      obtain ⟨h0, h1⟩ := ands h
      have ok : BlkOk X.N X.env.scope scope (ownN c own) := by rw [hX.N, hX.sc]; exact blkOk_by h0
      have hown : ∀ j ∈ tgS tg, j ∈ own := fun j hj => by
        have := List.all_eq_true.mp h4 j hj
        simpa using this
      have pi := sndI it hX h1
      have hg : ∀ (s : Shared) (H : Hp) (Ca : Addr) (cl : List (Str × Addr)) (fp : List Addr), PG (X.blk s H scope (compEnvC scope cl Ca X.env) fp) t (gT (pg.F k) pg.C X.K γ tg) := fun s H Ca cl fp => sndT tg (hX.blk scope s H Ca cl fp) h5
      have he : ∀ (s : Shared) (H : Hp) (Ca : Addr) (cl : List (Str × Addr)) (fp : List Addr), PE (X.blk s H scope (compEnvC scope cl Ca X.env) fp) x (tE (pg.F k) pg.C X.K γ elt) := fun s H Ca cl fp => (sndE elt (hX.blk scope s H Ca cl fp) h7).pe
      have ht : ∀ (s : Shared) (H : Hp) (Ca : Addr) (cl : List (Str × Addr)) (fp : List Addr), PTs (X.blk s H scope (compEnvC scope cl Ca X.env) fp) fs (tD (pg.F k) pg.C X.K γ cd) := fun s H Ca cl fp => sndD cd (hX.blk scope s H Ca cl fp) h6
      have red : ∀ {σ : L2.St} {H : Hp} {Q : VK}, tE (pg.F k) pg.C X.K γ (.lc elt tg it cd own) σ H Q → tLc (tI (pg.F k) pg.C X.K γ it) (gT (pg.F k) pg.C X.K γ tg) (tD (pg.F k) pg.C X.K γ cd) (tE (pg.F k) pg.C X.K γ elt) ((ownN c own).map (·.2)) σ H Q := fun {σ H Q} q => by
        rw [own_ix]; exact lc_red hown q
      have pe : PE X (.ListComp x [⟨t, i, fs, 0⟩] scope pp) (tE (pg.F k) pg.C X.K γ (.lc elt tg it cd own)) := PE.weak (pe_lc hX.calm hX.nd pi ok hg ht he (fold_no h2)) fun _ _ _ q => red q
      exact ⟨pe, pt_plain pe fun _ => rfl, fun z => (nomatch z), fun _ j y py spos a1 a2 a3 => PS.weak (ps_setLc hX.calm hX.nd a1 a2 a3 pi ok hg ht he (fold_no h2)) fun D σ H q => red q⟩
    · cases h
  | .mth m i es, c, X, e, hX, h => by
    simp only [chkE] at h
    split at h
    · obtain ⟨h, h5⟩ := ands h
      obtain ⟨h, h4⟩ := ands h
      obtain ⟨h, h3⟩ := ands h
      obtain ⟨h1, h2⟩ := ands h
      obtain ⟨q1, q2, q3, q4⟩ := slotB_of h1
      rw [← hX.N] at q1; rw [← hX.sc] at q2
      obtain ⟨s1, s2⟩ := stars_of h5
      exact Snd.plain (e_mth q1 q2 q3 q4 (of_decide_eq_true h2) h3 s1 (blt_lt h4) s2 (sndA es hX h5)) (fun _ => rfl) rfl rfl
    · cases h
  | .rpr es, c, X, e, hX, h => by
    simp only [chkE] at h
    split at h
    · obtain ⟨h12, h3⟩ := ands h
      obtain ⟨h1, h2⟩ := ands h12
      obtain ⟨g1, g2, g3, g4⟩ := hX.blt h1
      have hx := of_decide_eq_true h2
      subst hx
      exact Snd.plain (e_rpr hX.gds hX.u65 g1 g2 (sndA es hX h3)) (fun _ => rfl) rfl rfl
    · cases h
  | .giv a, c, X, e, hX, h => by
    simp only [chkE] at h
    have sa := sndE a hX h
    have red : ∀ {σ : L2.St} {H : Hp} {Q : VK}, tE (pg.F k) pg.C X.K γ (.giv a) σ H Q → tE (pg.F k) pg.C X.K γ a σ H Q := fun {σ H Q} ⟨G, env, o, env', sr, ev, q⟩ => by
      simp only [evE] at ev
      split at ev
      · rename_i xs e1 h1
        cases ev
        exact ⟨G, env, _, _, sr, h1, fun G' H' x s st r => q G' H' x s st r⟩
      · cases ev
    have no : ∀ {σ : L2.St} {H : Hp} {Q : Bool → Hp → Prop}, tT (pg.F k) pg.C X.K γ (.giv a) σ H Q → False := fun {σ H Q} ⟨G, env, o, env', sr, ev, q⟩ => by
      simp only [evE] at ev
      split at ev
      · cases ev
      · cases ev
    exact ⟨PE.weak sa.pe fun _ _ _ q => red q, ⟨fun _ _ _ _ _ _ q => (no q).elim⟩, fun _ => ⟨fun _ _ _ _ _ _ _ q => (no q).elim⟩, fun hl i y py spos a1 a2 a3 => PS.weak (sa.set hl a1 a2 a3) fun D σ H q => red q⟩
  | .dnw, c, X, e, hX, h => by
    simp only [chkE] at h
    split at h
    · exact Snd.plain e_dnw (fun _ => rfl) rfl rfl
    · cases h
  | .ds1 a b, c, X, e, hX, h => by
    simp only [chkE] at h
    split at h
    · obtain ⟨h1, h2⟩ := ands h
      exact Snd.plain (e_ds1 (sndE a hX h1).pe (sndE b hX h2).pe) (fun _ => rfl) rfl rfl
    · cases h
  | .dof a, c, X, e, hX, h => by
    simp only [chkE] at h
    cases h
  | .dix a b, c, X, e, hX, h => by
    simp only [chkE] at h
    split at h
    · obtain ⟨h12, h3⟩ := ands h
      obtain ⟨h1, h2⟩ := ands h12
      exact Snd.plain (e_dix hX.u65 h1 (sndE a hX h2).pe (sndE b hX h3).pe) (fun _ => rfl) rfl rfl
    · cases h
  | .din n a b, c, X, e, hX, h => by
    simp only [chkE] at h
    split at h
    · obtain ⟨h, h4⟩ := ands h
      obtain ⟨h, h3⟩ := ands h
      obtain ⟨h1, h2⟩ := ands h
      exact ⟨e_din hX.u65 h1 h2 (sndE a hX h3).pe (sndE b hX h4).pe, t_din hX.u65 h1 h2 (sndE a hX h3).pe (sndE b hX h4).pe, fun z => (nomatch z), fun z => (nomatch z)⟩
    · cases h
  | .dgt a b d, c, X, e, hX, h => by
    simp only [chkE] at h
    split at h
    · obtain ⟨h, h8⟩ := ands h
      obtain ⟨h, h7⟩ := ands h
      obtain ⟨h, h6⟩ := ands h
      obtain ⟨h, h5⟩ := ands h
      obtain ⟨h, h4⟩ := ands h
      obtain ⟨h, h3⟩ := ands h
      obtain ⟨h1, h2⟩ := ands h
      exact Snd.plain (e_dgt hX.u65 (of_decide_eq_true h2) h1 h3 h4 h5 (sndE a hX h6).pe (sndE b hX h7).pe (sndE d hX h8).pe) (fun _ => rfl) rfl rfl
    · cases h
  | .lset a, c, X, e, hX, h => by
    simp only [chkE] at h
    split at h
    · obtain ⟨h, h6⟩ := ands h
      obtain ⟨h, h5⟩ := ands h
      obtain ⟨h, h4⟩ := ands h
      obtain ⟨h, h3⟩ := ands h
      obtain ⟨h1, h2⟩ := ands h
      obtain ⟨g1, g2, _, _⟩ := hX.blt h1
      obtain ⟨g5, g6, _, _⟩ := hX.blt h3
      have hx := of_decide_eq_true h2
      have hy := of_decide_eq_true h4
      subst hx; subst hy
      exact Snd.plain (e_lset hX.calm g1 g2 g5 g6 h5 (sndE a hX h6).pe) (fun _ => rfl) rfl rfl
    · cases h
  | .sset a, c, X, e, hX, h => by
    simp only [chkE] at h
    split at h
    · obtain ⟨h, h6⟩ := ands h
      obtain ⟨h, h5⟩ := ands h
      obtain ⟨h, h4⟩ := ands h
      obtain ⟨h, h3⟩ := ands h
      obtain ⟨h1, h2⟩ := ands h
      obtain ⟨g1, g2, g3, g4⟩ := hX.blt h1
      obtain ⟨g5, g6, g7, g8⟩ := hX.blt h3
      have hx := of_decide_eq_true h2
      have hy := of_decide_eq_true h4
      subst hx; subst hy
      exact Snd.plain (e_sset hX.calm g1 g2 g5 g6 h5 (sndE a hX h6).pe) (fun _ => rfl) rfl rfl
    · cases h
  | .lw i elt tg cd own, c, X, e, hX, h => by
    unfold chkE at h
    split at h
    · rename_i x t it fs scope pp
      obtain ⟨h, h7⟩ := ands h
      obtain ⟨h, h6⟩ := ands h
      obtain ⟨h, h5⟩ := ands h
      obtain ⟨h, h4⟩ := ands h
      obtain ⟨h, h3⟩ := ands h
      obtain ⟨h, h2⟩ := ands h
      obtain ⟨h0, h1⟩ := ands h
      have ok : BlkOk X.N X.env.scope scope (ownN c own) := by rw [hX.N, hX.sc]; exact blkOk_by h0
      have hown : ∀ j ∈ tgS tg, j ∈ own := fun j hj => by
        have := List.all_eq_true.mp h4 j hj
        simpa using this
      cases it with
      | Name yy yp =>
        obtain ⟨v1, v2, v3, v4⟩ := slotB_of h1
        rw [← hX.N] at v1; rw [← hX.sc] at v2
        have pi : PI X t (.Name yy yp) (tI (pg.F k) pg.C X.K γ (.it (.var i))) := i_it (e_var (F := pg.F k) (C := pg.C) (γ := γ) (pos := yp) v1 v2 v3 v4)
        have hg : ∀ (s : Shared) (H : Hp) (Ca : Addr) (cl : List (Str × Addr)) (fp : List Addr), PG (X.blk s H scope (compEnvC scope cl Ca X.env) fp) t (gT (pg.F k) pg.C X.K γ tg) := fun s H Ca cl fp => sndT tg (hX.blk scope s H Ca cl fp) h5
        have he : ∀ (s : Shared) (H : Hp) (Ca : Addr) (cl : List (Str × Addr)) (fp : List Addr), PE (X.blk s H scope (compEnvC scope cl Ca X.env) fp) x (tE (pg.F k) pg.C X.K γ elt) := fun s H Ca cl fp => (sndE elt (hX.blk scope s H Ca cl fp) h7).pe
        have ht : ∀ (s : Shared) (H : Hp) (Ca : Addr) (cl : List (Str × Addr)) (fp : List Addr), PTs (X.blk s H scope (compEnvC scope cl Ca X.env) fp) fs (tD (pg.F k) pg.C X.K γ cd) := fun s H Ca cl fp => sndD cd (hX.blk scope s H Ca cl fp) h6
        have red : ∀ {σ : L2.St} {H : Hp} {Q : VK}, tE (pg.F k) pg.C X.K γ (.lw i elt tg cd own) σ H Q → tLc (tI (pg.F k) pg.C X.K γ (.it (.var i))) (gT (pg.F k) pg.C X.K γ tg) (tD (pg.F k) pg.C X.K γ cd) (tE (pg.F k) pg.C X.K γ elt) ((ownN c own).map (·.2)) σ H Q := fun {σ H Q} q => by
          rw [own_ix]; exact lc_red hown (lw_red q)
        have pe : PE X (.ListComp x [⟨t, .Name yy yp, fs, 0⟩] scope pp) (tE (pg.F k) pg.C X.K γ (.lw i elt tg cd own)) := PE.weak (pe_lc hX.calm hX.nd pi ok hg ht he (fold_no h2)) fun _ _ _ q => red q
        exact ⟨pe, pt_plain pe fun _ => rfl, fun z => (nomatch z), fun _ j y py spos a1 a2 a3 => PS.weak (ps_setLc hX.calm hX.nd a1 a2 a3 pi ok hg ht he (fold_no h2)) fun D σ H q => red q⟩
      | _ => cases h1
    · cases h
theorem sndA : ∀ (ies : IEs) {c : SC} {X : Cx} {es : List Expr}, XOk pg k c X → chkEs pg c ies es = true → PA X es (tA (pg.F k) pg.C X.K γ ies)
  | .nil, c, X, es, hX, h => by
    simp only [chkEs] at h
    split at h
    · exact a_nil
    · cases h
  | .cons ie r, c, X, es, hX, h => by
    simp only [chkEs] at h
    split at h
    · obtain ⟨h12, h3⟩ := ands h
      obtain ⟨h1, h2⟩ := ands h12
      exact a_cons h1 (sndE ie hX h2).pe (sndA r hX h3)
    · cases h
theorem sndP : ∀ (ies : IEs) {c : SC} {X : Cx} {es : List Expr}, XOk pg k c X → chkEs pg c ies es = true → PA X es (tP (pg.F k) pg.C X.K γ ies)
  | .nil, c, X, es, hX, h => by
    simp only [chkEs] at h
    split at h
    · exact p_nil
    · cases h
  | .cons ie r, c, X, es, hX, h => by
    simp only [chkEs] at h
    split at h
    · obtain ⟨h12, h3⟩ := ands h
      obtain ⟨h1, h2⟩ := ands h12
      exact p_cons h1 (sndE ie hX h2).pe (sndP r hX h3)
    · cases h
theorem sndK : ∀ (ies : IEs) {c : SC} {X : Cx} {kws : List Keyword}, XOk pg k c X → chkKs pg c ies kws = true → PK X kws (tA (pg.F k) pg.C X.K γ ies)
  | .nil, c, X, es, hX, h => by
    simp only [chkKs] at h
    split at h
    · exact k_nil
    · cases h
  | .cons ie r, c, X, es, hX, h => by
    simp only [chkKs] at h
    split at h
    · obtain ⟨h1, h2⟩ := ands h
      exact k_cons (sndE ie hX h1).pe (sndK r hX h2)
    · cases h
theorem sndO : ∀ (io : IO) {c : SC} {X : Cx} {e : Option Expr}, XOk pg k c X → chkO pg c io e = true → PO X e (tO (pg.F k) pg.C X.K γ io)
  | .non, c, X, e, hX, h => by
    simp only [chkO] at h
    split at h
    · exact o_non
    · cases h
  | .som a, c, X, e, hX, h => by
    simp only [chkO] at h
    split at h
    · exact o_som (sndE a hX h).pe
    · cases h
theorem sndD : ∀ (io : IO) {c : SC} {X : Cx} {fs : List Expr}, XOk pg k c X → (match fs, io with
        | [], .non => true
        | [f], .som d => chkE pg c d f
        | _, _ => false) = true → PTs X fs (tD (pg.F k) pg.C X.K γ io)
  | .non, c, X, fs, hX, h => by
    split at h
    · exact d_non
    · rename_i q; cases q
    · cases h
  | .som a, c, X, fs, hX, h => by
    split at h
    · rename_i q; cases q
    · rename_i f d q
      cases q
      exact d_som (sndE a hX h).pt
    · cases h
theorem sndI : ∀ (ii : II) {c : SC} {X : Cx} {t e : Expr}, XOk pg k c X → chkI pg c ii t e = true → PI X t e (tI (pg.F k) pg.C X.K γ ii)
  | .it a, c, X, t, e, hX, h => by
    simp only [chkI] at h
    exact i_it (sndE a hX h).pe
  | .rng lo hi, c, X, t, e, hX, h => by
    simp only [chkI] at h
    split at h
    · obtain ⟨h, h5⟩ := ands h
      obtain ⟨h3, h4⟩ := ands h
      obtain ⟨g5, g6, _, _⟩ := hX.blt h3
      have hy := of_decide_eq_true h4
      subst hy
      split at h5
      · rename_i hh
        obtain ⟨h5, h7⟩ := ands h5
        obtain ⟨h5, h6⟩ := ands h5
        split at h5
        · exact i_rg1 g5 g6 h6 (sndE hi hX h7).pe
        · cases h5
      · rename_i l hh
        obtain ⟨h5, h8⟩ := ands h5
        obtain ⟨h5, h7⟩ := ands h5
        obtain ⟨h5, h6⟩ := ands h5
        exact i_rg2 g5 g6 h5 h6 (sndE lo hX h7).pe (sndE hi hX h8).pe
      · cases h5
    · cases h
  | .enu a, c, X, t, e, hX, h => by
    simp only [chkI] at h
    split at h
    · obtain ⟨h, h4⟩ := ands h
      obtain ⟨h, h3⟩ := ands h
      obtain ⟨h1, h2⟩ := ands h
      obtain ⟨g1, g2, _, _⟩ := hX.blt h1
      have hy := of_decide_eq_true h2
      subst hy
      exact i_enu g1 g2 h3 (sndE a hX h4).pe
    · cases h
  | .zip a b, c, X, t, e, hX, h => by
    simp only [chkI] at h
    split at h
    · obtain ⟨h, h6⟩ := ands h
      obtain ⟨h, h5⟩ := ands h
      obtain ⟨h, h4⟩ := ands h
      obtain ⟨h, h3⟩ := ands h
      obtain ⟨h1, h2⟩ := ands h
      obtain ⟨g1, g2, _, _⟩ := hX.blt h1
      have hy := of_decide_eq_true h2
      subst hy
      exact i_zip g1 g2 h3 h4 (sndE a hX h5).pe (sndE b hX h6).pe
    · cases h
  | .dks a, c, X, t, e, hX, h => by
    simp only [chkI] at h
    cases h
theorem sndT : ∀ (it : IT) {c : SC} {X : Cx} {e : Expr}, XOk pg k c X → chkT pg c it e = true → PG X e (gT (pg.F k) pg.C X.K γ it)
  | .nm i, c, X, e, hX, h => by
    simp only [chkT] at h
    split at h
    · obtain ⟨h1, h2, h3⟩ := storeB_of h
      rw [← hX.N] at h1; rw [← hX.sc] at h2 h3; rw [← hX.fn] at h3
      exact g_nm hX.nd h1 h2 h3
    · cases h
  | .tp ts, c, X, e, hX, h => by
    simp only [chkT] at h
    split at h
    · obtain ⟨a, b⟩ := chkTs_len h
      exact g_tp hX.calm a b (sndTs ts hX h)
    · cases h
  | .sub i a, c, X, e, hX, h => by
    simp only [chkT] at h
    split at h
    · obtain ⟨h12, h3⟩ := ands h
      obtain ⟨h1, h2⟩ := ands h12
      obtain ⟨q1, q2, q3, q4⟩ := slotB_of h1
      rw [← hX.N] at q1; rw [← hX.sc] at q2
      exact g_sub q1 q2 q3 q4 h2 (sndE a hX h3).pe
    · cases h
theorem sndTs : ∀ (its : ITs) {c : SC} {X : Cx} {es : List Expr}, XOk pg k c X → chkTs pg c its es = true → PGs X es (gTs (pg.F k) pg.C X.K γ its)
  | .nil, c, X, es, hX, h => by
    simp only [chkTs] at h
    split at h
    · exact gs_nil
    · cases h
  | .cons t r, c, X, es, hX, h => by
    simp only [chkTs] at h
    split at h
    · obtain ⟨h12, h3⟩ := ands h
      obtain ⟨h1, h2⟩ := ands h12
      exact gs_cons h1 (sndT t hX h2) (sndTs r hX h3)
    · cases h
end
end Rf

set_option Elab.async false
set_option linter.all false
set_option maxRecDepth 100000
set_option maxHeartbeats 4000000
/-! Rf: the checker of statements, and what it lets through. -/
namespace Rf
open PySem PySem.Spec PyProof.Rows L2

def noSD : Expr → Bool
  | .SetComp .. => false
  | .DictComp .. => false
  | _ => true
def noComp : Expr → Bool
  | .SetComp .. => false
  | .DictComp .. => false
  | .ListComp .. => false
  | _ => true
def isTupE : Expr → Bool
  | .Tuple .. => true
  | _ => false
def twoSub : List Expr → Bool
  | [.Subscript .., .Subscript ..] => true
  | _ => false
def asgOk : Expr → Expr → Bool
  | .Name .., v => noSD v
  | .Subscript .., _ => true
  | .Tuple ts _ _, v => !isTupE v || twoSub ts
  | _, _ => false
mutual
def chkS (pg : Pg) : SC → IS → Stmt → Bool
  | c, .asg t e, s => match s with
    | .Assign [tg] v _ => asgOk tg v && chkT pg c t tg && chkE pg c e v
    | _ => false
  | c, .own i e, s => match s with
    | .Assign [.Name x _] v _ => storeB c i x && noSD v && chkE pg c e v
    | _ => false
  | c, .par2 i j u v a b, s => match s with
    | .Assign [.Tuple [.Name x px, .Name y py] _ _] (.Tuple [ea, eb] _ _) _ => storeB c i x && storeB c j y && !(Nat.beq i j) && notStar ea && notStar eb && isFun c.sc && (match sw2 c.sc x y px py ea eb with
        | some true => isLoc c.sc x && isLoc c.sc y
        | some false => true
        | none => false) && chkE pg c a ea && chkE pg c b eb
    | _ => false
  | c, .par3 i j l u v w a b d, s => match s with
    | .Assign [.Tuple [.Name x px, .Name y py, .Name z pz] _ _] (.Tuple [ea, eb, ec] _ _) _ => storeB c i x && storeB c j y && storeB c l z && !(Nat.beq i j) && !(Nat.beq i l) && !(Nat.beq j l) && notStar ea && notStar eb && notStar ec && isFun c.sc && (match sw3 c.sc x y z px py pz ea eb ec with
        | some true => isLoc c.sc x && isLoc c.sc y && isLoc c.sc z
        | some false => true
        | none => false) && chkE pg c a ea && chkE pg c b eb && chkE pg c d ec
    | _ => false
  | c, .ex e, s => match s with
    | .Expr v _ => noComp v && chkE pg c e v
    | _ => false
  | c, .ret e, s => match s with
    | .Return (some v) _ => chkE pg c e v
    | .Return none _ => (match e with | .cst .none => true | _ => false)
    | _ => false
  | c, .ite q a b, s => match s with
    | .If x y z _ => chkE pg c q x && chkSs pg c a y && chkSs pg c b z
    | _ => false
  | c, .fo t it b, s => match s with
    | .For tg iter body [] _ => notSet iter && chkT pg c t tg && chkI pg c it tg iter && chkSs pg c b body
    | _ => false
  | c, .wh q b, s => match s with
    | .While x body [] _ => chkE pg c q x && chkSs pg c b body
    | _ => false
  | _, .pass, s => match s with
    | .Pass _ => true
    | .Expr (.Constant (.str _) _ _) _ => true
    | _ => false
  | _, .brk, s => match s with
    | .Break _ => true
    | _ => false
  | _, .cnt, s => match s with
    | .Continue _ => true
    | _ => false
  | _, .nev, _ => true
  | c, .dpt i k e, s => match s with
    | .Assign [.Subscript (.Name x _) y _] v _ => slotB c i x && noComp v && chkE pg c k y && chkE pg c e v
    | _ => false
def chkSs (pg : Pg) : SC → ISs → List Stmt → Bool
  | _, .nil, ss => match ss with
    | [] => true
    | _ => false
  | c, .cons s r, ss => match ss with
    | st :: rest => chkS pg c s st && chkSs pg c r rest
    | _ => false
end

theorem sw_no {e : Expr} {t : Option Expr} {l : Nat} {env : Env} (h : noComp e = true) : swapsWith e t l env = pure false := by
  cases e <;> first | rfl | cases h
theorem sw_tup {e : Expr} {es : List Expr} {kk : Nat} {p : Pos} {l : Nat} {env : Env} : swapsWithSole [.Tuple es kk p] e l env = pure false := by
  cases e <;> rfl
theorem sw_sub {e a b : Expr} {p : Pos} {l : Nat} {env : Env} : swapsWithSole [.Subscript a b p] e l env = pure false := by
  cases e <;> rfl
theorem ss_tup {e : Expr} {es : List Expr} {kk : Nat} {p : Pos} {env : Env} (h : isTupE e = false) : swappedStores [.Tuple es kk p] e env = pure none := by
  cases e <;> first | rfl | cases h
theorem ss_two {e : Expr} {es : List Expr} {kk : Nat} {p : Pos} {env : Env} (h : (!isTupE e || twoSub es) = true) : swappedStores [.Tuple es kk p] e env = pure none := by
  cases he : isTupE e with
  | false => exact ss_tup he
  | true =>
    rw [he] at h
    have h : twoSub es = true := by simpa using h
    unfold twoSub at h
    split at h
    · cases e <;> first | (cases he; done) | skip
      rename_i vs k2 p2
      unfold swappedStores
      dsimp only
      have key : ∀ (c1 c2 : Bool) (r : Sem (Option (List Str))), (if c1 = true then (pure none : Sem (Option (List Str))) else if c2 = true then pure none else pure none) = pure none := fun c1 c2 r => by
        cases c1 <;> cases c2 <;> rfl
      first
        | exact key _ _ (pure none)
        | (split <;> first | rfl | (split <;> rfl))
    · cases h
theorem ss_sub {e a b : Expr} {p : Pos} {env : Env} : swappedStores [.Subscript a b p] e env = pure none := by
  cases e <;> rfl
section
variable {pg : Pg} {k : Nat} {γ : Gam} {c : SC} {X : Cx} {e : Expr} {ie : IE}
/-- a name's store, on whichever line -/
theorem nm_set (hX : XOk pg k c X) {i : Nat} {y : Str} {py pos : Pos} (h : storeB c i y = true) (hn : noSD e = true) (s : Snd X (pg.F k) pg.C γ e ie) : PS X (.Assign [.Name y py] e pos) (tAsg (tE (pg.F k) pg.C X.K γ ie) (gName i)) := by
  obtain ⟨h1, h2, h3⟩ := storeB_of h
  rw [← hX.N] at h1; rw [← hX.sc] at h2 h3; rw [← hX.fn] at h3
  cases hc : noComp e with
  | true => exact ps_set hX.nd h1 h2 s.pe (sw_no hc) h3
  | false =>
    cases e <;> first | (cases hn; done) | (cases hc; done) | skip
    rename_i elt gs scope p
    have key : ∀ b : Bool, swapsWith (.ListComp elt gs scope p) (some (.Name y py)) pos.line X.env = pure b → (b = true → X.env.scope.names.lookup y = some .local) → PS X (.Assign [.Name y py] (.ListComp elt gs scope p) pos) (tAsg (tE (pg.F k) pg.C X.K γ ie) (gName i)) := fun b hb hl => by
      cases b with
      | true => exact s.set rfl h1 (hl rfl) hb
      | false => exact ps_set hX.nd h1 h2 s.pe hb h3
    refine key (X.env.blockKind == .function && X.env.kindOf y == some .local && py.line == p.line && !(scope.names.any fun (n, k) => n == y && (k == .local || k == .cell))) rfl fun z => ?_
    obtain ⟨z, _⟩ := ands z
    obtain ⟨z, _⟩ := ands z
    obtain ⟨_, z⟩ := ands z
    rw [isLoc_eq] at z
    exact isLoc_of z
end
variable {pg : Pg} {k : Nat} {γ : Gam}
theorem nbeq {i j : Nat} (h : (!(Nat.beq i j)) = true) : i ≠ j := fun z => by
  subst z
  have : Nat.beq i i = true := Nat.beq_refl i
  rw [this] at h; cases h
mutual
theorem sndS : ∀ (is : IS) {c : SC} {X : Cx} {s : Stmt}, XOk pg k c X → PassesOwn (model X.prog X.w) X.A X.env X.xe → chkS pg c is s = true → PS X s (tS (pg.F k) pg.C X.K γ is)
  | .asg t e, c, X, s, hX, hp, h => by
    simp only [chkS] at h
    split at h
    · rename_i tg v pos
      obtain ⟨h12, h3⟩ := ands h
      obtain ⟨h1, h2⟩ := ands h12
      have se := sndE (γ := γ) e hX h3
      cases tg with
      | Name x py =>
        cases t with
        | nm i =>
          simp only [chkT] at h2
          exact PS.weak (nm_set hX h2 h1 se) fun D σ H q => nm_red q
        | tp ts => simp only [chkT] at h2; cases h2
        | sub i a => simp only [chkT] at h2; cases h2
      | Subscript o ix sp => exact s_asg sw_sub ss_sub rfl se.pe (sndT t hX h2)
      | Tuple es kk tp => exact s_asg sw_tup (ss_two h1) rfl se.pe (sndT t hX h2)
      | _ => simp only [asgOk] at h1; cases h1
    · cases h
  | .own i e, c, X, s, hX, hp, h => by
    simp only [chkS] at h
    split at h
    · obtain ⟨h12, h3⟩ := ands h
      obtain ⟨h1, h2⟩ := ands h12
      exact PS.weak (nm_set hX h1 h2 (sndE (γ := γ) e hX h3)) fun D σ H q => own_red q
    · cases h
  | .par2 i j u v a b, c, X, s, hX, hp, h => by
    simp only [chkS] at h
    split at h
    · obtain ⟨h, h9⟩ := ands h
      obtain ⟨h, h8⟩ := ands h
      obtain ⟨h, h7⟩ := ands h
      obtain ⟨h, h6⟩ := ands h
      obtain ⟨h, h5⟩ := ands h
      obtain ⟨h, h4⟩ := ands h
      obtain ⟨h, h3⟩ := ands h
      obtain ⟨h1, h2⟩ := ands h
      obtain ⟨a1, a2, a3⟩ := storeB_of h1
      obtain ⟨b1, b2, b3⟩ := storeB_of h2
      rw [← hX.N] at a1 b1; rw [← hX.sc] at a2 a3 b2 b3 h6 h7; rw [← hX.fn] at a3 b3
      split at h7
      · rename_i q
        obtain ⟨l1, l2⟩ := ands h7
        exact s_par2 (isFun_of h6) hX.calm hX.nd a1 b1 (nbeq h3) a2 b2 a3 b3 h4 h5 (sndE a hX h8).pe (sndE b hX h9).pe q fun _ => ⟨isLoc_of l1, isLoc_of l2⟩
      · rename_i q
        exact s_par2 (isFun_of h6) hX.calm hX.nd a1 b1 (nbeq h3) a2 b2 a3 b3 h4 h5 (sndE a hX h8).pe (sndE b hX h9).pe q fun z => (nomatch z)
      · cases h7
    · cases h
  | .par3 i j l u v w a b d, c, X, s, hX, hp, h => by
    simp only [chkS] at h
    split at h
    · obtain ⟨h, h14⟩ := ands h
      obtain ⟨h, h13⟩ := ands h
      obtain ⟨h, h12⟩ := ands h
      obtain ⟨h, h11⟩ := ands h
      obtain ⟨h, h10⟩ := ands h
      obtain ⟨h, h9⟩ := ands h
      obtain ⟨h, h8⟩ := ands h
      obtain ⟨h, h7⟩ := ands h
      obtain ⟨h, h6⟩ := ands h
      obtain ⟨h, h5⟩ := ands h
      obtain ⟨h, h4⟩ := ands h
      obtain ⟨h, h3⟩ := ands h
      obtain ⟨h1, h2⟩ := ands h
      obtain ⟨a1, a2, a3⟩ := storeB_of h1
      obtain ⟨b1, b2, b3⟩ := storeB_of h2
      obtain ⟨c1, c2, c3⟩ := storeB_of h3
      rw [← hX.N] at a1 b1 c1; rw [← hX.sc] at a2 a3 b2 b3 c2 c3 h10 h11; rw [← hX.fn] at a3 b3 c3
      split at h11
      · rename_i q
        obtain ⟨l12, l3⟩ := ands h11
        obtain ⟨l1, l2⟩ := ands l12
        exact s_par3 (isFun_of h10) hX.calm hX.nd a1 b1 c1 (nbeq h4) (nbeq h5) (nbeq h6) a2 b2 c2 a3 b3 c3 h7 h8 h9 (sndE a hX h12).pe (sndE b hX h13).pe (sndE d hX h14).pe q fun _ => ⟨isLoc_of l1, isLoc_of l2, isLoc_of l3⟩
      · rename_i q
        exact s_par3 (isFun_of h10) hX.calm hX.nd a1 b1 c1 (nbeq h4) (nbeq h5) (nbeq h6) a2 b2 c2 a3 b3 c3 h7 h8 h9 (sndE a hX h12).pe (sndE b hX h13).pe (sndE d hX h14).pe q fun z => (nomatch z)
      · cases h11
    · cases h
  | .ex e, c, X, s, hX, hp, h => by
    simp only [chkS] at h
    split at h
    · obtain ⟨h1, h2⟩ := ands h
      exact s_ex (sw_no h1) (sndE e hX h2).pe
    · cases h
  | .ret e, c, X, s, hX, hp, h => by
    simp only [chkS] at h
    split at h
    · exact s_ret (sndE e hX h).pe
    · split at h
      · exact s_retN
      · cases h
    · cases h
  | .ite q a b, c, X, s, hX, hp, h => by
    simp only [chkS] at h
    split at h
    · obtain ⟨h12, h3⟩ := ands h
      obtain ⟨h1, h2⟩ := ands h12
      exact s_if (sndE q hX h1).pt (sndSs a hX hp h2) (sndSs b hX hp h3)
    · cases h
  | .fo t it b, c, X, s, hX, hp, h => by
    simp only [chkS] at h
    split at h
    · obtain ⟨h, h4⟩ := ands h
      obtain ⟨h, h3⟩ := ands h
      obtain ⟨h1, h2⟩ := ands h
      exact s_for hp hX.calm h1 (sndI it hX h3) (sndT t hX h2) (sndSs b hX hp h4)
    · cases h
  | .wh q b, c, X, s, hX, hp, h => by
    simp only [chkS] at h
    split at h
    · obtain ⟨h1, h2⟩ := ands h
      exact s_wh hp (sndE q hX h1).pt (sndSs b hX hp h2)
    · cases h
  | .pass, c, X, s, hX, hp, h => by
    simp only [chkS] at h
    split at h
    · exact s_pass
    · exact s_doc
    · cases h
  | .brk, c, X, s, hX, hp, h => by
    simp only [chkS] at h
    split at h
    · exact s_brk
    · cases h
  | .cnt, c, X, s, hX, hp, h => by
    simp only [chkS] at h
    split at h
    · exact s_cnt
    · cases h
  | .nev, c, X, s, hX, hp, h => s_nev
  | .dpt i q e, c, X, s, hX, hp, h => by
    simp only [chkS] at h
    split at h
    · obtain ⟨h, h4⟩ := ands h
      obtain ⟨h, h3⟩ := ands h
      obtain ⟨h1, h2⟩ := ands h
      obtain ⟨q1, q2, q3, q4⟩ := slotB_of h1
      rw [← hX.N] at q1; rw [← hX.sc] at q2
      exact s_dpt hX.u65 q1 q2 q3 q4 (sndE q hX h3).pe (sndE e hX h4).pe (sw_no h2)
    · cases h
theorem sndSs : ∀ (iss : ISs) {c : SC} {X : Cx} {ss : List Stmt}, XOk pg k c X → PassesOwn (model X.prog X.w) X.A X.env X.xe → chkSs pg c iss ss = true → PSs X ss (tSs (pg.F k) pg.C X.K γ iss)
  | .nil, c, X, ss, hX, hp, h => by
    simp only [chkSs] at h
    split at h
    · exact s_nil
    · cases h
  | .cons s r, c, X, ss, hX, hp, h => by
    simp only [chkSs] at h
    split at h
    · obtain ⟨h1, h2⟩ := ands h
      exact s_cons (sndS s hX hp h1) (sndSs r hX hp h2)
    · cases h
end
end Rf

set_option Elab.async false
set_option linter.all false
set_option maxRecDepth 100000
set_option maxHeartbeats 4000000
/-! Rf: a def keeps its promise. -/
namespace Rf
open PySem PySem.Spec PyProof.Rows L2

section
variable {K : PySem.W.Frag} {γ : Gam} {G H G' H' : Hp} {env : Ev} {σ : L2.St}
theorem ArsR.get {i : Nat} {a : Ar} : ∀ {as : List Ar} {vs : List V} {i : Nat}, ArsR K G H as vs → as[i]? = some a → ∃ v, vs[i]? = some v ∧ ArR K G H a v
  | _, _, _, .nil, h => by simp at h
  | _, _, 0, .cons r _, h => by simp at h; subst h; exact ⟨_, rfl, r⟩
  | _, _, i + 1, .cons _ rr, h => by
    obtain ⟨v, h1, h2⟩ := ArsR.get (i := i) rr (by simpa using h)
    exact ⟨v, by simpa using h1, h2⟩
theorem io_mem {a : Addr} {xs : List D} : ∀ {as : List Ar} {vs : List V} {i : Nat}, as[i]? = some (.io xs) → vs[i]? = some (.ref a) → a ∈ ioAd as vs
  | [], _, _, h, _ => by simp at h
  | _ :: _, [], _, _, h => by simp at h
  | b :: as, v :: vs, 0, h1, h2 => by
    simp at h1 h2
    subst h1; subst h2
    exact List.mem_cons_self
  | b :: as, v :: vs, i + 1, h1, h2 => by
    have := io_mem (as := as) (vs := vs) (i := i) (by simpa using h1) (by simpa using h2)
    cases b with
    | io ys => cases v <;> first | exact List.mem_cons_of_mem _ this | exact this
    | pu d => cases v <;> exact this
    | sc ys => cases v <;> exact this
theorem io_inj {a : Addr} {xs ys : List D} : ∀ {as : List Ar} {vs : List V} {i j : Nat}, (ioAd as vs).Nodup → as[i]? = some (.io xs) → vs[i]? = some (.ref a) → as[j]? = some (.io ys) → vs[j]? = some (.ref a) → i = j
  | [], _, _, _, _, h, _, _, _ => by simp at h
  | _ :: _, [], _, _, _, _, h, _, _ => by simp at h
  | b :: as, v :: vs, 0, 0, _, _, _, _, _ => rfl
  | b :: as, v :: vs, 0, j + 1, nd, h1, h2, h3, h4 => by
    simp at h1 h2
    subst h1; subst h2
    have := io_mem (as := as) (vs := vs) (i := j) (by simpa using h3) (by simpa using h4)
    exact absurd this (List.nodup_cons.mp nd).1
  | b :: as, v :: vs, i + 1, 0, nd, h1, h2, h3, h4 => by
    simp at h3 h4
    subst h3; subst h4
    have := io_mem (as := as) (vs := vs) (i := i) (by simpa using h1) (by simpa using h2)
    exact absurd this (List.nodup_cons.mp nd).1
  | b :: as, v :: vs, i + 1, j + 1, nd, h1, h2, h3, h4 => by
    have nd' : (ioAd as vs).Nodup := by
      cases b with
      | io ys => cases v <;> first | exact (List.nodup_cons.mp nd).2 | exact nd
      | pu d => cases v <;> exact nd
      | sc ys => cases v <;> exact nd
    exact congrArg Nat.succ (io_inj nd' (by simpa using h1) (by simpa using h2) (by simpa using h3) (by simpa using h4))
theorem slOf_get : ∀ {as : List Ar} {t i : Nat} {s : Sl}, (slOf t as)[i]? = some s → ∃ a, as[i]? = some a ∧ s = (match a with | .pu d => .val d | .io xs => .own (t + i + 1) xs | .sc xs => .scr (t + i + 1) xs)
  | [], _, _, _, h => by simp [slOf] at h
  | a :: as, t, 0, s, h => by
    cases a <;> simp [slOf] at h <;> exact ⟨_, rfl, h.symm⟩
  | a :: as, t, i + 1, s, h => by
    have h' : (slOf (t + 1) as)[i]? = some s := by cases a <;> simpa [slOf] using h
    obtain ⟨b, h1, h2⟩ := slOf_get h'
    refine ⟨b, by simpa using h1, ?_⟩
    rw [h2]
    have e : t + 1 + i + 1 = t + (i + 1) + 1 := by omega
    cases b <;> simp only [e]
theorem slOf_len : ∀ (as : List Ar) (t : Nat), (slOf t as).length = as.length
  | [], _ => rfl
  | a :: as, t => by cases a <;> simp [slOf, slOf_len as (t + 1)]
/-- where the lists handed in stand -/
def tauOf (vs : List V) (t : Nat) : Addr := match vs[t - 1]? with
  | some (.ref a) => a
  | _ => 0
theorem entry_ok {as : List Ar} {vs : List V} {n : Nat} {N : List Str} (sub : Sub G H) (ar : ArsR K G H as vs) (nd : (ioAd as vs).Nodup) (hN : N.length = n) (hv : vs.length ≤ n) :
    Sr K ⟨tauOf vs, H⟩ G H (slOf 0 as ++ List.replicate (n - vs.length) .emp) (start N vs) ∧ ∀ a, Ow (slOf 0 as ++ List.replicate (n - vs.length) .emp) (start N vs) a → a ∈ ioAd as vs := by
  have la := ar.length
  have at1 : ∀ {i : Nat} {s : Sl}, (slOf 0 as ++ List.replicate (n - vs.length) Sl.emp)[i]? = some s → s = .emp ∨ ∃ a v, as[i]? = some a ∧ vs[i]? = some v ∧ ArR K G H a v ∧ (start N vs)[i]? = some (some v) ∧ s = (match a with | .pu d => .val d | .io xs => .own (i + 1) xs | .sc xs => .scr (i + 1) xs) := fun {i s} h => by
    by_cases hi : i < (slOf 0 as).length
    · rw [List.getElem?_append_left hi] at h
      obtain ⟨a, h1, h2⟩ := slOf_get h
      obtain ⟨v, h3, h4⟩ := ar.get (i := 0) h1
      refine .inr ⟨a, v, h1, h3, h4, ?_, by rw [h2]; cases a <;> simp⟩
      unfold L2.start
      rw [List.getElem?_append_left (by rw [List.length_map, ← la, ← slOf_len as 0]; exact hi), List.getElem?_map, h3]
      rfl
    · rw [List.getElem?_append_right (by omega), List.getElem?_replicate] at h
      split at h
      · cases h; exact .inl rfl
      · cases h
  have own1 : ∀ {i : Nat} {a : Addr}, OwnAt (slOf 0 as ++ List.replicate (n - vs.length) Sl.emp) (start N vs) i a → ∃ xs, as[i]? = some (.io xs) ∧ vs[i]? = some (.ref a) := fun {i a} ⟨⟨t, h, io⟩, h'⟩ => by
    rcases at1 h with z | ⟨b, v, h1, h2, h3, h4, h5⟩
    · subst z; cases io
    · rw [h4] at h'
      cases h'
      cases b <;> simp only at h5 <;> subst h5 <;> first | (cases io; done) | exact ⟨_, h1, h2⟩
  refine ⟨⟨sub, ?_, fun i s h => ?_, fun i j a h h' => ?_⟩, fun a ⟨i, h⟩ => ?_⟩
  · unfold L2.start
    rw [List.length_append, List.length_append, slOf_len, List.length_replicate, List.length_map, List.length_replicate, la, hN]
  · rcases at1 h with z | ⟨b, v, h1, h2, h3, h4, h5⟩
    · subst z; trivial
    · subst h5
      cases b with
      | pu d => exact ⟨v, h4, h3⟩
      | io xs =>
        obtain ⟨a, ys, rfl, q1, q2, q3⟩ := h3
        refine ⟨a, ys, h4, q1, q2, q3, fun z => (nomatch z), fun _ => ?_⟩
        show a = tauOf vs (i + 1)
        unfold tauOf
        rw [Nat.add_sub_cancel, h2]
      | sc xs =>
        obtain ⟨a, ys, rfl, q1, q2⟩ := h3
        exact ⟨a, ys, h4, q1, q2⟩
  · obtain ⟨xs, q1, q2⟩ := own1 h
    obtain ⟨ys, q3, q4⟩ := own1 h'
    exact io_inj nd q1 q2 q3 q4
  · obtain ⟨xs, q1, q2⟩ := own1 h
    exact io_mem q1 q2
theorem outs_ok {e : Ev} {σ' : L2.St} {G0 H0 : Hp} (s : Sr K γ G' H' e σ') : ∀ {as : List Ar} {vs : List V} {t : Nat} {outs : List (List D)}, ArsR K G0 H0 as vs → (∀ (j : Nat) (a : Addr), vs[j]? = some (.ref a) → γ.τ (t + j + 1) = a) → outsOf e t as = some outs → OutsR K G' H' (ioAd as vs) outs
  | _, _, _, _, .nil, _, h => by simp only [outsOf] at h; cases h; exact .nil
  | _, _, t, outs, .cons (a := b) (x := v) (as := as) (xs := vs) r rr, hτ, h => by
    have hτ' : ∀ (j : Nat) (a : Addr), vs[j]? = some (.ref a) → γ.τ (t + 1 + j + 1) = a := fun j a q => by
      have := hτ (j + 1) a (by simpa using q)
      have e1 : t + (j + 1) + 1 = t + 1 + j + 1 := by omega
      rw [e1] at this
      exact this
    cases b with
    | pu d =>
      simp only [outsOf] at h
      have := outs_ok s rr hτ' h
      cases v <;> exact this
    | sc xs =>
      simp only [outsOf] at h
      have := outs_ok s rr hτ' h
      cases v <;> exact this
    | io xs =>
      simp only [outsOf] at h
      split at h
      · rename_i u ys xss h1 h2
        split at h
        · rename_i hu
          cases h
          obtain ⟨a, zs, rfl, _⟩ := r
          obtain ⟨a', ws, q1, q2, q3, q4, q5, q6⟩ := s.slot t _ h1
          have e1 : a' = γ.τ u := q6 (by omega)
          have e2 := hτ 0 a rfl
          have e3 : a' = a := by rw [e1, hu, ← e2]
          subst e3
          exact .cons q2 q3 q4 (outs_ok s rr hτ' h2)
        · cases h
      · cases h
theorem rv_ok {e : Ev} {σ' : L2.St} {x : V} {o : Opd} {rv : Rv} (s : Sr K γ G' H' e σ') (r : OpdR K G' H' e σ' H x o) (h : rvOf e o = some rv) (h0 : γ.h0 = H) : RvR K G' H' H x rv := by
  cases o with
  | pu d => simp only [rvOf] at h; cases h; exact r
  | fr xs =>
    simp only [rvOf] at h; cases h
    obtain ⟨a, ys, q1, q2, q3, q4, _, q5⟩ := r
    exact ⟨a, ys, q1, q2, q3, q4, q5⟩
  | fo xs => simp only [rvOf] at h; cases h
  | fd xs => simp only [rvOf] at h; cases h
  | bo i =>
    have r' : σ'[i]? = some (some x) := r
    simp only [rvOf] at h
    split at h
    · rename_i xs q
      cases h
      obtain ⟨a, ys, w1, w2, w3, w4, w5, _⟩ := s.slot i _ q
      rw [r'] at w1; cases w1
      exact ⟨a, ys, rfl, w2, w3, w4, by rw [← h0]; exact w5 rfl⟩
    · cases h
end

theorem guards_deeper {A : Around} {env : Env} : (A.deeper env).guards = A.guards := by
  first | rfl | simp [Around.deeper]
theorem fnG_of {pg : Pg} {P : Program} {w : World} {K : PySem.W.Frag} {mg : Str → Option Value} {base : Heap} {k fi : Nat} {f : Addr} {name qual : Str} {params : Arguments} {body : List Stmt} {scope : Scope} {dV kV doc pm cdv ct oc : Value} {an od : Option Addr}
    {osl : Array (Option Value)} {N ps : List Str} {fn : Fn} (lk : K.lookup f = some ⟨oc, od, .func (PySem.W.fnOf name qual params body scope dV kV doc pm an cdv ct), osl⟩) (hcd : PySem.W.codeIn K cdv qual = true) (S : FnScope N ps scope)
    (hfn : pg.T[fi]? = some fn) (hnp : fn.np = ps.length) (hns : fn.ns = N.length) (hchk : chkSs pg ⟨N, scope, fun _ => true⟩ fn.body body = true) (hpg : PgOk pg k P w K mg base) :
    FnG P w K mg base (k + 1) f (PySem.W.fnOf name qual params body scope dV kV doc pm an cdv ct) ps (spF K (pg.F (k + 1)) fi ps.length) := by
  refine ⟨fun vs H Q E ⟨_, _, _, _, _, _, _, _, hl, _⟩ => hl, fun A outer s H args us vs Q E hr hgd e0 hb r hsp => ?_⟩
  obtain ⟨G, as, rv, outs, sub, ar, nd, hF, hl, cont⟩ := hsp
  have KX : K.In s.heap := e0.mod.kin.keeps fun b o e => (e0.bs b o e).1
  have lim : s.heap.NoLimit := e0.mod.nolimit.keeps fun b o e => (e0.bs b o e).1
  have hkind : ∀ y ∈ ps.zip us, scope.names.lookup y.1 = some .local ∨ (scope.names.lookup y.1 = some .cell ∧ ((cellsFrom (s.heap.objs.size + 1) scope.names []).lookup y.1).isSome = true) := fun ⟨n, v⟩ hy => by
    rcases S.par n (List.of_mem_zip hy).1 with q | q
    · exact .inl q
    · exact .inr ⟨q, PySem.W.cellsFrom_some _ _ _ (.inl q)⟩
  refine codeAny_call_function hr.depth (KX _ _ lk) rfl S.co S.gen rfl (PySem.W.codeRec_of KX hcd) (hb _ _ _ _ ?_)
  refine wpAny_newFunctionEnv_cells S.kind hkind fun env he s1 x => ?_
  subst he
  refine ⟨lim.keeps x.toInCall.keep, codeAny_func ?_⟩
  have I : Inv (cxOf (fun _ _ _ _ _ _ => False) P w K mg base N qual scope f cdv A outer s H (fun _ _ _ => False)) [] (start N vs) H s1 := inv_start S hr.hd e0 hl r x
  -- the run
  have hF' : callN pg.C pg.T (k + 1) fi as = some (rv, outs) := hF
  simp only [callN, hfn] at hF'
  simp only [runF] at hF'
  have hpl : ps.length ≤ N.length := by have := congrArg List.length S.pre; rw [List.length_take] at this; omega
  split at hF'
  · rename_i hnl
    split at hF'
    · rename_i fl hev
      have hX : XOk pg k ⟨N, scope, fun _ => true⟩ (cxOf (fun _ _ _ _ _ _ => False) P w K mg base N qual scope f cdv A outer s H (fun _ _ _ => False)) :=
        ⟨rfl, S.nd, rfl, rfl, rfl, hr.deeper _, by show (A.deeper _).guards = _; rw [guards_deeper]; exact hgd, hpg⟩
      have hp : PassesOwn (model P w) (A.deeper (envOfC qual scope s.heap.objs.size f cdv)) (envOfC qual scope s.heap.objs.size f cdv) (cxOf (fun _ _ _ _ _ _ => False) P w K mg base N qual scope f cdv A outer s H (fun _ _ _ => False)).xe := PassesOwn.leaving
      have ss := sndSs (γ := ⟨tauOf vs, H⟩) fn.body hX hp hchk
      obtain ⟨sr, own⟩ := entry_ok (N := N) sub ar nd rfl (by rw [hl]; exact hpl)
      have ens : fn.ns - fn.np = N.length - vs.length := by rw [hns, hnp, hl]
      rw [ens] at hev
      have hτ : ∀ (j : Nat) (a : Addr), vs[j]? = some (.ref a) → tauOf vs (0 + j + 1) = a := fun j a q => by
        unfold tauOf
        rw [Nat.zero_add, Nat.add_sub_cancel, q]
      have cq : ∀ {G' H' : Hp} {e' : Ev} {σ' : L2.St} {x : V} {os : List (List D)} {rv' : Rv}, Sr K ⟨tauOf vs, H⟩ G' H' e' σ' → Step (Ow (slOf 0 as ++ List.replicate (N.length - vs.length) Sl.emp) (start N vs)) G H (Ow e' σ') G' H' → outsOf e' 0 as = some os → RvR K G' H' H x rv' → CallQ K G H (ioAd as vs) os rv' G' H' x := fun {G' H' e' σ' x os rv'} s' st' ho hr' =>
        ⟨s'.sub, st'.g, fun a ob h n => st'.h a ob h fun z => n (own a z), fun a h1 h2 n => st'.n a h1 h2 fun z => n (own a z), st'.f, outs_ok s' ar hτ ho, hr'⟩
      have hq : tSs (pg.F k) pg.C K ⟨tauOf vs, H⟩ fn.body { nx := fun _ H' => Q .non H', rt := Q } (start N vs) H := by
        refine ⟨G, _, fl, fun _ h => h, sr, hev, ?_⟩
        cases fl with
        | nx e' =>
          simp only [finF] at hF'
          split at hF'
          · rename_i os ho
            cases hF'
            exact fun G' H' σ' s' st' => cont G' H' _ (cq s' st' ho .non)
          · cases hF'
        | rt o e' =>
          simp only [finF] at hF'
          split at hF'
          · rename_i rv' os hr' ho
            cases hF'
            exact fun G' H' σ' x s' st' ro => cont G' H' x (cq s' st' ho (rv_ok s' ro hr' rfl))
          · cases hF'
        | bk e' => simp only [finF] at hF'; cases hF'
        | ct e' => simp only [finF] at hF'; cases hF'
      refine wpAny_mono (ss.run [] s1 (start N vs) H _ I hq) (fun fl' s' hs => ?_) fun e s' hs => hs
      have fin : ∀ {σ' : L2.St} {H' : Hp} {v : V} {u : Value}, Inv (cxOf (fun _ _ _ _ _ _ => False) P w K mg base N qual scope f cdv A outer s H (fun _ _ _ => False)) [] σ' H' s' → RelV v u → Q v H' → CE outer P w H s Q u s' :=
        fun {σ' H' v u} J rv q => ⟨v, H', J.os, J.bare, J.base, J.hok, rv, q⟩
      cases fl' with
      | ret u =>
        obtain ⟨v, σ', H', J, rv, q⟩ := hs
        exact fin J rv q
      | next =>
        obtain ⟨σ', H', J, q⟩ := hs
        exact fin (v := V.non) (u := Value.none) J rfl q
      | brk =>
        obtain ⟨_, _, _, q⟩ := hs
        exact False.elim q
      | cont =>
        obtain ⟨_, _, _, q⟩ := hs
        exact False.elim q
    · cases hF'
  · cases hF'
end Rf

set_option Elab.async false
set_option linter.all false
set_option maxRecDepth 100000
set_option maxHeartbeats 4000000
/-! Rf: a whole program's defs keep their promises; the law's end. -/
namespace Rf
open PySem PySem.Spec PyProof.Rows L2

/-! ### binding -/
theorem look_none {n : Str} : ∀ {ps : List Str} {us : List Value}, n ∉ ps → (ps.zip us).lookup n = none
  | [], _, _ => rfl
  | _ :: _, [], _ => rfl
  | p :: ps, u :: us, h => by
    simp only [List.mem_cons, not_or] at h
    rw [List.zip_cons_cons, List.lookup_cons, beq_false_of_ne h.1]
    exact look_none h.2
theorem look_some {n : Str} : ∀ {ps : List Str} {us : List Value}, us.length = ps.length → n ∈ ps → ((ps.zip us).lookup n).isNone = false
  | [], _, _, h => by cases h
  | _ :: _, [], h, _ => by simp at h
  | p :: ps, u :: us, h, hm => by
    rw [List.zip_cons_cons, List.lookup_cons]
    by_cases q : n = p
    · subst q; simp
    · rw [beq_false_of_ne q]
      exact look_some (by simpa using h) ((List.mem_cons.mp hm).elim (fun z => absurd z q) id)
theorem fm_congr {α β : Type} {f g : α → Option β} : ∀ {l : List α}, (∀ a ∈ l, f a = g a) → l.filterMap f = l.filterMap g
  | [], _ => rfl
  | a :: l, h => by
    rw [List.filterMap_cons, List.filterMap_cons, h a List.mem_cons_self, fm_congr fun b hb => h b (List.mem_cons_of_mem _ hb)]
theorem look_zip : ∀ {ps : List Str} {us : List Value}, ps.Nodup → us.length = ps.length → ps.filterMap (fun n => ((ps.zip us).lookup n).map (n, ·)) = ps.zip us
  | [], us, _, _ => rfl
  | _ :: _, [], _, h => by simp at h
  | p :: ps, u :: us, nd, h => by
    obtain ⟨n1, n2⟩ := List.nodup_cons.mp nd
    rw [List.zip_cons_cons, List.filterMap_cons, List.lookup_cons, beq_self_eq_true]
    simp only [Option.map_some]
    congr 1
    refine Eq.trans (fm_congr fun n hn => ?_) (look_zip n2 (by simpa using h))
    have ne : n ≠ p := fun z => by subst z; exact n1 hn
    rw [List.lookup_cons, beq_false_of_ne ne]
theorem bind_pos {fd : FuncData} {as : List Arg} {kd : List (Option Expr)} (hp : fd.params = ⟨[], as, none, [], kd, none, []⟩) (hd : fd.defaults = .none) (nd : (as.map (·.arg)).Nodup) (us : List Value) (hl : us.length = as.length) :
    bindArgs fd ⟨us, []⟩ = pure ((as.map (·.arg)).zip us) := by
  have hl' : us.length = (as.map (·.arg)).length := by rw [List.length_map]; exact hl
  have h1 := look_zip nd hl'
  have h2 : ((as.map (·.arg)).take as.length).filter (fun n => (((as.map (·.arg)).zip us).lookup n).isNone) = [] := by
    rw [List.filter_eq_nil_iff]
    intro n hn
    rw [look_some hl' (List.mem_of_mem_take hn)]
    decide
  unfold bindArgs
  simp only [hp, hd]
  rw [show seqItems? Value.none = pure none from rfl]
  simp [hl, List.map_nil, List.nil_append, List.length_map, List.drop_nil, h2]
  rw [List.filterMap_map] at h1
  rw [h1]

/-! ### rows of defs -/
/-- a def: its name, parameters, body, scope, its names by slot, its IR -/
structure DR where
  x : Str
  a : Arguments
  b : List Stmt
  sc : Scope
  N : List Str
  fn : Fn
def DR.ps (d : DR) : List Str := d.a.args.map (·.arg)
def DR.D (d : DR) : He.DefD := ⟨(d.x, none), d.x, d.x, d.a, d.b, d.sc, [], []⟩
def findDef (x : Str) : List Stmt → Option (Arguments × List Stmt × Scope)
  | [] => none
  | .FunctionDef n a b _ _ _ sc _ _ _ :: r => if n = x then some (a, b, sc) else findDef x r
  | _ :: r => findDef x r
def mkDR (body : List Stmt) (q : Str × List Str × Fn) : DR := match findDef q.1 body with
  | some (a, b, sc) => ⟨q.1, a, b, sc, q.2.1, q.2.2⟩
  | none => ⟨q.1, ⟨[], [], none, [], [], none, []⟩, [], ⟨.function, [], false, false, []⟩, q.2.1, q.2.2⟩
def mkPg (drs : List DR) (gl : List (Str × D)) (bn : List Str) (gcd : Bool) (kws : List (Nat × List Str × List Nat)) : Pg := ⟨drs.map fun d => (d.x, d.ps, d.fn), gl, bn, gcd, kws⟩
def plainArgs (a : Arguments) : Bool := match a with
  | ⟨[], _, none, [], _, none, []⟩ => true
  | _ => false
def strNodup : List Str → Bool
  | [] => true
  | x :: r => !r.contains x && strNodup r
theorem strNodup_ok : ∀ {l : List Str}, strNodup l = true → l.Nodup
  | [], _ => .nil
  | x :: r, h => by
    obtain ⟨h1, h2⟩ := ands h
    refine List.nodup_cons.mpr ⟨fun z => ?_, strNodup_ok h2⟩
    simp [z] at h1
def chkDR (pg : Pg) (d : DR) : Bool :=
  plainArgs d.a && isFun d.sc && !d.sc.isCoroutine && !d.sc.isGenerator && strNodup d.N && decide (d.N.take d.ps.length = d.ps) && (d.ps.all fun x => match d.sc.names.lookup x with
    | some .local => true
    | some .cell => true
    | _ => false) && (d.sc.names.all fun y => match y.2 with
    | .free => false
    | _ => true) && Nat.beq d.fn.np d.ps.length && Nat.beq d.fn.ns d.N.length && chkSs pg ⟨d.N, d.sc, fun _ => true⟩ d.fn.body d.b
def KwAll (drs : List DR) : List (Nat × List Str × List Nat) → Prop
  | [] => True
  | (f, ks, p) :: r => (∃ d, drs[f]? = some d ∧ ∀ (kV doc pm : Value) (an : Option Addr) (cdv ct : Value) (ws : List Value), ws.length = ks.length → ∃ us, pick ws p = some us ∧ bindArgs (PySem.W.fnOf d.x d.x d.a d.b d.sc .none kV doc pm an cdv ct) ⟨[], ks.zip ws⟩ = pure (d.ps.zip us)) ∧ KwAll drs r
theorem KwAll.get {drs : List DR} : ∀ {l : List (Nat × List Str × List Nat)} {f : Nat} {ks : List Str} {p : List Nat}, KwAll drs l → (f, ks, p) ∈ l → ∃ d, drs[f]? = some d ∧ ∀ (kV doc pm : Value) (an : Option Addr) (cdv ct : Value) (ws : List Value), ws.length = ks.length → ∃ us, pick ws p = some us ∧ bindArgs (PySem.W.fnOf d.x d.x d.a d.b d.sc .none kV doc pm an cdv ct) ⟨[], ks.zip ws⟩ = pure (d.ps.zip us)
  | [], _, _, _, _, h => by cases h
  | (f, ks, p) :: r, _, _, _, k, h => by
    rcases List.mem_cons.mp h with e | h
    · cases e; exact k.1
    · exact KwAll.get k.2 h

/-! ### constants -/
mutual
def dvB (K : PySem.W.Frag) : D → Value → Bool
  | .none, .none => true
  | .bool a, .bool b => a == b
  | .int i, .int j _ => decide (i = j)
  | .str x, .str y _ => decide (x = y)
  | .tuple ds, .ref a => (match K.lookup a with
    | some ⟨.type c, _, .seq its _, _⟩ => decide (c = "tuple") && (decide (its.size ≤ sizeLine) && dvAll K ds its.toList)
    | _ => false)
  | _, _ => false
def dvAll (K : PySem.W.Frag) : List D → List Value → Bool
  | [], [] => true
  | d :: ds, u :: us => dvB K d u && dvAll K ds us
  | _, _ => false
end
mutual
theorem dv_ok {K : PySem.W.Frag} : ∀ (d : D) {u : Value}, dvB K d u = true → ∃ v, RelV v u ∧ ∀ G, Pu K G d v
  | .none, u, h => by
    cases u <;> simp only [dvB] at h <;> first | (cases h; done) | exact ⟨.non, rfl, fun _ => .non⟩
  | .bool a, u, h => by
    cases u <;> simp only [dvB] at h <;> first | (cases h; done) | skip
    have e := eq_of_beq h
    subst e
    exact ⟨.bl _, rfl, fun _ => .bl _⟩
  | .int i, u, h => by
    cases u <;> simp only [dvB] at h <;> first | (cases h; done) | skip
    have e := of_decide_eq_true h
    subst e
    exact ⟨.int _, ⟨_, rfl⟩, fun _ => .int _⟩
  | .str i, u, h => by
    cases u <;> simp only [dvB] at h <;> first | (cases h; done) | skip
    have e := of_decide_eq_true h
    subst e
    exact ⟨.str _, ⟨_, rfl⟩, fun _ => .str _⟩
  | .list ds, u, h => by simp only [dvB] at h; cases h
  | .dict ds, u, h => by simp only [dvB] at h; cases h
  | .tuple ds, u, h => by
    cases u <;> simp only [dvB] at h <;> first | (cases h; done) | skip
    rename_i a
    split at h
    · rename_i c od its n sl q
      obtain ⟨h1, h2⟩ := ands h
      obtain ⟨h2, h3⟩ := ands h2
      obtain ⟨vs, r, p⟩ := dvAll_ok ds h3
      exact ⟨.ref a, rfl, fun G => .tup (.inr ⟨_, its, n, q, congrArg Value.type (of_decide_eq_true h1), rfl, of_decide_eq_true h2, r⟩) (p G)⟩
    · cases h
theorem dvAll_ok {K : PySem.W.Frag} : ∀ (ds : List D) {us : List Value}, dvAll K ds us = true → ∃ vs, Vals vs us ∧ ∀ G, PuA K G ds vs
  | [], us, h => by
    cases us <;> simp only [dvAll] at h <;> first | (cases h; done) | exact ⟨[], .nil, fun _ => .nil⟩
  | d :: ds, us, h => by
    cases us <;> simp only [dvAll] at h <;> first | (cases h; done) | skip
    obtain ⟨h1, h2⟩ := ands h
    obtain ⟨v, r, p⟩ := dv_ok d h1
    obtain ⟨vs, rs, ps⟩ := dvAll_ok ds h2
    exact ⟨v :: vs, .cons r rs, fun G => .cons (p G) (ps G)⟩
end

/-! ### the Hook -/
open He in
def chkK (pg : Pg) (K : PySem.W.Frag) : Bool := (pg.fns.all fun q => eqO (PySem.W.nsIn K mainGlobals q.1) (some (some (.ref (ga K q.1))))) && (pg.bn.all fun x => eqO (PySem.W.nsIn K mainGlobals x) (some none)) &&
  (!pg.gcd || eqO (PySem.W.nsIn K mainGlobals "gcd") (some (some (.builtin "math.gcd")))) && (pg.gl.all fun q => match PySem.W.nsIn K mainGlobals q.1 with
    | some (some v) => dvB K q.2 v
    | _ => false)
open He in
def obsR (pg : Pg) (fn : List DefD) (K : PySem.W.Frag) : AlD := (chkK pg K && fn.all fun d => d.ok K, fn.map fun d => fnW K d.at_)
open He in
def hookR (n : Nat) (pg : Pg) (fn : List DefD) : PySem.W.Hook where
  α := AlD
  obs := fun s => obsR pg fn (frG s.heap.get? (asD s.heap.get? n))
  val := fun _ => valD fn
  says := fun _ h => ∃ K : PySem.W.Frag, K.In h ∧ obsR pg fn K = valD fn
  of := fun _ _ e => ⟨_, frG_in, e⟩
  keeps := fun _ _ _ ⟨K, hK, c⟩ k => ⟨K, PySem.W.Frag.In.keeps hK k, c⟩
open He in
def obR (n : Nat) (pg : Pg) (fn : List DefD) (s : PySem.W.SharedT) : AlD := obsR pg fn (frG (HandSHeadRun.getT s) (asD (HandSHeadRun.getT s) n))
theorem obR_eq {n : Nat} {pg : Pg} {fn : List He.DefD} (s : PySem.W.SharedT) : obR n pg fn s = (hookR n pg fn).obs s.abs := by
  have e : HandSHeadRun.getT s = s.abs.heap.get? := funext (HandSHeadRun.getT_eq s)
  unfold obR
  rw [e]
  rfl
section
variable {pg : Pg} {fn : List He.DefD} {K : PySem.W.Frag}
theorem says_chk (c : obsR pg fn K = He.valD fn) : chkK pg K = true := (ands (show (chkK pg K && fn.all fun d => d.ok K) = true from congrArg (fun z : He.AlD => z.1) c)).1
theorem says_def (c : obsR pg fn K = He.valD fn) {i : Nat} {d : He.DefD} (h : fn[i]? = some d) : ∃ fd, FunD K d.name d.qual d.params d.body d.scope (d.dvs K) (d.kws K) (He.fAd K d.at_) fd := by
  have c2 := (ands (show (chkK pg K && fn.all fun d => d.ok K) = true from congrArg (fun z : He.AlD => z.1) c)).2
  have e : fn.map (fun d => He.fnW K d.at_) = fn.map He.DefD.val := congrArg (fun z : He.AlD => z.2) c
  have e2 : (fn.map fun d => He.fnW K d.at_)[i]? = (fn.map He.DefD.val)[i]? := by rw [e]
  rw [List.getElem?_map, List.getElem?_map, h] at e2
  exact He.DefD.funD (Option.some.inj e2) (List.all_eq_true.mp c2 d (List.mem_of_getElem? h))
end

/-! ### every def keeps its promise -/
theorem fn_zero {pg : Pg} {P : Program} {w : World} {K : PySem.W.Frag} {mg : Str → Option Value} {base : Heap} {a : Addr} {fd : FuncData} {f : Nat} {ps : List Str} : FnG P w K mg base 0 a fd ps (spF K (pg.F 0) f ps.length) :=
  ⟨fun vs H Q E ⟨_, _, _, _, _, _, _, _, hl, _⟩ => hl, fun A outer s H args us vs Q E _ _ _ _ _ ⟨_, _, _, _, _, _, _, hF, _⟩ => by cases hF⟩
theorem fn_succ {pg : Pg} {P : Program} {w : World} {K : PySem.W.Frag} {mg : Str → Option Value} {base : Heap} {fd : FuncData} {f k : Nat} {d : DR} (F : FunD K d.x d.x d.a d.b d.sc [] [] (He.ga K d.x) fd) (hck : chkDR pg d = true) (hT : pg.T[f]? = some d.fn) (ih : PgOk pg k P w K mg base) :
    FnG P w K mg base (k + 1) (He.ga K d.x) fd d.ps (spF K (pg.F (k + 1)) f d.ps.length) := by
  obtain ⟨oc, od, dV, kV, doc, pm, an, cdv, ct, osl, efd, lk, hcd, hD, hK⟩ := F.ex
  subst efd
  unfold chkDR at hck
  simp only [Bool.and_eq_true] at hck
  obtain ⟨⟨⟨⟨⟨⟨⟨⟨⟨⟨k1, k2⟩, k3⟩, k4⟩, k5⟩, k6⟩, k7⟩, k8⟩, k9⟩, k10⟩, k11⟩ := hck
  have S : FnScope d.N d.ps d.sc := by
    refine ⟨isFun_of k2, by simpa using k3, by simpa using k4, strNodup_ok k5, of_decide_eq_true k6, fun x hx => ?_, fun y hy z => ?_⟩
    · have q := List.all_eq_true.mp k7 x hx
      split at q
      · rename_i e; exact .inl e
      · rename_i e; exact .inr e
      · cases q
    · have q := List.all_eq_true.mp k8 y hy
      rw [z] at q
      cases q
  exact fnG_of lk hcd S hT (Nat.eq_of_beq_eq_true k9) (Nat.eq_of_beq_eq_true k10) k11 ih
theorem pgOk {drs : List DR} {gl : List (Str × D)} {bn : List Str} {gcd : Bool} {kws : List (Nat × List Str × List Nat)} {P : Program} {w : World} {K : PySem.W.Frag} {mg : Str → Option Value} {base h : Heap} (X : K.In h) (G : h.Ns mainGlobals mg)
    (c : obsR (mkPg drs gl bn gcd kws) (drs.map DR.D) K = He.valD (drs.map DR.D)) (hchk : drs.all (chkDR (mkPg drs gl bn gcd kws)) = true) (hkw : KwAll drs kws) : ∀ k, PgOk (mkPg drs gl bn gcd kws) k P w K mg base := by
  have cc := says_chk c
  unfold chkK at cc
  obtain ⟨cc, c4⟩ := ands cc
  obtain ⟨cc, c3⟩ := ands cc
  obtain ⟨c1, c2⟩ := ands cc
  have key : ∀ k, (∀ (f : Nat) (d : DR), drs[f]? = some d → ∀ fd, FunD K d.x d.x d.a d.b d.sc [] [] (He.ga K d.x) fd → FnG P w K mg base k (He.ga K d.x) fd d.ps (spF K ((mkPg drs gl bn gcd kws).F k) f d.ps.length)) → PgOk (mkPg drs gl bn gcd kws) k P w K mg base := fun k hF => by
    refine ⟨fun n y d hq => ?_, fun x hx => ?_, fun hg => ?_, fun f x ps fn hq => ?_⟩
    · have q := List.all_eq_true.mp c4 (y, d) (List.mem_of_getElem? hq)
      dsimp only at q
      split at q
      · rename_i v e
        obtain ⟨v', r, p⟩ := dv_ok d q
        exact ⟨v', v, PySem.W.mg_of X G e, r, p⟩
      · cases q
    · exact PySem.W.mg_none_of X G (He.eqO_ok (List.all_eq_true.mp c2 x hx))
    · have hg' : gcd = true := hg
      have q : (!gcd || He.eqO (PySem.W.nsIn K mainGlobals "gcd") (some (some (.builtin "math.gcd")))) = true := c3
      rw [hg'] at q
      exact PySem.W.mg_of X G (He.eqO_ok q)
    · have hq' : (drs.map fun d => (d.x, d.ps, d.fn))[f]? = some (x, ps, fn) := hq
      rw [List.getElem?_map] at hq'
      obtain ⟨d, hd, e⟩ := Option.map_eq_some_iff.mp hq'
      cases e
      obtain ⟨fd, F⟩ := says_def c (i := f) (d := d.D) (by rw [List.getElem?_map, hd]; rfl)
      have F' : FunD K d.x d.x d.a d.b d.sc [] [] (He.ga K d.x) fd := F
      have hck := List.all_eq_true.mp hchk d (List.mem_of_getElem? hd)
      unfold chkDR at hck
      simp only [Bool.and_eq_true] at hck
      obtain ⟨⟨⟨⟨⟨⟨⟨⟨⟨⟨k1, k2⟩, k3⟩, k4⟩, k5⟩, k6⟩, k7⟩, k8⟩, k9⟩, k10⟩, k11⟩ := hck
      have hnp : d.fn.np = d.ps.length := Nat.eq_of_beq_eq_true k9
      have q := List.all_eq_true.mp c1 (d.x, d.ps, d.fn) (List.mem_map.mpr ⟨d, List.mem_of_getElem? hd, rfl⟩)
      refine ⟨He.ga K d.x, fd, PySem.W.mg_of X G (He.eqO_ok q), F'.kp, hnp, ⟨fun s us _ hl => ?_, fun ks p hm s ws _ hl => ?_⟩, hF f d hd fd F'⟩
      · have nd : d.ps.Nodup := by
          have e := of_decide_eq_true k6
          rw [← e]
          exact (strNodup_ok k5).sublist (List.take_sublist _ _)
        refine FunD.bindsA (ps := d.ps) F' (fun kV doc pm an cdv ct us' hl' => ?_) s us hl
        have ha : ∃ as kd, d.a = ⟨[], as, none, [], kd, none, []⟩ := by
          unfold plainArgs at k1
          split at k1
          · rename_i as kd e; exact ⟨as, kd, e⟩
          · cases k1
        obtain ⟨as, kd, ha⟩ := ha
        have e1 : d.ps = as.map (·.arg) := by unfold DR.ps; rw [ha]
        rw [e1] at hl' nd ⊢
        exact bind_pos (kd := kd) (show (PySem.W.fnOf d.x d.x d.a d.b d.sc .none kV doc pm an cdv ct).params = _ from ha) rfl nd us' (by simpa using hl')
      · obtain ⟨d', hd', hb⟩ := hkw.get hm
        rw [hd] at hd'
        cases hd'
        obtain ⟨oc, od, dV, kV, doc, pm, an, cdv, ct, osl, efd, lk, hcd, hD, hK⟩ := F'.ex
        obtain ⟨us, p1, p2⟩ := hb kV doc pm an cdv ct ws hl
        refine ⟨us, p1, ?_⟩
        rcases hD with ⟨_, e⟩ | ⟨e, _⟩
        · subst e; subst efd
          exact .of_eq p2
        · exact absurd rfl e
  intro k
  induction k with
  | zero => exact key 0 fun f d hd fd F => fn_zero
  | succ k ih => exact key (k + 1) fun f d hd fd F => fn_succ F (List.all_eq_true.mp hchk d (List.mem_of_getElem? hd)) (by
      show ((drs.map fun d => (d.x, d.ps, d.fn)).map (·.2.2))[f]? = some d.fn
      rw [List.map_map, List.getElem?_map, hd]; rfl) ih
/-- the same, by the def's own datum -/
theorem fn_all {drs : List DR} {gl : List (Str × D)} {bn : List Str} {gcd : Bool} {kws : List (Nat × List Str × List Nat)} {P : Program} {w : World} {K : PySem.W.Frag} {mg : Str → Option Value} {base h : Heap} (X : K.In h) (G : h.Ns mainGlobals mg)
    (c : obsR (mkPg drs gl bn gcd kws) (drs.map DR.D) K = He.valD (drs.map DR.D)) (hchk : drs.all (chkDR (mkPg drs gl bn gcd kws)) = true) (hkw : KwAll drs kws) {f : Nat} {d : DR} (hd : drs[f]? = some d) {fd : FuncData} (F : FunD K d.x d.x d.a d.b d.sc [] [] (He.ga K d.x) fd) :
    ∀ k, FnG P w K mg base k (He.ga K d.x) fd d.ps (spF K ((mkPg drs gl bn gcd kws).F k) f d.ps.length)
  | 0 => fn_zero
  | k + 1 => fn_succ F (List.all_eq_true.mp hchk d (List.mem_of_getElem? hd)) (by
      show ((drs.map fun d => (d.x, d.ps, d.fn)).map (·.2.2))[f]? = some d.fn
      rw [List.map_map, List.getElem?_map, hd]; rfl) (pgOk X G c hchk hkw k)

/-! ### the law's end -/
theorem scr_of {K : PySem.W.Frag} {H : Hp} {a : Addr} {ys : List V} (hO : Only H) (hS : SqL K H a ys) : ScrR K H a ys := by
  rcases hS with (h | h) | h
  · rcases hO a with z | ⟨o, xs, z⟩
    · rw [h] at z; cases z
    · rw [h] at z; cases z
  · exact .inl h
  · exact .inr fun H' => .inr h
theorem pu_ints {K : PySem.W.Frag} {G : Hp} : ∀ ns : List Int, PuA K G (ns.map .int) (ns.map V.int)
  | [] => .nil
  | n :: ns => .cons (.int n) (pu_ints ns)
theorem sp_law {K : PySem.W.Frag} {F : FT} {f : Nat} {H : Hp} {a : Addr} {ns : List Int} {Q : VK} {E : XK} (hO : Only H) (hS : SqL K H a (ns.map V.int)) (h : F f [.sc (ns.map .int)] = some (.pu (.bool true), [])) (q : ∀ H', Q (.bl true) H') : spF K F f 1 [.ref a] H Q E := by
  refine ⟨fun _ => none, [.sc (ns.map .int)], _, _, fun _ _ z => (nomatch z), .cons ⟨a, ns.map V.int, rfl, scr_of hO hS, pu_ints ns⟩ .nil, .nil, h, rfl, fun G' H' x c => ?_⟩
  have r : Pu K G' (.bool true) x := c.r
  cases r
  exact q H'
end Rf

set_option Elab.async false
set_option linter.all false
set_option maxRecDepth 100000
set_option maxHeartbeats 4000000
/-! Rf: from the defs' promises to the law's word. -/
namespace Rf
open PySem PySem.Spec PyProof.Rows L2

section
variable {P : Program} {w : World} {K : PySem.W.Frag} {mg mb : Str → Option Value} {k : Nat} {fa a : Addr} {fd : FuncData} {x : Str} {sp : Sp} {s₁ : Shared} {vs : List Value} {ns : List Int}
/-- the call from the top, at an abstract heap that tracks the script alone or nothing -/
theorem call_at (KX : K.In s₁.heap) (hns : s₁.heap.Ns mainGlobals mg) (hb : s₁.heap.Ns builtinsNs mb) (hbb : ∀ x : Str, x ≠ "__name__" → mb x = bootBuiltins x) (hlim : s₁.heap.NoLimit) (hg : s₁.gens = #[])
    (ha : s₁.heap.get? a = some { cls := .type "list", data := .seq vs.toArray }) (hr : Room k callerA) (F : ∀ base : Heap, K.In base → base.Ns mainGlobals mg → FnG P w K mg base k fa fd [x] sp) (hbind : ∀ (s : Shared) (u : Value), BindsTo s fd ⟨[u], []⟩ [(x, u)])
    {H : Hp} (hO : Only H) (hok : HOk P w H s₁.heap) (hA : ∀ b, H b ≠ none → b = a) (hK : H a ≠ none → K.lookup a = none) (hsp : sp [.ref a] H (fun v _ => v = .bl true) fun _ _ _ => False) :
    codeAny (model P w) callerA (.call (.ref fa) ⟨[.ref a], []⟩) (fun r s' => r = .ok (.ret (.bool true)) ∧ OldK s₁.heap s'.heap ∧ s'.os = s₁.os ∧ AllBare s'.gens) s₁ := by
  have free : ∀ {b : Addr} {o : Obj}, s₁.heap.get? b = some o → b ≠ a → H b = none := fun {b o} _ nb => by
    cases q : H b with
    | none => rfl
    | some u => exact absurd (hA b (by rw [q]; simp)) nb
  have dictFree : ∀ {b : Addr} {o : Obj} {es : Array DictEntry} {ep : Nat}, s₁.heap.get? b = some o → o.data = .dict es ep → H b = none := fun {b o es ep} e d => free e fun z => by
    subst z
    rw [ha] at e
    cases e
    have d' : Data.seq vs.toArray _ = Data.dict es ep := d
    cases d'
  have ns' : ∀ {b : Addr} {m : Str → Option Value}, s₁.heap.Ns b m → (hidT s₁.heap H).Ns b m := fun {b m} ⟨o, es, ep, e, d, r⟩ => ⟨o, es, ep, hidT_get e (dictFree e d), d, r⟩
  have kin : K.In (hidT s₁.heap H) := fun b o e => hidT_get (KX b o e) (by
    cases q : H b with
    | none => rfl
    | some u =>
      have z := hA b (by rw [q]; simp)
      subst z
      rw [hK (by rw [q]; simp)] at e
      cases e)
  have md : Mod K mg (hidT s₁.heap H) := ⟨kin, ns' hns, ⟨mb, ns' hb, hbb⟩, let ⟨mc, h1, h2⟩ := hlim; ⟨mc, ns' h1, h2⟩⟩
  have ev : Env0 P w K mg (hidT s₁.heap H) callerA [] s₁ H := ⟨rfl, md, fun b o e => of_hidT e, Nat.le_of_eq (hidT_size _ _), trivial, fun b hb => absurd (show b ∈ ([] : List Addr) from hb) (by simp), hok, .of_eq hg⟩
  refine codeAny_mono ((F _ kin (ns' hns)).run callerA [] s₁ H ⟨[.ref a], []⟩ [.ref a] [.ref a] _ _ hr rfl ev (hbind s₁ (.ref a)) (.cons rfl .nil) hsp) fun r s' h => ?_
  rcases r with e | fl
  · exact False.elim h
  · cases fl with
    | next => exact False.elim h
    | brk => exact False.elim h
    | cont => exact False.elim h
    | ret u =>
      obtain ⟨v, H', os, bare, un, hok', rv, q⟩ := h
      have q' : v = .bl true := q
      subst q'
      have hu : u = Value.bool true := rv
      subst hu
      refine ⟨rfl, OldK.of_keep fun b o e => ?_, os, bare⟩
      rcases hO b with z | ⟨ob, xs, z⟩
      · exact un.keep b o e z (by intro y; exact absurd (show b ∈ ([] : List Addr) from y) (by simp)) (by simp)
      · obtain ⟨e1, _⟩ := hok b _ z
        obtain ⟨e2, _⟩ := hok' b _ (un.frzs b ob _ z)
        rw [e] at e1
        cases e1
        exact e2
theorem call_top (KX : K.In s₁.heap) (hns : s₁.heap.Ns mainGlobals mg) (hb : s₁.heap.Ns builtinsNs mb) (hbb : ∀ x : Str, x ≠ "__name__" → mb x = bootBuiltins x) (hlim : s₁.heap.NoLimit) (hg : s₁.gens = #[])
    (ha : s₁.heap.get? a = some { cls := .type "list", data := .seq vs.toArray }) (hi : IntsAre vs ns) (hl : ns.length ≤ sizeLine) (hr : Room k callerA) (F : ∀ base : Heap, K.In base → base.Ns mainGlobals mg → FnG P w K mg base k fa fd [x] sp)
    (hbind : ∀ (s : Shared) (u : Value), BindsTo s fd ⟨[u], []⟩ [(x, u)]) (hsp : ∀ H : Hp, Only H → SqL K H a (ns.map V.int) → sp [.ref a] H (fun v _ => v = .bl true) fun _ _ _ => False) :
    codeAny (model P w) callerA (.call (.ref fa) ⟨[.ref a], []⟩) (fun r s' => r = .ok (.ret (.bool true)) ∧ OldK s₁.heap s'.heap ∧ s'.os = s₁.os ∧ AllBare s'.gens) s₁ := by
  have rv := vals_ints hi
  have lv := hi.length
  cases hk : K.lookup a with
  | some o =>
    have e := KX a o hk
    rw [ha] at e
    cases e
    have hO : Only fun _ => none := fun _ => .inl rfl
    exact call_at KX hns hb hbb hlim hg ha hr F hbind (H := fun _ => none) hO (fun b u z => nomatch z) (fun b z => absurd rfl z) (fun z => absurd rfl z)
      (hsp _ hO (.inr ⟨_, vs.toArray, _, hk, rfl, rfl, rfl, by rw [List.size_toArray, lv]; exact hl, by simpa using rv⟩))
  | none =>
    let H1 : Hp := upd (fun _ => none) a (.frz { cls := .type "list", data := .seq vs.toArray } (.lst (ns.map V.int)))
    have at_a : H1 a = some (.frz { cls := .type "list", data := .seq vs.toArray } (.lst (ns.map V.int))) := upd_same
    have off : ∀ b, b ≠ a → H1 b = none := fun b n => upd_ne n
    have hO : Only H1 := fun b => by
      by_cases q : b = a
      · subst q; exact .inr ⟨_, _, at_a⟩
      · exact .inl (off b q)
    refine call_at KX hns hb hbb hlim hg ha hr F hbind (H := H1) hO (fun b u z => ?_) (fun b z => ?_) (fun _ => hk) (hsp _ hO (.inl (.inr ⟨_, at_a⟩)))
    · by_cases q : b = a
      · subst q
        rw [at_a] at z
        cases z
        exact ⟨ha, by rw [List.length_map]; exact hl, vs, _, rv, ha⟩
      · rw [off b q] at z; cases z
    · by_cases q : b = a
      · exact q
      · exact absurd (off b q) z
end
/-- the law's end, over a head by facts -/
theorem walk_G {l : PySem.W.OpenLaw} {n k : Nat} {q : Program} {loose : List Str} {XP : (Str → Option Value) → Heap → Prop} {YP : World → Heap → Prop} {d : DefRec} {x : Str} (hn : l.most = some n) (hn2 : n ≤ sizeLine) (hdf : d.params.defaults = []) (hr : Room k callerA)
    (F : ∀ (w : World) (mg : Str → Option Value) (fa : Addr) (h : Heap), YP w h → h.Ns mainGlobals mg → mg d.name = some (.ref fa) →
      ∃ (K : PySem.W.Frag) (fd : FuncData) (sp : Sp), K.In h ∧ (∀ (s : Shared) (u : Value), BindsTo s fd ⟨[u], []⟩ [(x, u)]) ∧
        (∀ (H : Hp) (a : Addr) (ns : List Int), ns.length ≤ n → Only H → SqL K H a (ns.map V.int) → sp [.ref a] H (fun v _ => v = .bl true) fun _ _ _ => False) ∧
        ∀ base : Heap, K.In base → base.Ns mainGlobals mg → FnG l.prog w K mg base k fa fd [x] sp) :
    PySem.W.WalkO q loose XP YP l.row.toRowW d [] (fun f vs => PySem.call f vs) := by
  refine Att.attach_call hn hdf fun w s₀ s₁ mg mb fa o pm cd doc a vs ns G Y ho hd hcd hmg hobj hints hlen hg => ?_
  obtain ⟨K, fd, sp, KX, hb, hsp, hF⟩ := F w mg fa _ Y G.T.g hmg
  exact call_top KX G.T.g G.T.b G.T.builtins G.T.nolimit hg hobj hints (Nat.le_trans hlen hn2) hr hF hb fun H hO hS => hsp H a ns hlen hO hS
/-- what the law's def promises -/
theorem law_F {drs : List DR} {gl : List (Str × D)} {bn : List Str} {gcd : Bool} {kws : List (Nat × List Str × List Nat)} {P : Program} {w : World} {n k li : Nat} {d : DR} {x : Str} {mg : Str → Option Value} {fa : Addr} {h : Heap} (hchk : drs.all (chkDR (mkPg drs gl bn gcd kws)) = true) (hkw : KwAll drs kws)
    (hd : drs[li]? = some d) (hps : d.ps = [x]) (hev : ∀ ns : List Int, ns.length ≤ n → (mkPg drs gl bn gcd kws).F k li [.sc (ns.map .int)] = some (.pu (.bool true), []))
    (Y : ∃ K : PySem.W.Frag, K.In h ∧ obsR (mkPg drs gl bn gcd kws) (drs.map DR.D) K = He.valD (drs.map DR.D)) (G : h.Ns mainGlobals mg) (hfa : mg d.x = some (.ref fa)) :
    ∃ (K : PySem.W.Frag) (fd : FuncData) (sp : Sp), K.In h ∧ (∀ (s : Shared) (u : Value), BindsTo s fd ⟨[u], []⟩ [(x, u)]) ∧
        (∀ (H : Hp) (a : Addr) (ns : List Int), ns.length ≤ n → Only H → SqL K H a (ns.map V.int) → sp [.ref a] H (fun v _ => v = .bl true) fun _ _ _ => False) ∧
        ∀ base : Heap, K.In base → base.Ns mainGlobals mg → FnG P w K mg base k fa fd [x] sp := by
  obtain ⟨K, KX, c⟩ := Y
  have hq : (mkPg drs gl bn gcd kws).fns[li]? = some (d.x, d.ps, d.fn) := by
    show (drs.map fun d => (d.x, d.ps, d.fn))[li]? = _
    rw [List.getElem?_map, hd]; rfl
  obtain ⟨fd, FD⟩ := says_def c (i := li) (d := d.D) (by rw [List.getElem?_map, hd]; rfl)
  have FD' : FunD K d.x d.x d.a d.b d.sc [] [] (He.ga K d.x) fd := FD
  have e : fa = He.ga K d.x := by
    have ok := pgOk (P := P) (w := w) (base := h) KX G c hchk hkw 0
    have cc := says_chk c
    unfold chkK at cc
    obtain ⟨cc, _⟩ := ands cc
    obtain ⟨cc, _⟩ := ands cc
    obtain ⟨c1, _⟩ := ands cc
    have q := List.all_eq_true.mp c1 (d.x, d.ps, d.fn) (List.mem_of_getElem? hq)
    have m := PySem.W.mg_of KX G (He.eqO_ok q)
    rw [hfa] at m
    cases m; rfl
  refine ⟨K, fd, spF K ((mkPg drs gl bn gcd kws).F k) li 1, KX, fun s u => ?_, fun H a ns hl hO hS => sp_law hO hS (hev ns hl) fun _ => rfl, fun base KB GB => ?_⟩
  · have hck := List.all_eq_true.mp hchk d (List.mem_of_getElem? hd)
    unfold chkDR at hck
    simp only [Bool.and_eq_true] at hck
    obtain ⟨⟨⟨⟨⟨⟨⟨⟨⟨⟨k1, k2⟩, k3⟩, k4⟩, k5⟩, k6⟩, k7⟩, k8⟩, k9⟩, k10⟩, k11⟩ := hck
    have ha : ∃ as kd, d.a = ⟨[], as, none, [], kd, none, []⟩ := by
      unfold plainArgs at k1
      split at k1
      · rename_i as kd e; exact ⟨as, kd, e⟩
      · cases k1
    obtain ⟨as, kd, ha⟩ := ha
    have e1 : d.ps = as.map (·.arg) := by unfold DR.ps; rw [ha]
    have nd : (as.map (·.arg)).Nodup := by rw [← e1, hps]; simp
    have b := FunD.bindsA (ps := d.ps) FD' (fun kV doc pm an cdv ct us' hl' => by
      rw [e1] at hl' ⊢
      exact bind_pos (kd := kd) (show (PySem.W.fnOf d.x d.x d.a d.b d.sc .none kV doc pm an cdv ct).params = _ from ha) rfl nd us' (by simpa using hl')) s [u] (by rw [hps]; rfl)
    rw [hps] at b
    exact b
  · have z := fn_all (P := P) (w := w) (base := base) KX G c hchk hkw hd FD' k
    rw [hps, ← e] at z
    exact z
end Rf

set_option Elab.async false
set_option linter.all false
set_option maxRecDepth 100000
set_option maxHeartbeats 4000000
/-! Rf: loops of the evaluator, for the plain laws. -/
namespace Rf
open PySem

/-- a comprehension: what holds between turns, what each value is -/
theorem lc_inv {st : D → Ev → Option Ev} {ts : Ev → Option (Bool × Ev)} {el : Ev → Option (D × Ev)} {own : List Nat} (I : List D → List D → Ev → Prop)
    (h : ∀ d ds xs e, I (d :: ds) xs e → ∃ e1 b e2, st d e = some e1 ∧ ts e1 = some (b, e2) ∧ (b = false → I ds xs (wipeE e2 own)) ∧ (b = true → ∃ x e3, el e2 = some (x, e3) ∧ I ds (xs ++ [x]) (wipeE e3 own))) :
    ∀ (ds xs : List D) (e : Ev), I ds xs e → ∃ ys e', lcLoop st ts el own ds e = some (ys, e') ∧ I [] (xs ++ ys) e'
  | [], xs, e, hI => ⟨[], e, rfl, by simpa using hI⟩
  | d :: ds, xs, e, hI => by
    obtain ⟨e1, b, e2, h1, h2, h3, h4⟩ := h d ds xs e hI
    cases b with
    | false =>
      obtain ⟨ys, e', q1, q2⟩ := lc_inv I h ds xs _ (h3 rfl)
      exact ⟨ys, e', by simp only [lcLoop, h1, h2, q1], q2⟩
    | true =>
      obtain ⟨x, e3, q, hI'⟩ := h4 rfl
      obtain ⟨ys, e', q1, q2⟩ := lc_inv I h ds (xs ++ [x]) _ hI'
      exact ⟨x :: ys, e', by simp only [lcLoop, h1, h2, q, q1], by simpa using q2⟩
/-- .. that leaves the slots as they were: what comes of each item is told by f -/
theorem lc_map {st : D → Ev → Option Ev} {ts : Ev → Option (Bool × Ev)} {el : Ev → Option (D × Ev)} {own : List Nat} {e : Ev} (f : D → Option D) :
    ∀ (ds : List D), (∀ d ∈ ds, ∃ e1 b e2, st d e = some e1 ∧ ts e1 = some (b, e2) ∧ (b = false → wipeE e2 own = e ∧ f d = none) ∧ (b = true → ∃ x e3, el e2 = some (x, e3) ∧ wipeE e3 own = e ∧ f d = some x)) →
      lcLoop st ts el own ds e = some (ds.filterMap f, e)
  | [], _ => rfl
  | d :: ds, h => by
    obtain ⟨e1, b, e2, h1, h2, h3, h4⟩ := h d List.mem_cons_self
    have ih := lc_map f ds fun x hx => h x (List.mem_cons_of_mem _ hx)
    cases b with
    | false =>
      obtain ⟨w, q⟩ := h3 rfl
      simp only [lcLoop, h1, h2, w, ih, List.filterMap_cons, q]
    | true =>
      obtain ⟨x, e3, q, w, qf⟩ := h4 rfl
      simp only [lcLoop, h1, h2, q, w, ih, List.filterMap_cons, qf]
/-- for: what holds before each turn; Q: how it may end -/
theorem fo_inv {st : D → Ev → Option Ev} {bd : Ev → Option Fl} (I : List D → Ev → Prop) (Q : Fl → Prop) (h0 : ∀ e, I [] e → Q (.nx e))
    (h : ∀ d ds e, I (d :: ds) e → ∃ e1 fl, st d e = some e1 ∧ bd e1 = some fl ∧ (match fl with | .nx e2 => I ds e2 | .ct e2 => I ds e2 | .bk e2 => Q (.nx e2) | .rt o e2 => Q (.rt o e2))) :
    ∀ (ds : List D) (e : Ev), I ds e → ∃ fl, foLoop st bd ds e = some fl ∧ Q fl
  | [], e, hI => ⟨_, rfl, h0 e hI⟩
  | d :: ds, e, hI => by
    obtain ⟨e1, fl, h1, h2, h3⟩ := h d ds e hI
    cases fl with
    | nx e2 =>
      obtain ⟨fl, q1, q2⟩ := fo_inv I Q h0 h ds e2 h3
      exact ⟨fl, by simp only [foLoop, h1, h2, q1], q2⟩
    | ct e2 =>
      obtain ⟨fl, q1, q2⟩ := fo_inv I Q h0 h ds e2 h3
      exact ⟨fl, by simp only [foLoop, h1, h2, q1], q2⟩
    | bk e2 => exact ⟨_, by simp only [foLoop, h1, h2], h3⟩
    | rt o e2 => exact ⟨_, by simp only [foLoop, h1, h2], h3⟩
/-- while: a measure falls -/
theorem wh_inv {ts : Ev → Option (Bool × Ev)} {bd : Ev → Option Fl} (I : Nat → Ev → Prop) (Q : Fl → Prop)
    (h : ∀ n e, I n e → ∃ b e1, ts e = some (b, e1) ∧ (b = false → Q (.nx e1)) ∧ (b = true → ∃ fl, bd e1 = some fl ∧ (match fl with | .nx e2 => ∃ m, m < n ∧ I m e2 | .ct e2 => ∃ m, m < n ∧ I m e2 | .bk e2 => Q (.nx e2) | .rt o e2 => Q (.rt o e2)))) :
    ∀ (fuel n : Nat) (e : Ev), I n e → n < fuel → ∃ fl, whLoop ts bd fuel e = some fl ∧ Q fl
  | 0, _, _, _, hf => by omega
  | fuel + 1, n, e, hI, hf => by
    obtain ⟨b, e1, h1, h2, h3⟩ := h n e hI
    cases b with
    | false => exact ⟨_, by simp only [whLoop, h1], h2 rfl⟩
    | true =>
      obtain ⟨fl, q, r⟩ := h3 rfl
      cases fl with
      | nx e2 =>
        obtain ⟨m, hm, hI'⟩ := r
        obtain ⟨fl, q1, q2⟩ := wh_inv I Q h fuel m e2 hI' (by omega)
        exact ⟨fl, by simp only [whLoop, h1, q, q1], q2⟩
      | ct e2 =>
        obtain ⟨m, hm, hI'⟩ := r
        obtain ⟨fl, q1, q2⟩ := wh_inv I Q h fuel m e2 hI' (by omega)
        exact ⟨fl, by simp only [whLoop, h1, q, q1], q2⟩
      | bk e2 => exact ⟨_, by simp only [whLoop, h1, q], r⟩
      | rt o e2 => exact ⟨_, by simp only [whLoop, h1, q], r⟩
/-- a comprehension as a whole: what comes of each item is told by f -/
theorem lcE {F : FT} {C : List D} {elt : IE} {tg : IT} {it : II} {cd : IO} {own : List Nat} {env e1 : Ev} {ds : List D} (f : D → Option D) (hI : evI F C it env = some (ds, e1)) (hz : ds.length ≤ 16777216)
    (h : ∀ d ∈ ds, ∃ a b c, asgT F C tg d (wipeE e1 own) = some a ∧ evD F C cd a = some (b, c) ∧ (b = false → wipeE c own = wipeE e1 own ∧ f d = none) ∧
      (b = true → ∃ x e3, frzE (evE F C elt c) = some (x, e3) ∧ wipeE e3 own = wipeE e1 own ∧ f d = some x)) :
    evE F C (.lc elt tg it cd own) env = some (.fr (ds.filterMap f), backE e1 (wipeE e1 own) own) := by
  have l := lc_map (st := fun d e => asgT F C tg d e) (ts := fun e => evD F C cd e) (el := fun e => frzE (evE F C elt e)) (own := own) f ds h
  have z : lenOk (ds.filterMap f).length = true := Nat.ble_eq_true_of_le (Nat.le_trans (List.length_filterMap_le f ds) hz)
  rw [evE, hI]
  simp only [lcV, l, z, if_true]
/-- .. that may change the slots -/
theorem lcEI {F : FT} {C : List D} {elt : IE} {tg : IT} {it : II} {cd : IO} {own : List Nat} {env e1 : Ev} {ds : List D} (I : List D → List D → Ev → Prop) (hI : evI F C it env = some (ds, e1)) (hi : I ds [] (wipeE e1 own))
    (h : ∀ d ds xs e, I (d :: ds) xs e → ∃ a b c, asgT F C tg d e = some a ∧ evD F C cd a = some (b, c) ∧ (b = false → I ds xs (wipeE c own)) ∧ (b = true → ∃ x e3, frzE (evE F C elt c) = some (x, e3) ∧ I ds (xs ++ [x]) (wipeE e3 own)))
    (hz : ∀ xs e, I [] xs e → xs.length ≤ 16777216) : ∃ ys e2, evE F C (.lc elt tg it cd own) env = some (.fr ys, backE e1 e2 own) ∧ I [] ys e2 := by
  obtain ⟨ys, e2, l, q⟩ := lc_inv (st := fun d e => asgT F C tg d e) (ts := fun e => evD F C cd e) (el := fun e => frzE (evE F C elt e)) (own := own) I h ds [] _ hi
  rw [List.nil_append] at q
  have z : lenOk ys.length = true := Nat.ble_eq_true_of_le (hz _ _ q)
  refine ⟨ys, e2, ?_, q⟩
  rw [evE, hI]
  simp only [lcV, l, z, if_true]
theorem foE {F : FT} {C : List D} {t : IT} {it : II} {b : ISs} {env e1 : Ev} {ds : List D} (I : List D → Ev → Prop) (Q : Fl → Prop) (hn : noSub t = true) (hI : evI F C it env = some (ds, e1)) (hi : I ds e1) (h0 : ∀ e, I [] e → Q (.nx e))
    (h : ∀ d ds e, I (d :: ds) e → ∃ a fl, asgT F C t d e = some a ∧ evSs F C b a = some fl ∧ (match fl with | .nx e2 => I ds e2 | .ct e2 => I ds e2 | .bk e2 => Q (.nx e2) | .rt o e2 => Q (.rt o e2))) : ∃ fl, evS F C (.fo t it b) env = some fl ∧ Q fl := by
  obtain ⟨fl, q1, q2⟩ := fo_inv (st := fun d e => asgT F C t d e) (bd := fun e => evSs F C b e) I Q h0 h ds e1 hi
  exact ⟨fl, by rw [evS, if_pos hn, hI]; exact q1, q2⟩
theorem whE {F : FT} {C : List D} {c : IE} {b : ISs} {env : Ev} (I : Nat → Ev → Prop) (Q : Fl → Prop) (n : Nat) (hn : n < 1000000) (hi : I n env)
    (h : ∀ n e, I n e → ∃ k e1, evE F C c e = some (.pu (.bool k), e1) ∧ (k = false → Q (.nx e1)) ∧ (k = true → ∃ fl, evSs F C b e1 = some fl ∧ (match fl with | .nx e2 => ∃ m, m < n ∧ I m e2 | .ct e2 => ∃ m, m < n ∧ I m e2 | .bk e2 => Q (.nx e2) | .rt o e2 => Q (.rt o e2)))) : ∃ fl, evS F C (.wh c b) env = some fl ∧ Q fl := by
  obtain ⟨fl, q1, q2⟩ := wh_inv (ts := fun e => match evE F C c e with | some (.pu (.bool k), e1) => some (k, e1) | _ => none) (bd := fun e => evSs F C b e) I Q (fun n e hI => by
    obtain ⟨k, e1, h1, h2, h3⟩ := h n e hI
    exact ⟨k, e1, by simp only [h1], h2, h3⟩) 1000000 n env hi hn
  exact ⟨fl, by rw [evS]; exact q1, q2⟩
theorem fmap_some {α β : Type} (f : α → β) (g : β → Option D) (h : α → D) (l : List α) (e : ∀ x ∈ l, g (f x) = some (h x)) : (l.map f).filterMap g = l.map h := by
  induction l with
  | nil => rfl
  | cons a l ih =>
    rw [List.map_cons, List.filterMap_cons, e a List.mem_cons_self]
    simp only [List.map_cons, ih fun x hx => e x (List.mem_cons_of_mem _ hx)]
theorem fmap_filter {α β : Type} (f : α → β) (g : β → Option D) (p : α → Bool) (h : α → D) (l : List α) (e : ∀ x ∈ l, g (f x) = if p x then some (h x) else none) : (l.map f).filterMap g = (l.filter p).map h := by
  induction l with
  | nil => rfl
  | cons a l ih =>
    rw [List.map_cons, List.filterMap_cons, e a List.mem_cons_self, List.filter_cons]
    have := ih fun x hx => e x (List.mem_cons_of_mem _ hx)
    cases p a <;> simp [this]
theorem bools_map {α : Type} (f : α → Bool) : ∀ l : List α, boolsOf (l.map fun x => .bool (f x)) = some (l.map f)
  | [] => rfl
  | x :: l => by simp [boolsOf, bools_map f l]
theorem ints_map : ∀ l : List Int, intsOf (l.map .int) = some l
  | [] => rfl
  | x :: l => by simp [intsOf, ints_map l]
theorem all_id {α : Type} (f : α → Bool) (l : List α) : (l.map f).all id = l.all f := by simp [List.all_map]
end Rf

set_option Elab.async false
set_option linter.all false
set_option maxRecDepth 100000
set_option maxHeartbeats 4000000
/-! Rf: lists of ints and of pairs as data. -/
namespace Rf
open PySem
/-- a value that is not looked into by computing -/
noncomputable def hid {α : Type} (a : α) : α := Classical.choose (⟨a, rfl⟩ : ∃ b, b = a)
theorem hid_eq {α : Type} (a : α) : hid a = a := Classical.choose_spec (⟨a, rfl⟩ : ∃ b, b = a)
theorem depthAll_le {α : Type} (f : α → D) (c : Nat) : ∀ (l : List α), (∀ x ∈ l, (f x).depth ≤ c) → PyData.depthAll (l.map f) ≤ c
  | [], _ => by simp [PyData.depthAll]
  | x :: l, h => by
    simp only [List.map_cons, PyData.depthAll]
    exact Nat.max_le.mpr ⟨h x List.mem_cons_self, depthAll_le f c l fun y hy => h y (List.mem_cons_of_mem _ hy)⟩
theorem canLay_map {α : Type} (f : α → D) : ∀ (l : List α), (∀ x ∈ l, (f x).canLay0 = true) → PyData.canLayAll0 (l.map f) = true
  | [], _ => rfl
  | x :: l, h => by
    simp only [List.map_cons, PyData.canLayAll0, h x List.mem_cons_self, canLay_map f l fun y hy => h y (List.mem_cons_of_mem _ hy)]
    rfl
theorem shaped_l {α : Type} (f : α → D) (l : List α) (h : ∀ x ∈ l, (f x).canLay0 = true) (d : ∀ x ∈ l, (f x).depth ≤ 50) : SeqAt.shaped (.list (l.map f)) = true := by
  have h1 := canLay_map f l h
  have h2 := depthAll_le f 50 l d
  unfold SeqAt.shaped
  rw [show PyData.canLay0 (.list (l.map f)) = true by simp only [PyData.canLay0]; exact h1, Bool.true_and]
  exact decide_eq_true (by simp only [PyData.depth]; omega)
theorem shaped_t {α : Type} (f : α → D) (l : List α) (h : ∀ x ∈ l, (f x).canLay0 = true) (d : ∀ x ∈ l, (f x).depth ≤ 50) : SeqAt.shaped (.tuple (l.map f)) = true := by
  have h1 := canLay_map f l h
  have h2 := depthAll_le f 50 l d
  unfold SeqAt.shaped
  rw [show PyData.canLay0 (.tuple (l.map f)) = true by simp only [PyData.canLay0]; exact h1, Bool.true_and]
  exact decide_eq_true (by simp only [PyData.depth]; omega)
theorem sh_int (i : Int) : SeqAt.shaped (.int i) = true := by simp [SeqAt.shaped, PyData.canLay0, PyData.depth]
theorem sh_li (ns : List Int) : SeqAt.shaped (.list (ns.map .int)) = true := shaped_l _ ns (fun _ _ => rfl) fun _ _ => by simp [PyData.depth]
theorem sh_ti (ns : List Int) : SeqAt.shaped (.tuple (ns.map .int)) = true := shaped_t _ ns (fun _ _ => rfl) fun _ _ => by simp [PyData.depth]
theorem sh_nil : SeqAt.shaped (.list []) = true := by simp [SeqAt.shaped, PyData.canLay0, PyData.canLayAll0, PyData.depth, PyData.depthAll]
theorem any_ints (a : Int) : ∀ ns : List Int, ((ns.map PyData.int).any fun z => PyData.eqv z (.int a)) = decide (a ∈ ns)
  | [] => by simp
  | n :: ns => by
    rw [List.map_cons, List.any_cons, any_ints a ns]
    by_cases h : n = a
    · subst h; simp [PyData.eqv]
    · have : ¬ a = n := fun z => h z.symm
      simp [PyData.eqv, h, this]
theorem mem_li (a : Int) (ns : List Int) : memD (.int a) (.list (ns.map .int)) = some (decide (a ∈ ns)) := by
  simp only [memD, sh_int, sh_li, Bool.and_self, if_true, any_ints]
theorem mem_ti (a : Int) (ns : List Int) : memD (.int a) (.tuple (ns.map .int)) = some (decide (a ∈ ns)) := by
  simp only [memD, sh_int, sh_li, Bool.and_self, if_true, any_ints]
theorem mem_t2 (a x y : Int) : memD (.int a) (.tuple [.int x, .int y]) = some (decide (a = x ∨ a = y)) := by
  have h := mem_ti a [x, y]
  simp only [List.map_cons, List.map_nil] at h
  rw [h]
  simp
theorem eq_nilL {ds : List D} (h : SeqAt.shaped (.list ds) = true) : eqD (.list ds) (.list []) = some (decide (ds = [])) := by
  unfold eqD
  simp only [scalD, h, sh_nil, Bool.and_self, if_true]
  cases ds <;> simp [PyData.eqv, PyData.eqvAll]
theorem eq_nilI (ns : List Int) : eqD (.list (ns.map .int)) (.list []) = some (decide (ns = [])) := by
  rw [eq_nilL (sh_li ns)]
  simp
theorem eqvAll_map {α : Type} [DecidableEq α] (f : α → D) (hf : ∀ x y, PyData.eqv (f x) (f y) = decide (x = y)) : ∀ l r : List α, PyData.eqvAll (l.map f) (r.map f) = decide (l = r)
  | [], [] => by simp [PyData.eqvAll]
  | [], _ :: _ => by simp [PyData.eqvAll]
  | _ :: _, [] => by simp [PyData.eqvAll]
  | x :: l, y :: r => by
    simp only [List.map_cons, PyData.eqvAll, hf, eqvAll_map f hf l r, List.cons.injEq, Bool.decide_and]
theorem eqv_int (x y : Int) : PyData.eqv (.int x) (.int y) = decide (x = y) := by simp [PyData.eqv, Bool.beq_eq_decide_eq]
theorem eq_li (a b : List Int) : eqD (.list (a.map .int)) (.list (b.map .int)) = some (decide (a = b)) := by
  unfold eqD
  simp only [scalD, sh_li, Bool.and_self, if_true, PyData.eqv, eqvAll_map _ eqv_int]
theorem eq_ti (a b : List Int) : eqD (.tuple (a.map .int)) (.tuple (b.map .int)) = some (decide (a = b)) := by
  unfold eqD
  simp only [scalD, sh_ti, Bool.and_self, if_true, PyData.eqv, eqvAll_map _ eqv_int]
theorem eq_ss (a : Str) : eqD (.str a) (.str a) = some true := by simp [eqD, scalD]
section
variable {α : Type} {a b c d e f : α} {l : List α}
theorem at0 : L2.atI (a :: l) 0 = some a := by unfold L2.atI L2.ixN; rw [if_pos (by decide), if_pos (by simp only [List.length_cons]; omega)]; rfl
theorem at1 : L2.atI (a :: b :: l) 1 = some b := by unfold L2.atI L2.ixN; rw [if_pos (by decide), if_pos (by simp only [List.length_cons]; omega)]; rfl
theorem at2 : L2.atI (a :: b :: c :: l) 2 = some c := by unfold L2.atI L2.ixN; rw [if_pos (by decide), if_pos (by simp only [List.length_cons]; omega)]; rfl
theorem at3 : L2.atI (a :: b :: c :: d :: l) 3 = some d := by unfold L2.atI L2.ixN; rw [if_pos (by decide), if_pos (by simp only [List.length_cons]; omega)]; rfl
theorem at4 : L2.atI (a :: b :: c :: d :: e :: l) 4 = some e := by unfold L2.atI L2.ixN; rw [if_pos (by decide), if_pos (by simp only [List.length_cons]; omega)]; rfl
theorem at5 : L2.atI (a :: b :: c :: d :: e :: f :: l) 5 = some f := by unfold L2.atI L2.ixN; rw [if_pos (by decide), if_pos (by simp only [List.length_cons]; omega)]; rfl
end
theorem ixt (xs : List D) (i : Int) : idxV (.tuple xs) (.int i) = L2.atI xs i := by unfold idxV ixOf; rfl
theorem ixl (xs : List D) (i : Int) : idxV (.list xs) (.int i) = L2.atI xs i := by unfold idxV ixOf; rfl
theorem ix20 : L2.ixN 2 0 = some 0 := rfl
theorem ix21 : L2.ixN 2 1 = some 1 := rfl
theorem lk0 : lenOk 0 = true := rfl
theorem lk1 : lenOk 1 = true := rfl
theorem lk2 : lenOk 2 = true := rfl
theorem lk3 : lenOk 3 = true := rfl
theorem lk4 : lenOk 4 = true := rfl
theorem lk5 : lenOk 5 = true := rfl
theorem lk6 : lenOk 6 = true := rfl
theorem lenOk_of {n : Nat} (h : n ≤ 16777216) : lenOk n = true := Nat.ble_eq_true_of_le h
theorem eqii (i j : Int) : eqD (.int i) (.int j) = some (decide (i = j)) := by simp [eqD, scalD]
theorem eqbb (i j : Bool) : eqD (.bool i) (.bool j) = some (decide (i = j)) := by simp [eqD, scalD]
theorem eqstr (i j : Str) : eqD (.str i) (.str j) = some (decide (i = j)) := by simp [eqD, scalD]
/-! ### sorting -/
theorem ins_map {α : Type} (f : α → D) (le : D → D → Bool) (a : α) : ∀ l : List α, ins le (f a) (l.map f) = (ins (fun x y => le (f x) (f y)) a l).map f
  | [] => rfl
  | b :: l => by
    simp only [List.map_cons, ins]
    split
    · rfl
    · rw [ins_map f le a l]; rfl
theorem isort_map {α : Type} (f : α → D) (le : D → D → Bool) : ∀ l : List α, isort le (l.map f) = (isort (fun x y => le (f x) (f y)) l).map f
  | [] => rfl
  | a :: l => by simp only [List.map_cons, isort, isort_map f le l, ins_map]
theorem mem_insI {α : Type} {le : α → α → Bool} {a x : α} : ∀ {l : List α}, x ∈ ins le a l ↔ x = a ∨ x ∈ l
  | [] => by simp [ins]
  | b :: l => by
    simp only [ins]
    split
    · simp
    · simp only [List.mem_cons, mem_insI (l := l)]
      constructor <;> intro h <;> rcases h with h | h | h <;> simp [h]
theorem mem_isort {α : Type} {le : α → α → Bool} {x : α} : ∀ {l : List α}, x ∈ isort le l ↔ x ∈ l
  | [] => by simp [isort]
  | a :: l => by simp [isort, mem_insI, mem_isort (l := l)]
theorem len_ins {α : Type} {le : α → α → Bool} {a : α} : ∀ {l : List α}, (ins le a l).length = l.length + 1
  | [] => rfl
  | b :: l => by
    simp only [ins]
    split
    · rfl
    · simp [len_ins (l := l)]
theorem len_isort {α : Type} {le : α → α → Bool} : ∀ {l : List α}, (isort le l).length = l.length
  | [] => rfl
  | a :: l => by simp [isort, len_ins, len_isort (l := l)]
theorem alikes_i (n : Int) : ∀ ns : List Int, alikes (.int n) (ns.map .int) = true
  | [] => rfl
  | m :: ns => by simp [alikes, PySem.W.alike, alikes_i n ns]
theorem allAlike_i : ∀ ns : List Int, allAlike (ns.map .int) = true
  | [] => rfl
  | m :: ns => by simp [allAlike, PySem.W.alike, alikes_i m ns, allAlike_i ns]
theorem noDict_i : ∀ ns : List Int, PyData.hasDictAll (ns.map .int) = false
  | [] => rfl
  | m :: ns => by simp [PyData.hasDictAll, PyData.hasDict, noDict_i ns]
theorem sort_i (ns : List Int) : ∃ ms : List Int, sortV (ns.map .int) = some (ms.map .int) ∧ (∀ x, x ∈ ms ↔ x ∈ ns) ∧ ms.length = ns.length := by
  refine ⟨isort (fun x y => PySem.W.dataLe false id (PyData.int x) (PyData.int y)) ns, ?_, fun x => mem_isort, len_isort⟩
  unfold sortV
  have h : sortOk (ns.map .int) = true := by
    unfold sortOk deepMax
    rw [allAlike_i, PyProof.Rows.depthAll_ints, noDict_i]
    have : (ns.map PyData.int).all noTupNone = true := by simp [noTupNone]
    rw [this]
    simp
  rw [if_pos h, isort_map]
/-! ### ranges -/
theorem ups_len (n : Nat) : ∀ lo : Int, (ups lo n).length = n := by
  induction n with
  | zero => intro lo; rfl
  | succ n ih => intro lo; simp [ups, ih]
theorem ups_eq (n : Nat) : ∀ lo : Int, ups lo n = ((List.range n).map fun i : Nat => lo + (i : Int)).map .int := by
  induction n with
  | zero => intro lo; rfl
  | succ n ih =>
    intro lo
    rw [ups, ih, List.range_succ_eq_map]
    simp only [List.map_cons, List.map_map]
    refine List.cons_eq_cons.mpr ⟨by simp, ?_⟩
    refine List.map_congr_left fun i _ => ?_
    simp only [Function.comp]
    congr 1
    omega
/-- 0, 1, .. below n -/
def iot (n : Nat) : List Int := (List.range n).map fun i : Nat => (i : Int)
theorem mem_iot {n : Nat} {x : Int} : x ∈ iot n ↔ 0 ≤ x ∧ x < n := by
  unfold iot
  simp only [List.mem_map, List.mem_range]
  constructor
  · rintro ⟨i, h, rfl⟩; omega
  · intro ⟨h1, h2⟩; exact ⟨x.toNat, by omega, by omega⟩
theorem iot_len (n : Nat) : (iot n).length = n := by simp [iot]
theorem rng_iot {n : Int} (h0 : 0 ≤ n) (h : n ≤ 1000000) : rngV (.int 0) (.int n) = some ((iot n.toNat).map .int) := by
  have : rngOk 0 n = true := by unfold rngOk; simp; omega
  show (if rngOk 0 n = true then some (ups 0 (n - 0).toNat) else none) = _
  rw [if_pos this, ups_eq, Int.sub_zero]
  simp [iot]
theorem runE {F : FT} {C : List D} {fn : Fn} {as : List Ar} {env : Ev} {fl : Fl} {r : Rt} (h : as.length = fn.np) (he : slOf 0 as ++ List.replicate (fn.ns - fn.np) .emp = env) (hb : evSs F C fn.body env = some fl) (hf : finF as fl = some r) : runF F C fn as = some r := by
  unfold runF
  rw [if_pos h, he, hb]
  exact hf
theorem runX {F : FT} {C : List D} {fn : Fn} {as : List Ar} {env : Ev} {r : Rt} (h : as.length = fn.np) (he : slOf 0 as ++ List.replicate (fn.ns - fn.np) .emp = env) (hb : ∃ fl, evSs F C fn.body env = some fl ∧ finF as fl = some r) : runF F C fn as = some r := by
  obtain ⟨fl, h1, h2⟩ := hb
  exact runE h he h1 h2
section
variable {F : FT} {C : List D} {lo hi : IE} {env e1 e2 : Ev} {a b : D} {ns : List D}
theorem trgE (h1 : evE F C lo env = some (.pu a, e1)) (h2 : evE F C hi e1 = some (.pu b, e2)) (r : rngV a b = some ns) (z : lenOk ns.length = true) : evE F C (.trg lo hi) env = some (.pu (.tuple ns), e2) := by
  rw [evE, h1]
  dsimp only
  rw [h2]
  dsimp only
  rw [r]
  dsimp only
  rw [if_pos z]
theorem lrgE (h1 : evE F C lo env = some (.pu a, e1)) (h2 : evE F C hi e1 = some (.pu b, e2)) (r : rngV a b = some ns) (z : lenOk ns.length = true) : evE F C (.lrg lo hi) env = some (.fr ns, e2) := by
  rw [evE, h1]
  dsimp only
  rw [h2]
  dsimp only
  rw [r]
  dsimp only
  rw [if_pos z]
theorem rngE (h1 : evE F C lo env = some (.pu a, e1)) (h2 : evE F C hi e1 = some (.pu b, e2)) (r : rngV a b = some ns) : evI F C (.rng lo hi) env = some (ns, e2) := by
  rw [evI, h1]
  dsimp only
  rw [h2]
  dsimp only
  rw [r]
  rfl
end
end Rf

set_option Elab.async false
set_option linter.all false
set_option maxRecDepth 100000
set_option maxHeartbeats 4000000
/-! Rf: reached stations, in plain Lean. -/
namespace Rf
/-- legs by their ends; at joins x and y -/
def Jn (es : List (Int × Int)) (at_ x y : Int) : Prop := ∃ e, 0 ≤ at_ ∧ es[at_.toNat]? = some e ∧ ((e.1 = x ∧ e.2 = y) ∨ (e.2 = x ∧ e.1 = y))
theorem Jn.symm {es : List (Int × Int)} {a x y : Int} (h : Jn es a x y) : Jn es a y x := by
  obtain ⟨e, h0, h1, h2⟩ := h
  exact ⟨e, h0, h1, h2.elim (fun h => .inr ⟨h.2, h.1⟩) fun h => .inl ⟨h.2, h.1⟩⟩
inductive Rch (es : List (Int × Int)) (p : Int → Prop) (s : Int) : Int → Prop
  | refl : Rch es p s s
  | step {x y at_ : Int} : Rch es p s x → p at_ → Jn es at_ x y → Rch es p s y
theorem Rch.trans {es : List (Int × Int)} {p : Int → Prop} {s t u : Int} (h : Rch es p s t) (g : Rch es p t u) : Rch es p s u := by
  induction g with
  | refl => exact h
  | step _ hp hj ih => exact .step ih hp hj
theorem Rch.symm {es : List (Int × Int)} {p : Int → Prop} {s t : Int} (h : Rch es p s t) : Rch es p t s := by
  induction h with
  | refl => exact .refl
  | step _ hp hj ih => exact Rch.trans (.step .refl hp hj.symm) ih
theorem Rch.mono {es : List (Int × Int)} {p q : Int → Prop} {s t : Int} (h : Rch es p s t) (pq : ∀ a, p a → q a) : Rch es q s t := by
  induction h with
  | refl => exact .refl
  | step _ hp hj ih => exact .step ih (pq _ hp) hj
/-- a list that holds s and is closed holds all that is reached -/
theorem Rch.closed {es : List (Int × Int)} {p : Int → Prop} {s t : Int} {l : List Int} (h : Rch es p s t) (hs : s ∈ l) (hc : ∀ x ∈ l, ∀ at_ y, p at_ → Jn es at_ x y → y ∈ l) : t ∈ l := by
  induction h with
  | refl => exact hs
  | step _ hp hj ih => exact hc _ ih _ _ hp hj
theorem sub_len {α : Type} [DecidableEq α] : ∀ (l r : List α), l.Nodup → (∀ x ∈ l, x ∈ r) → l.length ≤ r.length
  | [], r, _, _ => Nat.zero_le _
  | a :: l, r, h, hs => by
    obtain ⟨ha, hl⟩ := List.nodup_cons.mp h
    have ih := sub_len l (r.erase a) hl fun x hx => by
      have hx' := hs x (List.mem_cons_of_mem _ hx)
      exact (List.mem_erase_of_ne (fun e => ha (by rw [← e]; exact hx))).mpr hx'
    have hm := hs a List.mem_cons_self
    rw [List.length_erase_of_mem hm] at ih
    have : 0 < r.length := List.length_pos_of_mem hm
    simp only [List.length_cons]
    omega
/-- rows without a thing twice -/
theorem nodup_le {n : Nat} : ∀ {l : List Int}, l.Nodup → (∀ x ∈ l, 0 ≤ x ∧ x < (n : Int)) → l.length ≤ n := by
  intro l h hb
  have : (l.map Int.toNat).Nodup := by
    rw [List.nodup_iff_pairwise_ne, List.pairwise_map]
    refine List.Pairwise.imp_of_mem ?_ (List.nodup_iff_pairwise_ne.mp h)
    intro a b ha hb' ne e
    have := hb a ha
    have := hb b hb'
    exact ne (by omega)
  have sub : ∀ x ∈ l.map Int.toNat, x ∈ List.range n := by
    intro x hx
    obtain ⟨y, hy, rfl⟩ := List.mem_map.mp hx
    have := hb y hy
    exact List.mem_range.mpr (by omega)
  have := sub_len _ _ this sub
  simpa using this
end Rf

set_option Elab.async false
set_option linter.all false
set_option maxRecDepth 100000
set_option maxHeartbeats 4000000
/-! Rf: loops of the evaluator over typed lists. -/
namespace Rf
open PySem

theorem filterMap_if {α : Type} (enc : α → D) (p : α → Bool) (g : α → D) (l : List α) (f : D → Option D) (h : ∀ x ∈ l, f (enc x) = if p x = true then some (g x) else none) : (l.map enc).filterMap f = (l.filter p).map g := by
  induction l with
  | nil => rfl
  | cons a l ih =>
    have ih' := ih fun x hx => h x (List.mem_cons_of_mem _ hx)
    rw [List.map_cons, List.filterMap_cons, h a List.mem_cons_self, List.filter_cons]
    cases p a with
    | true => simp [ih']
    | false => simp [ih']
/-- a comprehension over a typed list: the slots stay -/
theorem lc_typed {st : D → Ev → Option Ev} {ts : Ev → Option (Bool × Ev)} {el : Ev → Option (D × Ev)} {own : List Nat} {e : Ev} {α : Type} (enc : α → D) (p : α → Bool) (g : α → D) :
    ∀ (l : List α), (∀ x ∈ l, ∃ e1, st (enc x) e = some e1 ∧ ts e1 = some (p x, e1) ∧ wipeE e1 own = e ∧ (p x = true → el e1 = some (g x, e1))) →
      lcLoop st ts el own (l.map enc) e = some ((l.filter p).map g, e)
  | [], _ => rfl
  | x :: l, h => by
    obtain ⟨e1, h1, h2, h3, h4⟩ := h x List.mem_cons_self
    have ih := lc_typed enc p g l fun y hy => h y (List.mem_cons_of_mem _ hy)
    rw [List.map_cons, lcLoop, h1]
    dsimp only
    rw [h2, List.filter_cons]
    cases hp : p x with
    | false => simp [h3, ih]
    | true => simp [h4 hp, h3, ih]
theorem lcT {F : FT} {C : List D} {elt : IE} {tg : IT} {it : II} {cd : IO} {own : List Nat} {env e0 e2 : Ev} {α : Type} (enc : α → D) (l : List α) (p : α → Bool) (g : α → D) (stt : α → Ev)
    (hI : evI F C it env = some (l.map enc, env)) (hw : wipeE env own = e0) (hb : backE env e0 own = e2) (hz : l.length ≤ 16777216)
    (h1 : ∀ x ∈ l, asgT F C tg (enc x) e0 = some (stt x)) (h4 : ∀ x ∈ l, wipeE (stt x) own = e0) (h2 : ∀ x ∈ l, evD F C cd (stt x) = some (p x, stt x))
    (h3 : ∀ x ∈ l, p x = true → ∃ o, evE F C elt (stt x) = some (o, stt x) ∧ frzd o = some (g x)) :
    evE F C (.lc elt tg it cd own) env = some (.fr ((l.filter p).map g), e2) := by
  have L := lc_typed (st := fun d e => asgT F C tg d e) (ts := fun e => evD F C cd e) (el := fun e => frzE (evE F C elt e)) (own := own) (e := e0) enc p g l fun x hx => ⟨stt x, h1 x hx, h2 x hx, h4 x hx, fun hp => by
    obtain ⟨o, q1, q2⟩ := h3 x hx hp
    simp only [q1, frzE, q2]⟩
  have z : lenOk ((l.filter p).map g).length = true := lenOk_of (by rw [List.length_map]; exact Nat.le_trans (List.length_filter_le _ _) hz)
  rw [evE, hI]
  simp only [lcV, hw, L, z, if_true, hb]
/-- .. without a test -/
theorem lcA {F : FT} {C : List D} {elt : IE} {tg : IT} {it : II} {own : List Nat} {env e0 e2 : Ev} {α : Type} (enc : α → D) (l : List α) (g : α → D) (stt : α → Ev)
    (hI : evI F C it env = some (l.map enc, env)) (hw : wipeE env own = e0) (hb : backE env e0 own = e2) (hz : l.length ≤ 16777216)
    (h1 : ∀ x ∈ l, asgT F C tg (enc x) e0 = some (stt x)) (h4 : ∀ x ∈ l, wipeE (stt x) own = e0)
    (h3 : ∀ x ∈ l, ∃ o, evE F C elt (stt x) = some (o, stt x) ∧ frzd o = some (g x)) :
    evE F C (.lc elt tg it .non own) env = some (.fr (l.map g), e2) := by
  have := lcT (cd := .non) enc l (fun _ => true) g stt hI hw hb hz h1 h4 (fun x hx => by rw [evD]) fun x hx _ => h3 x hx
  rw [this, List.filter_eq_self.mpr (by simp)]
/-- for: what holds behind the items done -/
theorem foI_loop {st : D → Ev → Option Ev} {bd : Ev → Option Fl} {α : Type} (enc : α → D) (I : List α → Ev → Prop) (Q : Fl → Prop) :
    ∀ (rest done : List α) (e : Ev), I done e →
      (∀ d x r e, done ++ rest = d ++ x :: r → I d e → ∃ a fl, st (enc x) e = some a ∧ bd a = some fl ∧ (match fl with | .nx e2 => I (d ++ [x]) e2 | .ct e2 => I (d ++ [x]) e2 | .bk e2 => Q (.nx e2) | .rt o e2 => Q (.rt o e2))) →
      (∀ e, I (done ++ rest) e → Q (.nx e)) → ∃ fl, foLoop st bd (rest.map enc) e = some fl ∧ Q fl
  | [], done, e, hI, _, h0 => ⟨_, rfl, h0 e (by rw [List.append_nil]; exact hI)⟩
  | x :: rest, done, e, hI, h, h0 => by
    obtain ⟨a, fl, h1, h2, h3⟩ := h done x rest e rfl hI
    rw [List.map_cons, foLoop, h1]
    dsimp only
    rw [h2]
    cases fl with
    | nx e2 => exact foI_loop enc I Q rest (done ++ [x]) e2 h3 (fun d y r e q => h d y r e (by rw [← q]; simp)) fun e q => h0 e (by simpa using q)
    | ct e2 => exact foI_loop enc I Q rest (done ++ [x]) e2 h3 (fun d y r e q => h d y r e (by rw [← q]; simp)) fun e q => h0 e (by simpa using q)
    | bk e2 => exact ⟨_, rfl, h3⟩
    | rt o e2 => exact ⟨_, rfl, h3⟩
theorem foQ {F : FT} {C : List D} {t : IT} {it : II} {b : ISs} {env e1 : Ev} {α : Type} (enc : α → D) (l : List α) (I : List α → Ev → Prop) (Q : Fl → Prop) (hn : noSub t = true) (hI : evI F C it env = some (l.map enc, e1)) (hi : I [] e1)
    (h : ∀ d x r e, l = d ++ x :: r → I d e → ∃ a fl, asgT F C t (enc x) e = some a ∧ evSs F C b a = some fl ∧ (match fl with | .nx e2 => I (d ++ [x]) e2 | .ct e2 => I (d ++ [x]) e2 | .bk e2 => Q (.nx e2) | .rt o e2 => Q (.rt o e2)))
    (h0 : ∀ e, I l e → Q (.nx e)) : ∃ fl, evS F C (.fo t it b) env = some fl ∧ Q fl := by
  obtain ⟨fl, q1, q2⟩ := foI_loop (st := fun d e => asgT F C t d e) (bd := fun e => evSs F C b e) enc I Q l [] e1 hi h h0
  exact ⟨fl, by rw [evS, if_pos hn, hI]; exact q1, q2⟩
theorem foI {F : FT} {C : List D} {t : IT} {it : II} {b : ISs} {env e1 : Ev} {α : Type} (enc : α → D) (l : List α) (I : List α → Ev → Prop) (hn : noSub t = true) (hI : evI F C it env = some (l.map enc, e1)) (hi : I [] e1)
    (h : ∀ d x r e, l = d ++ x :: r → I d e → ∃ a e2, asgT F C t (enc x) e = some a ∧ (evSs F C b a = some (.nx e2) ∨ evSs F C b a = some (.ct e2)) ∧ I (d ++ [x]) e2) : ∃ e2, evS F C (.fo t it b) env = some (.nx e2) ∧ I l e2 := by
  obtain ⟨fl, q1, e2, rfl, q2⟩ := foQ (b := b) enc l I (fun fl => ∃ e2, fl = .nx e2 ∧ I l e2) hn hI hi (fun d x r e q hd => by
    obtain ⟨a, e2, h1, h2, h3⟩ := h d x r e q hd
    rcases h2 with h2 | h2
    · exact ⟨a, .nx e2, h1, h2, h3⟩
    · exact ⟨a, .ct e2, h1, h2, h3⟩) fun e q => ⟨e, rfl, q⟩
  exact ⟨e2, q1, q2⟩
/-- for: a state is led on -/
theorem foR {F : FT} {C : List D} {t : IT} {it : II} {b : ISs} {env e1 : Ev} {α σ : Type} (enc : α → D) (l : List α) (f : σ → α → σ) (R : σ → Ev → Prop) (s0 : σ) (hn : noSub t = true) (hI : evI F C it env = some (l.map enc, e1)) (hi : R s0 e1)
    (h : ∀ x ∈ l, ∀ s e, R s e → ∃ a e2, asgT F C t (enc x) e = some a ∧ (evSs F C b a = some (.nx e2) ∨ evSs F C b a = some (.ct e2)) ∧ R (f s x) e2) : ∃ e2, evS F C (.fo t it b) env = some (.nx e2) ∧ R (l.foldl f s0) e2 :=
  foI (b := b) enc l (fun d e => R (d.foldl f s0) e) hn hI hi fun d x r e q hd => by
    obtain ⟨a, e2, h1, h2, h3⟩ := h x (by rw [q]; simp) _ e hd
    exact ⟨a, e2, h1, h2, by rw [List.foldl_append]; exact h3⟩
/-- a list of statements: the first, then the rest -/
theorem ssC {F : FT} {C : List D} {s : IS} {ss : ISs} {e e1 : Ev} (h : evS F C s e = some (.nx e1)) : evSs F C (.cons s ss) e = evSs F C ss e1 := by
  rw [evSs, h]
theorem ssN {F : FT} {C : List D} {e : Ev} : evSs F C .nil e = some (.nx e) := by rw [evSs]
/-! ### sorted lists of ints -/
theorem le_ints (x y : Int) : PySem.W.dataLe false id (PyData.int x) (PyData.int y) = decide (x ≤ y) := by
  show PySem.W.dataLe false (fun b : Int => PyData.int b) x y = _
  rw [PySem.W.dataLe_int]
theorem insI_sorted {x : Int} : ∀ {l : List Int}, l.Pairwise (· ≤ ·) → (ins (fun a b : Int => decide (a ≤ b)) x l).Pairwise (· ≤ ·)
  | [], _ => by simp [ins]
  | y :: l, h => by
    obtain ⟨h1, h2⟩ := List.pairwise_cons.mp h
    simp only [ins]
    split
    · rename_i q
      have q := of_decide_eq_true q
      refine List.pairwise_cons.mpr ⟨fun z hz => ?_, h⟩
      rcases List.mem_cons.mp hz with rfl | hz
      · exact q
      · have := h1 z hz; omega
    · rename_i q
      have q : ¬ x ≤ y := fun z => q (decide_eq_true z)
      refine List.pairwise_cons.mpr ⟨fun z hz => ?_, insI_sorted h2⟩
      rcases mem_insI.mp hz with rfl | hz
      · omega
      · exact h1 z hz
theorem isort_sorted : ∀ l : List Int, (isort (fun a b : Int => decide (a ≤ b)) l).Pairwise (· ≤ ·)
  | [] => by simp [isort]
  | x :: l => insI_sorted (isort_sorted l)
theorem isort_nodup {α : Type} {le : α → α → Bool} : ∀ {l : List α}, l.Nodup → (isort le l).Nodup := by
  have insn : ∀ {l : List α} {a : α}, a ∉ l → l.Nodup → (ins le a l).Nodup := by
    intro l a
    induction l with
    | nil => intro _ _; simp [ins]
    | cons b l ih =>
      intro ha hn
      obtain ⟨n1, n2⟩ := List.nodup_cons.mp hn
      simp only [List.mem_cons, not_or] at ha
      simp only [ins]
      split
      · exact List.nodup_cons.mpr ⟨by simp [ha.1, ha.2], hn⟩
      · refine List.nodup_cons.mpr ⟨fun z => ?_, ih ha.2 n2⟩
        rcases mem_insI.mp z with z | z
        · exact ha.1 z.symm
        · exact n1 z
  intro l
  induction l with
  | nil => intro _; simp [isort]
  | cons a l ih =>
    intro h
    obtain ⟨h1, h2⟩ := List.nodup_cons.mp h
    exact insn (fun z => h1 (mem_isort.mp z)) (ih h2)
theorem sortV_i (ns : List Int) : sortV (ns.map .int) = some ((isort (fun a b : Int => decide (a ≤ b)) ns).map .int) := by
  unfold sortV
  have h : sortOk (ns.map .int) = true := by
    unfold sortOk deepMax
    rw [allAlike_i, PyProof.Rows.depthAll_ints, noDict_i]
    have : (ns.map PyData.int).all noTupNone = true := by simp [noTupNone]
    rw [this]
    simp
  rw [if_pos h, isort_map]
  congr 2
  have : (fun x y => PySem.W.dataLe false id (PyData.int x) (PyData.int y)) = fun a b : Int => decide (a ≤ b) := by
    funext x y; exact le_ints x y
  rw [this]
/-- two rising lists of the same members are one -/
theorem rising_eq : ∀ {l r : List Int}, l.Pairwise (· < ·) → r.Pairwise (· < ·) → (∀ x, x ∈ l ↔ x ∈ r) → l = r
  | [], [], _, _, _ => rfl
  | [], y :: r, _, _, h => by have := (h y).mpr (by simp); simp at this
  | x :: l, [], _, _, h => by have := (h x).mp (by simp); simp at this
  | x :: l, y :: r, hl, hr, h => by
    obtain ⟨l1, l2⟩ := List.pairwise_cons.mp hl
    obtain ⟨r1, r2⟩ := List.pairwise_cons.mp hr
    have hx := (h x).mp (by simp)
    have hy := (h y).mpr (by simp)
    have e : x = y := by
      rcases List.mem_cons.mp hx with e | hx
      · exact e
      · rcases List.mem_cons.mp hy with e | hy
        · exact e.symm
        · have := r1 x hx; have := l1 y hy; omega
    subst e
    congr 1
    refine rising_eq l2 r2 fun z => ⟨fun hz => ?_, fun hz => ?_⟩
    · rcases List.mem_cons.mp ((h z).mp (by simp [hz])) with e | q
      · have := l1 z hz; omega
      · exact q
    · rcases List.mem_cons.mp ((h z).mpr (by simp [hz])) with e | q
      · have := r1 z hz; omega
      · exact q
theorem le_lt_nodup {l : List Int} (h : l.Pairwise (· ≤ ·)) (n : l.Nodup) : l.Pairwise (· < ·) := by
  refine List.Pairwise.imp₂ ?_ h (List.nodup_iff_pairwise_ne.mp n)
  intro a b h1 h2
  omega
theorem iot_rising (n : Nat) : (iot n).Pairwise (· < ·) := by
  unfold iot
  rw [List.pairwise_map]
  refine List.Pairwise.imp ?_ List.pairwise_lt_range
  intro a b h
  omega
theorem iot_nodup (n : Nat) : (iot n).Nodup := by
  rw [List.nodup_iff_pairwise_ne]
  exact List.Pairwise.imp (fun h e => by omega) (iot_rising n)
end Rf

set_option Elab.async false
set_option linter.all false
set_option maxRecDepth 100000
set_option maxHeartbeats 4000000
/-! Rf: turns, in plain Lean. -/
namespace Rf
open PySem
abbrev Tn := List (Int × Int)
def pD (p : Int × Int) : D := .tuple [.int p.1, .int p.2]
def tnD (t : Tn) : D := .tuple (t.map pD)
def gx (b : Tn) (i : Int) : Int × Int := (b[i.toNat]?).getD (0, 0)
def mulT (a b : Tn) : Tn := a.map fun p => ((gx b p.1).1, p.2 * (gx b p.1).2)
def idT (n : Nat) : Tn := (List.range n).map fun i : Nat => ((i : Int), 1)
def invT (a : Tn) : Tn := (List.range a.length).map fun i : Nat => ((a.findIdx (fun p => p.1 == (i : Int)) : Nat), ((a.find? (fun p => p.1 == (i : Int))).getD (0, 0)).2)
def genT (n : Nat) : Nat → List Tn
  | 0 => [[]]
  | k + 1 => (genT n k).flatMap fun row => (((List.range n).map fun i : Nat => (i : Int)).filter fun ax => !(row.map (·.1)).contains ax).flatMap fun ax => [row ++ [(ax, -1)], row ++ [(ax, 1)]]
def TT (n : Nat) : List Tn := genT n n
def okT (n : Nat) (t : Tn) : Bool := t.length == n && t.all (fun p => decide (0 ≤ p.1) && decide (p.1 < n) && (p.2 == 1 || p.2 == -1)) && decide ((t.map (·.1)).Nodup)
theorem n13 {n : Nat} (h1 : 1 ≤ n) (h3 : n ≤ 3) : n = 1 ∨ n = 2 ∨ n = 3 := by omega
theorem TT_ok1 : (TT 1).all (okT 1) = true := by decide +kernel
theorem TT_ok2 : (TT 2).all (okT 2) = true := by decide +kernel
theorem TT_ok3 : (TT 3).all (okT 3) = true := by decide +kernel
theorem TT_in1 : ((TT 1).all fun a => (TT 1).all fun b => (TT 1).contains (mulT a b)) = true := by decide +kernel
theorem TT_in2 : ((TT 2).all fun a => (TT 2).all fun b => (TT 2).contains (mulT a b)) = true := by decide +kernel
theorem TT_in3 : ((TT 3).all fun a => (TT 3).all fun b => (TT 3).contains (mulT a b)) = true := by decide +kernel
theorem TT_iv1 : ((TT 1).all fun a => (TT 1).contains (invT a) && mulT a (invT a) == idT 1 && mulT (invT a) a == idT 1 && mulT a (idT 1) == a && mulT (idT 1) a == a) = true := by decide +kernel
theorem TT_iv2 : ((TT 2).all fun a => (TT 2).contains (invT a) && mulT a (invT a) == idT 2 && mulT (invT a) a == idT 2 && mulT a (idT 2) == a && mulT (idT 2) a == a) = true := by decide +kernel
theorem TT_iv3 : ((TT 3).all fun a => (TT 3).contains (invT a) && mulT a (invT a) == idT 3 && mulT (invT a) a == idT 3 && mulT a (idT 3) == a && mulT (idT 3) a == a) = true := by decide +kernel
theorem TT_nd1 : (TT 1).Nodup := by decide +kernel
theorem TT_nd2 : (TT 2).Nodup := by decide +kernel
theorem TT_nd3 : (TT 3).Nodup := by decide +kernel
theorem TT_id1 : (TT 1).contains (idT 1) = true := by decide +kernel
theorem TT_id2 : (TT 2).contains (idT 2) = true := by decide +kernel
theorem TT_id3 : (TT 3).contains (idT 3) = true := by decide +kernel
theorem TT_len1 : (TT 1).length = 2 := by decide +kernel
theorem TT_len2 : (TT 2).length = 8 := by decide +kernel
theorem TT_len3 : (TT 3).length = 48 := by decide +kernel
section
variable {n : Nat} {a b c : Tn}
theorem TT_ok (h1 : 1 ≤ n) (h3 : n ≤ 3) (ha : a ∈ TT n) : okT n a = true := by
  rcases n13 h1 h3 with rfl | rfl | rfl
  · exact List.all_eq_true.mp TT_ok1 a ha
  · exact List.all_eq_true.mp TT_ok2 a ha
  · exact List.all_eq_true.mp TT_ok3 a ha
theorem TT_mul (h1 : 1 ≤ n) (h3 : n ≤ 3) (ha : a ∈ TT n) (hb : b ∈ TT n) : mulT a b ∈ TT n := by
  rcases n13 h1 h3 with rfl | rfl | rfl
  · exact List.contains_iff_mem.mp (List.all_eq_true.mp (List.all_eq_true.mp TT_in1 a ha) b hb)
  · exact List.contains_iff_mem.mp (List.all_eq_true.mp (List.all_eq_true.mp TT_in2 a ha) b hb)
  · exact List.contains_iff_mem.mp (List.all_eq_true.mp (List.all_eq_true.mp TT_in3 a ha) b hb)
theorem TT_iv (h1 : 1 ≤ n) (h3 : n ≤ 3) (ha : a ∈ TT n) : invT a ∈ TT n ∧ mulT a (invT a) = idT n ∧ mulT (invT a) a = idT n ∧ mulT a (idT n) = a ∧ mulT (idT n) a = a := by
  have key : ∀ m : Nat, ((TT m).all fun a => (TT m).contains (invT a) && mulT a (invT a) == idT m && mulT (invT a) a == idT m && mulT a (idT m) == a && mulT (idT m) a == a) = true → a ∈ TT m → invT a ∈ TT m ∧ mulT a (invT a) = idT m ∧ mulT (invT a) a = idT m ∧ mulT a (idT m) = a ∧ mulT (idT m) a = a := fun m h ha => by
    have := List.all_eq_true.mp h a ha
    simp only [Bool.and_eq_true, beq_iff_eq] at this
    obtain ⟨⟨⟨⟨q1, q2⟩, q3⟩, q4⟩, q5⟩ := this
    exact ⟨List.contains_iff_mem.mp q1, q2, q3, q4, q5⟩
  rcases n13 h1 h3 with rfl | rfl | rfl
  · exact key 1 TT_iv1 ha
  · exact key 2 TT_iv2 ha
  · exact key 3 TT_iv3 ha
theorem TT_nd (h1 : 1 ≤ n) (h3 : n ≤ 3) : (TT n).Nodup := by
  rcases n13 h1 h3 with rfl | rfl | rfl
  · exact TT_nd1
  · exact TT_nd2
  · exact TT_nd3
theorem TT_id (h1 : 1 ≤ n) (h3 : n ≤ 3) : idT n ∈ TT n := by
  rcases n13 h1 h3 with rfl | rfl | rfl
  · exact List.contains_iff_mem.mp TT_id1
  · exact List.contains_iff_mem.mp TT_id2
  · exact List.contains_iff_mem.mp TT_id3
theorem TT_len (h1 : 1 ≤ n) (h3 : n ≤ 3) : (TT n).length = 2 ∨ (TT n).length = 8 ∨ (TT n).length = 48 := by
  rcases n13 h1 h3 with rfl | rfl | rfl
  · exact .inl TT_len1
  · exact .inr (.inl TT_len2)
  · exact .inr (.inr TT_len3)
theorem okT_of (h : okT n a = true) : a.length = n ∧ (∀ p ∈ a, 0 ≤ p.1 ∧ p.1 < n ∧ (p.2 = 1 ∨ p.2 = -1)) ∧ (a.map (·.1)).Nodup := by
  unfold okT at h
  simp only [Bool.and_eq_true, beq_iff_eq, List.all_eq_true, Bool.or_eq_true, decide_eq_true_eq] at h
  exact ⟨h.1.1, fun p hp => ⟨(h.1.2 p hp).1.1, (h.1.2 p hp).1.2, (h.1.2 p hp).2⟩, h.2⟩
theorem gx_at {i : Int} (h0 : 0 ≤ i) (h1 : i < b.length) : L2.atI (b.map pD) i = some (pD (gx b i)) := by
  have hl : i.toNat < b.length := by omega
  unfold L2.atI L2.ixN gx
  rw [if_pos h0, if_pos (by simpa using h1)]
  simp [hl]
theorem mul_assoc (h1 : 1 ≤ n) (h3 : n ≤ 3) (ha : a ∈ TT n) (hb : b ∈ TT n) : mulT (mulT a b) c = mulT a (mulT b c) := by
  obtain ⟨la, pa, _⟩ := okT_of (TT_ok h1 h3 ha)
  obtain ⟨lb, pb, _⟩ := okT_of (TT_ok h1 h3 hb)
  unfold mulT
  rw [List.map_map]
  refine List.map_congr_left fun p hp => ?_
  obtain ⟨p0, p1, _⟩ := pa p hp
  have hl : p.1.toNat < b.length := by omega
  have e : gx (b.map fun p => ((gx c p.1).1, p.2 * (gx c p.1).2)) p.1 = ((gx c (gx b p.1).1).1, (gx b p.1).2 * (gx c (gx b p.1).1).2) := by
    simp [gx, hl]
  simp only [Function.comp, e, Int.mul_assoc]
/-- what is done may be undone -/
theorem mul_cancel (h1 : 1 ≤ n) (h3 : n ≤ 3) (ha : a ∈ TT n) (hb : b ∈ TT n) : mulT (mulT a b) (invT b) = a := by
  obtain ⟨i1, i2, i3, i4, i5⟩ := TT_iv h1 h3 hb
  obtain ⟨j1, j2, j3, j4, j5⟩ := TT_iv h1 h3 ha
  rw [mul_assoc h1 h3 ha hb, i2, j4]
theorem mul_cancel' (h1 : 1 ≤ n) (h3 : n ≤ 3) (ha : a ∈ TT n) (hb : b ∈ TT n) : mulT (mulT a (invT b)) b = a := by
  obtain ⟨i1, i2, i3, i4, i5⟩ := TT_iv h1 h3 hb
  obtain ⟨j1, j2, j3, j4, j5⟩ := TT_iv h1 h3 ha
  rw [mul_assoc h1 h3 ha i1, i3, j4]
theorem mul_left (h1 : 1 ≤ n) (h3 : n ≤ 3) (ha : a ∈ TT n) (hb : b ∈ TT n) (hc : c ∈ TT n) (e : mulT a b = mulT a c) : b = c := by
  obtain ⟨i1, i2, i3, i4, i5⟩ := TT_iv h1 h3 ha
  have := congrArg (mulT (invT a)) e
  rw [← mul_assoc h1 h3 i1 ha, ← mul_assoc h1 h3 i1 ha, i3, (TT_iv h1 h3 hb).2.2.2.2, (TT_iv h1 h3 hc).2.2.2.2] at this
  exact this
/-- the only one that undoes -/
theorem inv_only (h1 : 1 ≤ n) (h3 : n ≤ 3) (ha : a ∈ TT n) (hb : b ∈ TT n) (e : mulT a b = idT n) : a = invT b := by
  obtain ⟨i1, i2, i3, i4, i5⟩ := TT_iv h1 h3 hb
  have := mul_cancel h1 h3 ha hb
  rw [e, (TT_iv h1 h3 i1).2.2.2.2] at this
  exact this.symm
end
/-! ### turns as data -/
theorem eqv_pD (x y : Int × Int) : PyData.eqv (pD x) (pD y) = decide (x = y) := by
  obtain ⟨a, b⟩ := x
  obtain ⟨c, d⟩ := y
  simp only [pD, PyData.eqv, PyData.eqvAll, eqv_int, Bool.and_true, Prod.mk.injEq, Bool.decide_and]
  first | done | (simp only [Bool.beq_eq_decide_eq]; done) | (by_cases h : a = c <;> by_cases g : b = d <;> simp [h, g])
theorem eqv_tD (x y : Tn) : PyData.eqv (tnD x) (tnD y) = decide (x = y) := by
  simp only [tnD, PyData.eqv, eqvAll_map _ eqv_pD]
theorem depth_pD (p : Int × Int) : (pD p).depth ≤ 2 := by simp [pD, PyData.depth, PyData.depthAll]
theorem depth_tD (t : Tn) : (tnD t).depth ≤ 3 := by
  have := depthAll_le pD 2 t fun x _ => depth_pD x
  simp only [tnD, PyData.depth]
  omega
theorem lay_pD (p : Int × Int) : (pD p).canLay0 = true := by simp [pD, PyData.canLay0, PyData.canLayAll0]
theorem lay_tD (t : Tn) : (tnD t).canLay0 = true := by
  have := canLay_map pD t fun x _ => lay_pD x
  simp only [tnD, PyData.canLay0]
  exact this
theorem sh_tD (t : Tn) : SeqAt.shaped (tnD t) = true := by
  unfold SeqAt.shaped
  rw [lay_tD, Bool.true_and]
  have := depth_tD t
  exact decide_eq_true (by omega)
theorem eq_tD (x y : Tn) : eqD (tnD x) (tnD y) = some (decide (x = y)) := by
  unfold eqD
  have : scalD (tnD x) (tnD y) = none := rfl
  rw [this]
  simp only [sh_tD, Bool.and_self, if_true, eqv_tD]
theorem sh_tDs (l : List Tn) : SeqAt.shaped (.list (l.map tnD)) = true := shaped_l _ l (fun t _ => lay_tD t) fun t _ => by have := depth_tD t; omega
theorem eq_tDs (l r : List Tn) : eqD (.list (l.map tnD)) (.list (r.map tnD)) = some (decide (l = r)) := by
  unfold eqD
  have : scalD (.list (l.map tnD)) (.list (r.map tnD)) = none := rfl
  rw [this]
  simp only [sh_tDs, Bool.and_self, if_true, PyData.eqv, eqvAll_map _ eqv_tD]
end Rf
namespace Rf
open PySem
/-! ### turns read out of data -/
def unP : D → Option (Int × Int)
  | .tuple [.int a, .int b] => some (a, b)
  | _ => none
def unPs : List D → Option Tn
  | [] => some []
  | d :: ds => match unP d, unPs ds with
    | some p, some r => some (p :: r)
    | _, _ => none
def unT : D → Option Tn
  | .tuple xs => unPs xs
  | _ => none
def unTs : List D → Option (List Tn)
  | [] => some []
  | d :: ds => match unT d, unTs ds with
    | some p, some r => some (p :: r)
    | _, _ => none
theorem unP_ok : ∀ {d : D} {p : Int × Int}, unP d = some p → d = pD p := by
  intro d p h
  unfold unP at h
  split at h
  · cases h; rfl
  · cases h
theorem unPs_ok : ∀ {ds : List D} {t : Tn}, unPs ds = some t → ds = t.map pD
  | [], t, h => by simp only [unPs] at h; cases h; rfl
  | d :: ds, t, h => by
    simp only [unPs] at h
    split at h
    · rename_i p r h1 h2
      cases h
      rw [unP_ok h1, unPs_ok h2]; rfl
    · cases h
theorem unT_ok : ∀ {d : D} {t : Tn}, unT d = some t → d = tnD t := by
  intro d t h
  unfold unT at h
  split at h
  · rw [unPs_ok h]; rfl
  · cases h
theorem unTs_ok : ∀ {ds : List D} {t : List Tn}, unTs ds = some t → ds = t.map tnD
  | [], t, h => by simp only [unTs] at h; cases h; rfl
  | d :: ds, t, h => by
    simp only [unTs] at h
    split at h
    · rename_i p r h1 h2
      cases h
      rw [unT_ok h1, unTs_ok h2]; rfl
    · cases h
def chkFr (r : Option Rt) (l : List Tn) : Bool := match r with
  | some (.fr ds, []) => unTs ds == some l
  | _ => false
theorem chkFr_ok {r : Option Rt} {l : List Tn} (h : chkFr r l = true) : r = some (.fr (l.map tnD), []) := by
  unfold chkFr at h
  split at h
  · rename_i ds
    have h' : unTs ds = some l := by simpa using h
    rw [unTs_ok h']
  · cases h
def chkPu (r : Option Rt) (t : Tn) : Bool := match r with
  | some (.pu d, []) => unT d == some t
  | _ => false
theorem chkPu_ok {r : Option Rt} {t : Tn} (h : chkPu r t = true) : r = some (.pu (tnD t), []) := by
  unfold chkPu at h
  split at h
  · rename_i ds
    have h' : unT ds = some t := by simpa using h
    rw [unT_ok h']
  · cases h
def chkB (r : Option Rt) (b : Bool) : Bool := match r with
  | some (.pu (.bool c), []) => c == b
  | _ => false
theorem chkB_ok {r : Option Rt} {b : Bool} (h : chkB r b = true) : r = some (.pu (.bool b), []) := by
  unfold chkB at h
  split at h
  · rename_i c
    rw [eq_of_beq h]
  · cases h
end Rf

set_option Elab.async false
set_option linter.all false
set_option maxRecDepth 100000
set_option maxHeartbeats 4000000
/-! Rf: one step of the evaluator, the parts told. -/
namespace Rf
open PySem
section
variable {F : FT} {C : List D} {a b c d e : IE} {env e1 e2 e3 e4 e5 : Ev} {x y z w r : D} {xs ys : List D} {o p q : Opd} {f i j : Nat} {ss tt : ISs} {s : IS}
theorem xTup1 (h : evE F C a env = some (.fr xs, e1)) : evE F C (.blt .tuple1 (.cons a .nil)) env = some (.pu (.tuple xs), e1) := by
  rw [evE, evA, h]; dsimp only; rw [evA]; rfl
theorem xTup1P (h : evE F C a env = some (.pu (.list xs), e1)) : evE F C (.blt .tuple1 (.cons a .nil)) env = some (.pu (.tuple xs), e1) := by
  rw [evE, evA, h]; dsimp only; rw [evA]; rfl
theorem xLst1 (h : evE F C a env = some (.pu (.list xs), e1)) : evE F C (.blt .list1 (.cons a .nil)) env = some (.fr xs, e1) := by
  rw [evE, evA, h]; dsimp only; rw [evA]; rfl
theorem xLst1T (h : evE F C a env = some (.pu (.tuple xs), e1)) : evE F C (.blt .list1 (.cons a .nil)) env = some (.fr xs, e1) := by
  rw [evE, evA, h]; dsimp only; rw [evA]; rfl
theorem xLenF (h : evE F C a env = some (.fr xs, e1)) : evE F C (.blt .len (.cons a .nil)) env = some (.pu (.int xs.length), e1) := by
  rw [evE, evA, h]; dsimp only; rw [evA]; rfl
theorem xLenL (h : evE F C a env = some (.pu (.list xs), e1)) : evE F C (.blt .len (.cons a .nil)) env = some (.pu (.int xs.length), e1) := by
  rw [evE, evA, h]; dsimp only; rw [evA]; rfl
theorem xLenT (h : evE F C a env = some (.pu (.tuple xs), e1)) : evE F C (.blt .len (.cons a .nil)) env = some (.pu (.int xs.length), e1) := by
  rw [evE, evA, h]; dsimp only; rw [evA]; rfl
theorem xAll {bs : List Bool} (h : evE F C a env = some (.fr (bs.map .bool), e1)) : evE F C (.blt .all1 (.cons a .nil)) env = some (.pu (.bool (bs.all id)), e1) := by
  have q : boolsOf (bs.map PyData.bool) = some bs := by
    have := bools_map (fun b : Bool => b) bs
    simpa using this
  have v : bltV .all1 [.list (bs.map .bool)] = some (.pu (.bool (bs.all id))) := by
    show (boolsOf (bs.map PyData.bool)).map _ = _
    rw [q]; rfl
  rw [evE, evA, h]
  dsimp only
  rw [evA]
  show Option.map (fun x => (x, e1)) (bltV .all1 [.list (bs.map .bool)]) = _
  rw [v]; rfl
theorem xAny {bs : List Bool} (h : evE F C a env = some (.fr (bs.map .bool), e1)) : evE F C (.blt .any1 (.cons a .nil)) env = some (.pu (.bool (bs.any id)), e1) := by
  have q : boolsOf (bs.map PyData.bool) = some bs := by
    have := bools_map (fun b : Bool => b) bs
    simpa using this
  have v : bltV .any1 [.list (bs.map .bool)] = some (.pu (.bool (bs.any id))) := by
    show (boolsOf (bs.map PyData.bool)).map _ = _
    rw [q]; rfl
  rw [evE, evA, h]
  dsimp only
  rw [evA]
  show Option.map (fun x => (x, e1)) (bltV .any1 [.list (bs.map .bool)]) = _
  rw [v]; rfl
/-- a built-in of one value -/
theorem xB1 {bl : Blt} (h : evE F C a env = some (.pu x, e1)) (v : bltV bl [x] = some o) : evE F C (.blt bl (.cons a .nil)) env = some (o, e1) := by
  rw [evE, evA, h]; dsimp only; rw [evA]
  show Option.map (fun x => (x, e1)) (bltV bl [x]) = _
  rw [v]; rfl
theorem xB2 {bl : Blt} (h : evE F C a env = some (.pu x, e1)) (h2 : evE F C b e1 = some (.pu y, e2)) (v : bltV bl [x, y] = some o) : evE F C (.blt bl (.cons a (.cons b .nil))) env = some (o, e2) := by
  rw [evE, evA, h]; dsimp only; rw [evA, h2]; dsimp only; rw [evA]
  show Option.map (fun x => (x, e2)) (bltV bl [x, y]) = _
  rw [v]; rfl
/-- calls, all arguments values -/
theorem xC1 {rv : Rv} (h1 : evE F C a env = some (.pu x, e1)) (hf : F f [.pu x] = some (rv, [])) : evE F C (.call f (.cons a .nil)) env = some (rvO rv, e1) := by
  rw [evE, evA, h1]; dsimp only; rw [evA]
  show callO F f [.pu x] e1 = _
  unfold callO
  show (if distinct (iosOf e1 [.pu x]) = true then (match F f [.pu x] with | none => none | some (rv, outs) => match backOut e1 (iosOf e1 [.pu x]) outs with | none => none | some env' => some (rvO rv, env')) else none) = _
  rw [hf]; rfl
theorem xC1f {rv : Rv} (h1 : evE F C a env = some (.fr xs, e1)) (hf : F f [.pu (.list xs)] = some (rv, [])) : evE F C (.call f (.cons a .nil)) env = some (rvO rv, e1) := by
  rw [evE, evA, h1]; dsimp only; rw [evA]
  show callO F f [.pu (.list xs)] e1 = _
  unfold callO
  show (if distinct (iosOf e1 [.pu (.list xs)]) = true then (match F f [.pu (.list xs)] with | none => none | some (rv, outs) => match backOut e1 (iosOf e1 [.pu (.list xs)]) outs with | none => none | some env' => some (rvO rv, env')) else none) = _
  rw [hf]; rfl
theorem xC2 {rv : Rv} (h1 : evE F C a env = some (.pu x, e1)) (h2 : evE F C b e1 = some (.pu y, e2)) (hf : F f [.pu x, .pu y] = some (rv, [])) : evE F C (.call f (.cons a (.cons b .nil))) env = some (rvO rv, e2) := by
  rw [evE, evA, h1]; dsimp only; rw [evA, h2]; dsimp only; rw [evA]
  show callO F f [.pu x, .pu y] e2 = _
  unfold callO
  show (if distinct (iosOf e2 [.pu x, .pu y]) = true then (match F f [.pu x, .pu y] with | none => none | some (rv, outs) => match backOut e2 (iosOf e2 [.pu x, .pu y]) outs with | none => none | some env' => some (rvO rv, env')) else none) = _
  rw [hf]; rfl
theorem xC3 {rv : Rv} (h1 : evE F C a env = some (.pu x, e1)) (h2 : evE F C b e1 = some (.pu y, e2)) (h3 : evE F C c e2 = some (.pu z, e3)) (hf : F f [.pu x, .pu y, .pu z] = some (rv, [])) : evE F C (.call f (.cons a (.cons b (.cons c .nil)))) env = some (rvO rv, e3) := by
  rw [evE, evA, h1]; dsimp only; rw [evA, h2]; dsimp only; rw [evA, h3]; dsimp only; rw [evA]
  show callO F f [.pu x, .pu y, .pu z] e3 = _
  unfold callO
  show (if distinct (iosOf e3 [.pu x, .pu y, .pu z]) = true then (match F f [.pu x, .pu y, .pu z] with | none => none | some (rv, outs) => match backOut e3 (iosOf e3 [.pu x, .pu y, .pu z]) outs with | none => none | some env' => some (rvO rv, env')) else none) = _
  rw [hf]; rfl
theorem xC3f {rv : Rv} (h1 : evE F C a env = some (.pu x, e1)) (h2 : evE F C b e1 = some (.pu y, e2)) (h3 : evE F C c e2 = some (.fr xs, e3)) (hf : F f [.pu x, .pu y, .pu (.list xs)] = some (rv, [])) : evE F C (.call f (.cons a (.cons b (.cons c .nil)))) env = some (rvO rv, e3) := by
  rw [evE, evA, h1]; dsimp only; rw [evA, h2]; dsimp only; rw [evA, h3]; dsimp only; rw [evA]
  show callO F f [.pu x, .pu y, .pu (.list xs)] e3 = _
  unfold callO
  show (if distinct (iosOf e3 [.pu x, .pu y, .pu (.list xs)]) = true then (match F f [.pu x, .pu y, .pu (.list xs)] with | none => none | some (rv, outs) => match backOut e3 (iosOf e3 [.pu x, .pu y, .pu (.list xs)]) outs with | none => none | some env' => some (rvO rv, env')) else none) = _
  rw [hf]; rfl
theorem xC4 {rv : Rv} (h1 : evE F C a env = some (.pu x, e1)) (h2 : evE F C b e1 = some (.pu y, e2)) (h3 : evE F C c e2 = some (.pu z, e3)) (h4 : evE F C d e3 = some (.pu w, e4)) (hf : F f [.pu x, .pu y, .pu z, .pu w] = some (rv, [])) : evE F C (.call f (.cons a (.cons b (.cons c (.cons d .nil))))) env = some (rvO rv, e4) := by
  rw [evE, evA, h1]; dsimp only; rw [evA, h2]; dsimp only; rw [evA, h3]; dsimp only; rw [evA, h4]; dsimp only; rw [evA]
  show callO F f [.pu x, .pu y, .pu z, .pu w] e4 = _
  unfold callO
  show (if distinct (iosOf e4 [.pu x, .pu y, .pu z, .pu w]) = true then (match F f [.pu x, .pu y, .pu z, .pu w] with | none => none | some (rv, outs) => match backOut e4 (iosOf e4 [.pu x, .pu y, .pu z, .pu w]) outs with | none => none | some env' => some (rvO rv, env')) else none) = _
  rw [hf]; rfl
theorem xVar (h : env[i]? = some (.val x)) : evE F C (.var i) env = some (.pu x, env) := by
  rw [evE, h]
theorem xOwn {t : Nat} (h : env[i]? = some (.own t xs)) : evE F C (.var i) env = some (.bo i, env) := by
  rw [evE, h]
theorem xIdx {k : D} (h1 : evE F C a env = some (.pu x, e1)) (h2 : evE F C b e1 = some (.pu k, e2)) (v : idxV x k = some r) : evE F C (.idx a b) env = some (.pu r, e2) := by
  rw [evE, h1]; dsimp only; rw [h2]; dsimp only; rw [rds]; dsimp only; rw [v]; rfl
theorem xBin {op : BOp} (h1 : evE F C a env = some (.pu x, e1)) (h2 : evE F C b e1 = some (.pu y, e2)) (v : binV op x y = some o) : evE F C (.bin op a b) env = some (o, e2) := by
  rw [evE, h1]; dsimp only; rw [h2]; dsimp only; rw [rdp, rdp]; dsimp only; rw [v]; rfl
theorem xBinFF {op : BOp} (h1 : evE F C a env = some (.fr xs, e1)) (h2 : evE F C b e1 = some (.fr ys, e2)) (v : binV op (.list xs) (.list ys) = some o) : evE F C (.bin op a b) env = some (o, e2) := by
  rw [evE, h1]; dsimp only; rw [h2]; dsimp only; rw [rdp, rdp]; dsimp only; rw [v]; rfl
theorem xCmp {op : COp} {k : Bool} (h1 : evE F C a env = some (.pu x, e1)) (h2 : evE F C b e1 = some (.pu y, e2)) (v : cmpV op x y = some k) : evE F C (.cmp op a b) env = some (.pu (.bool k), e2) := by
  rw [evE, h1]; dsimp only; rw [h2]; dsimp only; rw [rds, rds]; dsimp only; rw [v]; rfl
/-- a comparison, the operands read -/
theorem xCmpR {op : COp} {k : Bool} (h1 : evE F C a env = some (o, e1)) (h2 : evE F C b e1 = some (p, e2)) (r1 : rds e2 o = some x) (r2 : rds e2 p = some y) (v : cmpV op x y = some k) : evE F C (.cmp op a b) env = some (.pu (.bool k), e2) := by
  rw [evE, h1]; dsimp only; rw [h2]; dsimp only; rw [r1, r2]; dsimp only; rw [v]; rfl
theorem xNot {k : Bool} (h : evE F C a env = some (.pu (.bool k), e1)) : evE F C (.nt a) env = some (.pu (.bool (!k)), e1) := by
  rw [evE, h]
theorem xOrT (h : evE F C a env = some (.pu (.bool true), e1)) : evE F C (.or2 a b) env = some (.pu (.bool true), e1) := by
  rw [evE, h]
theorem xOrF (h : evE F C a env = some (.pu (.bool false), e1)) (h2 : evE F C b e1 = some (o, e2)) : evE F C (.or2 a b) env = some (o, e2) := by
  rw [evE, h]; exact h2
theorem xAndT (h : evE F C a env = some (.pu (.bool true), e1)) (h2 : evE F C b e1 = some (o, e2)) : evE F C (.and2 a b) env = some (o, e2) := by
  rw [evE, h]; exact h2
theorem xAndF (h : evE F C a env = some (.pu (.bool false), e1)) : evE F C (.and2 a b) env = some (.pu (.bool false), e1) := by
  rw [evE, h]
theorem xIteT (h : evE F C a env = some (.pu (.bool true), e1)) (h2 : evE F C b e1 = some (o, e2)) : evE F C (.ite a b c) env = some (o, e2) := by
  rw [evE, h]; exact h2
theorem xIteF (h : evE F C a env = some (.pu (.bool false), e1)) (h2 : evE F C c e1 = some (o, e2)) : evE F C (.ite a b c) env = some (o, e2) := by
  rw [evE, h]; exact h2
theorem iIt (h : evE F C a env = some (o, e1)) (hd : frzd o = some x) (hs : seqV x = some xs) : evI F C (.it a) env = some (xs, e1) := by
  rw [evI, h]; dsimp only; rw [hd]; dsimp only; rw [hs]; rfl
theorem iFr (h : evE F C a env = some (.fr xs, e1)) : evI F C (.it a) env = some (xs, e1) := iIt h rfl rfl
theorem iPl (h : evE F C a env = some (.pu (.list xs), e1)) : evI F C (.it a) env = some (xs, e1) := iIt h rfl rfl
theorem iPt (h : evE F C a env = some (.pu (.tuple xs), e1)) : evI F C (.it a) env = some (xs, e1) := iIt h rfl rfl
theorem xEnu (h : evE F C a env = some (o, e1)) (hd : frzd o = some x) (hs : seqV x = some xs) : evI F C (.enu a) env = some (enuL 0 xs, e1) := by
  rw [evI, h]; dsimp only; rw [hd]; dsimp only; rw [hs]; rfl
theorem iRng (h : evE F C a env = some (.pu x, e1)) (h2 : evE F C b e1 = some (.pu y, e2)) (hs : rngV x y = some xs) : evI F C (.rng a b) env = some (xs, e2) := by
  rw [evI, h]; dsimp only; rw [h2]; dsimp only; rw [hs]; rfl
/-! ### statements -/
theorem sAsg (h : evE F C a env = some (o, e1)) (hd : frzd o = some x) (hp : putv e1 i (.val x) = some e2) : evS F C (.asg (.nm i) a) env = some (.nx e2) := by
  rw [evS, h]; dsimp only; rw [hd]; dsimp only; rw [asgT, hp]; rfl
theorem sOwn (h : evE F C a env = some (.fr xs, e1)) (hp : putv e1 i (.own 0 xs) = some e2) : evS F C (.own i a) env = some (.nx e2) := by
  rw [evS, h]; dsimp only; rw [hp]; rfl
theorem sRet (h : evE F C a env = some (o, e1)) : evS F C (.ret a) env = some (.rt o e1) := by
  rw [evS, h]
theorem sEx (h : evE F C a env = some (o, e1)) : evS F C (.ex a) env = some (.nx e1) := by
  rw [evS, h]
theorem sIfT (h : evE F C a env = some (.pu (.bool true), e1)) : evS F C (.ite a ss tt) env = evSs F C ss e1 := by
  rw [evS, h]
theorem sIfF (h : evE F C a env = some (.pu (.bool false), e1)) : evS F C (.ite a ss tt) env = evSs F C tt e1 := by
  rw [evS, h]
theorem ssR (h : evS F C s env = some (.rt o e1)) : evSs F C (.cons s ss) env = some (.rt o e1) := by
  rw [evSs, h]
theorem ssRet (h : evE F C a env = some (o, e1)) : evSs F C (.cons (.ret a) ss) env = some (.rt o e1) := ssR (sRet h)
/-- a test that fails: on -/
theorem ssF (h : evE F C a env = some (.pu (.bool false), e1)) : evSs F C (.cons (.ite a ss .nil) tt) env = evSs F C tt e1 := by
  rw [evSs, sIfF h, evSs]
/-- a test that holds, and the branch returns -/
theorem ssT (h : evE F C a env = some (.pu (.bool true), e1)) (h2 : evSs F C ss e1 = some (.rt o e2)) : evSs F C (.cons (.ite a ss .nil) tt) env = some (.rt o e2) := by
  rw [evSs, sIfT h, h2]
theorem tAll {α : Type} {l : List α} {g : α → Bool} (h : evE F C a env = some (.fr (l.map fun x => .bool (g x)), e1)) : evE F C (.blt .all1 (.cons a .nil)) env = some (.pu (.bool (l.all g)), e1) := by
  have h' : evE F C a env = some (.fr ((l.map g).map .bool), e1) := by rw [List.map_map]; exact h
  rw [xAll h', all_id]
theorem tAny {α : Type} {l : List α} {g : α → Bool} (h : evE F C a env = some (.fr (l.map fun x => .bool (g x)), e1)) : evE F C (.blt .any1 (.cons a .nil)) env = some (.pu (.bool (l.any g)), e1) := by
  have h' : evE F C a env = some (.fr ((l.map g).map .bool), e1) := by rw [List.map_map]; exact h
  rw [xAny h']
  simp [List.any_map]
/-- a def's end: a value returned, no list handed in -/
theorem runP {fn : Fn} {as : List D} {env : Ev} (h : as.length = fn.np) (he : (as.map Sl.val) ++ List.replicate (fn.ns - fn.np) .emp = env) (hb : evSs F C fn.body env = some (.rt (.pu r) e1)) : runF F C fn (as.map .pu) = some (.pu r, []) := by
  have h2 : ∀ (as : List D) (t : Nat), slOf t (as.map Ar.pu) = as.map Sl.val := by
    intro as
    induction as with
    | nil => intro t; rfl
    | cons a as ih => intro t; simp [slOf, ih]
  have h3 : ∀ (as : List D) (t : Nat) (e : Ev), outsOf e t (as.map Ar.pu) = some [] := by
    intro as
    induction as with
    | nil => intro t e; rfl
    | cons a as ih => intro t e; simp [outsOf, ih]
  exact runE (by simpa using h) (by rw [h2]; exact he) hb (by simp [finF, rvOf, h3])
theorem runFr {fn : Fn} {as : List D} {env : Ev} (h : as.length = fn.np) (he : (as.map Sl.val) ++ List.replicate (fn.ns - fn.np) .emp = env) (hb : evSs F C fn.body env = some (.rt (.fr xs) e1)) : runF F C fn (as.map .pu) = some (.fr xs, []) := by
  have h2 : ∀ (as : List D) (t : Nat), slOf t (as.map Ar.pu) = as.map Sl.val := by
    intro as
    induction as with
    | nil => intro t; rfl
    | cons a as ih => intro t; simp [slOf, ih]
  have h3 : ∀ (as : List D) (t : Nat) (e : Ev), outsOf e t (as.map Ar.pu) = some [] := by
    intro as
    induction as with
    | nil => intro t e; rfl
    | cons a as ih => intro t e; simp [outsOf, ih]
  exact runE (by simpa using h) (by rw [h2]; exact he) hb (by simp [finF, rvOf, h3])
/-- .. of an own list -/
theorem runOw {fn : Fn} {as : List D} {env : Ev} (h : as.length = fn.np) (he : (as.map Sl.val) ++ List.replicate (fn.ns - fn.np) .emp = env) (hb : evSs F C fn.body env = some (.rt (.bo i) e1)) (ho : e1[i]? = some (.own 0 xs)) : runF F C fn (as.map .pu) = some (.fr xs, []) := by
  have h2 : ∀ (as : List D) (t : Nat), slOf t (as.map Ar.pu) = as.map Sl.val := by
    intro as
    induction as with
    | nil => intro t; rfl
    | cons a as ih => intro t; simp [slOf, ih]
  have h3 : ∀ (as : List D) (t : Nat) (e : Ev), outsOf e t (as.map Ar.pu) = some [] := by
    intro as
    induction as with
    | nil => intro t e; rfl
    | cons a as ih => intro t e; simp [outsOf, ih]
  exact runE (by simpa using h) (by rw [h2]; exact he) hb (by simp [finF, rvOf, h3, ho])
theorem runNx {fn : Fn} {as : List D} {env : Ev} (h : as.length = fn.np) (he : (as.map Sl.val) ++ List.replicate (fn.ns - fn.np) .emp = env) (hb : evSs F C fn.body env = some (.nx e1)) : runF F C fn (as.map .pu) = some (.pu .none, []) := by
  have h2 : ∀ (as : List D) (t : Nat), slOf t (as.map Ar.pu) = as.map Sl.val := by
    intro as
    induction as with
    | nil => intro t; rfl
    | cons a as ih => intro t; simp [slOf, ih]
  have h3 : ∀ (as : List D) (t : Nat) (e : Ev), outsOf e t (as.map Ar.pu) = some [] := by
    intro as
    induction as with
    | nil => intro t e; rfl
    | cons a as ih => intro t e; simp [outsOf, ih]
  exact runE (by simpa using h) (by rw [h2]; exact he) hb (by simp [finF, h3])
end
end Rf

set_option Elab.async false
set_option linter.all false
set_option maxRecDepth 100000
set_option maxHeartbeats 4000000
/-! Rf: nets (surveys, ties) by their legs' ends. -/
namespace Rf
open PySem
/-- a walk of steps (leg, sense) -/
inductive Pth (es : List (Int × Int)) (s : Int) : Int → List (Int × Int) → Prop
  | nil : Pth es s s []
  | snoc {x : Int} {w : List (Int × Int)} {a sg : Int} {e : Int × Int} {y : Int} : Pth es s x w → 0 ≤ a → es[a.toNat]? = some e → ((sg = 1 ∧ e.1 = x ∧ e.2 = y) ∨ (sg = -1 ∧ e.2 = x ∧ e.1 = y)) → Pth es s y (w ++ [(a, sg)])
abbrev Leg := D × (Int × Int)
structure Net (S : D) (n : Nat) (ls : List Leg) : Prop where
  s2 : idxV S (.int 2) = some (.int n)
  s3 : idxV S (.int 3) = some (.tuple (ls.map (·.1)))
  lg : ∀ p ∈ ls, idxV p.1 (.int 1) = some (.int p.2.1) ∧ idxV p.1 (.int 2) = some (.int p.2.2) ∧ slcV p.1 (some 1) (some 3) = some (.pu (.tuple [.int p.2.1, .int p.2.2]))
  rg : ∀ p ∈ ls, 0 ≤ p.2.1 ∧ p.2.1 < n ∧ 0 ≤ p.2.2 ∧ p.2.2 < n
  ln : ls.length ≤ 1000
  nn : n ≤ 1000
def esL (ls : List Leg) : List (Int × Int) := ls.map (·.2)
def legsAt (st : Int) (ls : List Leg) : List Int := (ls.zipIdx.filter fun p => decide (st = p.1.2.1 ∨ st = p.1.2.2)).map fun p => (p.2 : Int)
theorem enu_map {α : Type} (f : α → D) : ∀ (l : List α) (k : Nat), enuL k (l.map f) = (l.zipIdx k).map fun p => .tuple [.int p.2, f p.1]
  | [], _ => rfl
  | a :: l, k => by simp only [List.map_cons, enuL, List.zipIdx_cons, enu_map f l (k + 1)]
theorem at_map {α : Type} (f : α → D) {l : List α} {i : Int} (h0 : 0 ≤ i) (h1 : i < l.length) : ∃ x, l[i.toNat]? = some x ∧ L2.atI (l.map f) i = some (f x) := by
  have hl : i.toNat < l.length := by omega
  refine ⟨l[i.toNat], List.getElem?_eq_getElem hl, ?_⟩
  unfold L2.atI L2.ixN
  rw [if_pos h0, if_pos (by simpa using h1)]
  simp [hl]
theorem xCst {F : FT} {C : List D} {env : Ev} {d : D} : evE F C (.cst d) env = some (.pu d, env) := by rw [evE]
theorem xNil {F : FT} {C : List D} {env : Ev} : evE F C (.lst .nil) env = some (.fr [], env) := by
  rw [evE, evP]; rfl
theorem xNeg1 {F : FT} {C : List D} {env : Ev} : evE F C (.neg (.cst (.int 1))) env = some (.pu (.int (-1)), env) := by
  rw [evE, evE]; rfl
theorem slcE {F : FT} {C : List D} {a : IE} {env e1 : Ev} {x : D} {lo hi : IO} {i j : Option Int} {o : Opd} (h : evE F C a env = some (.pu x, e1)) (h1 : evO F C lo e1 = some (i, e1)) (h2 : evO F C hi e1 = some (j, e1)) (v : slcV x i j = some o) : evE F C (.slc a lo hi) env = some (o, e1) := by
  rw [evE, h]; dsimp only; rw [h1]; dsimp only; rw [h2]; dsimp only; rw [rds]; dsimp only; rw [v]; rfl
theorem oCst {F : FT} {C : List D} {env : Ev} {i : Int} : evO F C (.som (.cst (.int i))) env = some (some i, env) := by rw [evO, evE]
theorem oNon {F : FT} {C : List D} {env : Ev} : evO F C .non env = some (none, env) := by rw [evO]
theorem dSom {F : FT} {C : List D} {a : IE} {env e1 : Ev} {b : Bool} (h : evE F C a env = some (.pu (.bool b), e1)) : evD F C (.som a) env = some (b, e1) := by rw [evD, h]
section
variable {S : D} {n : Nat} {ls : List Leg} {lot : List Int} {st a x y : Int}
theorem mem_legsAt : a ∈ legsAt st ls ↔ 0 ≤ a ∧ ∃ p, ls[a.toNat]? = some p ∧ (st = p.2.1 ∨ st = p.2.2) := by
  unfold legsAt
  simp only [List.mem_map, List.mem_filter, decide_eq_true_eq]
  constructor
  · rintro ⟨⟨p, i⟩, ⟨h1, h2⟩, rfl⟩
    have := List.mem_zipIdx_iff_getElem?.mp h1
    exact ⟨by omega, p, by simpa using this, h2⟩
  · rintro ⟨h0, p, h1, h2⟩
    exact ⟨(p, a.toNat), ⟨List.mem_zipIdx_iff_getElem?.mpr h1, h2⟩, by simp; omega⟩
/-- the station at the other end -/
def farE (e : Int × Int) (st : Int) : Int := if e.1 = st then e.2 else e.1
theorem jn_far (h0 : 0 ≤ a) {p : Leg} (hp : ls[a.toNat]? = some p) (hs : st = p.2.1 ∨ st = p.2.2) : Jn (esL ls) a st (farE p.2 st) ∧ ∀ y, Jn (esL ls) a st y → y = farE p.2 st := by
  have he : (esL ls)[a.toNat]? = some p.2 := by simp [esL, hp]
  refine ⟨⟨p.2, h0, he, ?_⟩, fun y ⟨e, _, h1, h2⟩ => ?_⟩
  · unfold farE
    by_cases q : p.2.1 = st
    · rw [if_pos q]; exact .inl ⟨q, rfl⟩
    · rw [if_neg q]
      rcases hs with z | z
      · exact absurd z.symm q
      · exact .inr ⟨z.symm, rfl⟩
  · rw [he] at h1; cases h1
    unfold farE
    by_cases q : p.2.1 = st
    · rw [if_pos q]
      rcases h2 with ⟨_, z⟩ | ⟨z1, z2⟩
      · exact z.symm
      · rw [← z2, q, z1]
    · rw [if_neg q]
      rcases h2 with ⟨z, _⟩ | ⟨_, z⟩
      · exact absurd z q
      · exact z.symm
theorem jn_at (h : Jn (esL ls) a st y) : a ∈ legsAt st ls := by
  obtain ⟨e, h0, h1, h2⟩ := h
  simp only [esL, List.getElem?_map] at h1
  obtain ⟨p, hp, rfl⟩ := Option.map_eq_some_iff.mp h1
  exact mem_legsAt.mpr ⟨h0, p, hp, h2.elim (fun z => .inl z.1.symm) fun z => .inr z.1.symm⟩
theorem Net.jn_rg (N : Net S n ls) (h : Jn (esL ls) a x y) : y ∈ iot n := by
  obtain ⟨e, h0, h1, h2⟩ := h
  simp only [esL, List.getElem?_map] at h1
  obtain ⟨p, hp, rfl⟩ := Option.map_eq_some_iff.mp h1
  have := N.rg p (List.mem_of_getElem? hp)
  exact mem_iot.mpr (by omega)
/-- what stands between the turns of a search -/
structure RInv (es : List (Int × Int)) (n : Nat) (s : Int) (lot f l : List Int) (here : Int → Prop) : Prop where
  nd : f.Nodup
  rg : ∀ x ∈ f, x ∈ iot n
  rc : ∀ x ∈ f, Rch es (· ∈ lot) s x
  st : s ∈ f
  sb : ∀ x ∈ l, x ∈ f
  cl : ∀ x ∈ f, x ∉ l → ¬ here x → ∀ at_ y, at_ ∈ lot → Jn es at_ x y → y ∈ f
theorem RInv.len {es : List (Int × Int)} {s : Int} {f l : List Int} {here : Int → Prop} (h : RInv es n s lot f l here) : f.length ≤ n :=
  nodup_le (n := n) h.nd fun x hx => mem_iot.mp (h.rg x hx)
theorem RInv.end_ {es : List (Int × Int)} {s : Int} {f : List Int} (h : RInv es n s lot f [] (fun _ => False)) : ∀ t, t ∈ f ↔ Rch es (· ∈ lot) s t := fun t =>
  ⟨h.rc t, fun z => z.closed h.st fun x hx a y ha hj => h.cl x hx (by simp) id a y ha hj⟩
theorem RInv.add {es : List (Int × Int)} {s there here : Int} {f l : List Int} {P : Int → Prop} (h : RInv es n s lot f l P) (hh : here ∈ f) (ha : a ∈ lot) (hj : Jn es a here there) (hr : there ∈ iot n) (hn : there ∉ f) : RInv es n s lot (f ++ [there]) (l ++ [there]) P := by
  refine ⟨?_, fun x hx => ?_, fun x hx => ?_, List.mem_append_left _ h.st, fun x hx => ?_, fun x hx hxl hxh b y hb hjb => ?_⟩
  · rw [List.nodup_append]
    exact ⟨h.nd, by simp, by intro x hx y hy e; simp at hy; subst hy; subst e; exact hn hx⟩
  · rcases List.mem_append.mp hx with q | q
    · exact h.rg x q
    · simp at q; subst q; exact hr
  · rcases List.mem_append.mp hx with q | q
    · exact h.rc x q
    · simp at q; subst q; exact .step (h.rc _ hh) ha hj
  · rcases List.mem_append.mp hx with q | q
    · exact List.mem_append_left _ (h.sb x q)
    · exact List.mem_append_right _ q
  · have hx' : x ∈ f := by
      rcases List.mem_append.mp hx with q | q
      · exact q
      · exact absurd (List.mem_append_right _ q) hxl
    exact List.mem_append_left _ (h.cl x hx' (fun z => hxl (List.mem_append_left _ z)) hxh b y hb hjb)
end
section
open Classical
/-- what is reached, rising -/
noncomputable def cmpN (es : List (Int × Int)) (n : Nat) (lot : List Int) (s : Int) : List Int := (iot n).filter fun t => decide (Rch es (· ∈ lot) s t)
def lstN (es : List (Int × Int)) (n : Nat) (lot : List Int) (s : Int) : Prop := ∀ t ∈ iot n, Rch es (· ∈ lot) s t → s ≤ t
noncomputable def pcsN (es : List (Int × Int)) (n : Nat) (lot : List Int) (m : Nat) : List (List Int) := ((iot m).filter fun s => decide (lstN es n lot s)).map (cmpN es n lot)
theorem cmpN_of {es : List (Int × Int)} {n : Nat} {lot : List Int} {s : Int} {f : List Int} (h : RInv es n s lot f [] (fun _ => False)) : isort (fun a b : Int => decide (a ≤ b)) f = cmpN es n lot s := by
  refine rising_eq (le_lt_nodup (isort_sorted f) (isort_nodup h.nd)) (List.Pairwise.filter _ (iot_rising n)) fun x => ?_
  rw [mem_isort, h.end_ x]
  simp only [cmpN, List.mem_filter, decide_eq_true_eq]
  exact ⟨fun z => ⟨h.rg x ((h.end_ x).mpr z), z⟩, fun z => z.2⟩
theorem mem_cmpN {es : List (Int × Int)} {n : Nat} {lot : List Int} {s t : Int} : t ∈ cmpN es n lot s ↔ t ∈ iot n ∧ Rch es (· ∈ lot) s t := by simp [cmpN]
theorem cmpN_rising {es : List (Int × Int)} {n : Nat} {lot : List Int} {s : Int} : (cmpN es n lot s).Pairwise (· < ·) := List.Pairwise.filter _ (iot_rising n)
/-- a station is in a piece begun before just if it is not the least of its own -/
theorem any_pcs {es : List (Int × Int)} {n : Nat} {lot : List Int} (hrg : ∀ s ∈ iot n, ∀ t, Rch es (· ∈ lot) s t → t ∈ iot n) {m : Nat} (hm : (m : Int) ∈ iot n) : (pcsN es n lot m).any (fun p => decide ((m : Int) ∈ p)) = !decide (lstN es n lot m) := by
  have hm' := mem_iot.mp hm
  by_cases hl : lstN es n lot m
  · rw [decide_eq_true hl]
    simp only [Bool.not_true, List.any_eq_false, decide_eq_true_eq]
    intro p hp hin
    simp only [pcsN, List.mem_map, List.mem_filter] at hp
    obtain ⟨s, ⟨hs, _⟩, rfl⟩ := hp
    obtain ⟨_, r⟩ := mem_cmpN.mp hin
    have hs' := mem_iot.mp hs
    have := hl s (mem_iot.mpr (by omega)) r.symm
    omega
  · rw [decide_eq_false hl]
    simp only [Bool.not_false, List.any_eq_true, decide_eq_true_eq]
    have : (m : Int) ∈ cmpN es n lot m := mem_cmpN.mpr ⟨hm, .refl⟩
    cases e : cmpN es n lot m with
    | nil => rw [e] at this; cases this
    | cons r l =>
      have hr : r ∈ cmpN es n lot m := by rw [e]; simp
      obtain ⟨hr1, hr2⟩ := mem_cmpN.mp hr
      have rs := cmpN_rising (es := es) (n := n) (lot := lot) (s := m)
      rw [e] at rs
      have rmin : ∀ u ∈ iot n, Rch es (· ∈ lot) (m : Int) u → r ≤ u := fun u hu hur => by
        have hu' : u ∈ cmpN es n lot m := mem_cmpN.mpr ⟨hu, hur⟩
        rw [e] at hu'
        rcases List.mem_cons.mp hu' with rfl | q
        · omega
        · have := (List.pairwise_cons.mp rs).1 u q; omega
      have rm : r < m := by
        have h1 := rmin m hm .refl
        by_cases q : r = m
        · subst q
          exact absurd (fun t ht hr => rmin t ht hr) hl
        · omega
      have rl : lstN es n lot r := fun t ht hrt => rmin t ht (hr2.trans hrt)
      refine ⟨cmpN es n lot r, ?_, mem_cmpN.mpr ⟨hm, hr2.symm⟩⟩
      simp only [pcsN, List.mem_map, List.mem_filter, decide_eq_true_eq]
      exact ⟨r, ⟨mem_iot.mpr ⟨(mem_iot.mp hr1).1, rm⟩, rl⟩, rfl⟩
theorem pcs_succ (es : List (Int × Int)) (n : Nat) (lot : List Int) (m : Nat) : pcsN es n lot (m + 1) = pcsN es n lot m ++ (if lstN es n lot m then [cmpN es n lot m] else []) := by
  have e : iot (m + 1) = iot m ++ [(m : Int)] := by simp [iot, List.range_succ]
  unfold pcsN
  rw [e, List.filter_append, List.map_append]
  by_cases h : lstN es n lot m <;> simp [h]
end
end Rf

set_option Elab.async false
set_option linter.all false
set_option maxRecDepth 100000
set_option maxHeartbeats 4000000
/-! Rf: dicts with ints for keys, typed values. -/
namespace Rf
open PySem
section
variable {α : Type} (f : α → D)
def dkG (ks : List (Int × α)) : List (D × D) := ks.map fun p => (.int p.1, f p.2)
theorem keq_ii (i j : Int) : keq (.int i) (.int j) = decide (i = j) := rfl
theorem isKey_i (i : Int) : isKey (.int i) = true := rfl
theorem kget_dk (t : Int) : ∀ ks : List (Int × α), (kget (dkG f ks) (.int t) = none ∧ t ∉ ks.map (·.1)) ∨ ∃ v, kget (dkG f ks) (.int t) = some (f v) ∧ (t, v) ∈ ks
  | [] => .inl ⟨rfl, by simp⟩
  | p :: ks => by
    have ih := kget_dk t ks
    have e : kget (dkG f (p :: ks)) (.int t) = if p.1 = t then some (f p.2) else kget (dkG f ks) (.int t) := by
      simp only [dkG, List.map_cons, kget, keq_ii, decide_eq_true_eq]
    rw [e]
    by_cases h : p.1 = t
    · rw [if_pos h]
      exact .inr ⟨p.2, rfl, by rw [← h]; exact List.mem_cons_self⟩
    · rw [if_neg h]
      rcases ih with ⟨i1, i2⟩ | ⟨v, i1, i2⟩
      · exact .inl ⟨i1, by simp only [List.map_cons, List.mem_cons, not_or]; exact ⟨fun z => h z.symm, i2⟩⟩
      · exact .inr ⟨v, i1, List.mem_cons_of_mem _ i2⟩
theorem kget_in {t : Int} {ks : List (Int × α)} (h : t ∈ ks.map (·.1)) : ∃ v, kget (dkG f ks) (.int t) = some (f v) ∧ (t, v) ∈ ks := by
  rcases kget_dk f t ks with ⟨_, z⟩ | z
  · exact absurd h z
  · exact z
theorem khas_dk (t : Int) (ks : List (Int × α)) : khas (dkG f ks) (.int t) = decide (t ∈ ks.map (·.1)) := by
  unfold khas
  rcases kget_dk f t ks with ⟨h1, h2⟩ | ⟨v, h1, h2⟩
  · rw [h1, decide_eq_false h2]; rfl
  · rw [h1, decide_eq_true (List.mem_map.mpr ⟨_, h2, rfl⟩)]; rfl
theorem kput_dk {t : Int} {ks : List (Int × α)} (v : α) (h : t ∉ ks.map (·.1)) : kput (dkG f ks) (.int t) (f v) = dkG f (ks ++ [(t, v)]) := by
  unfold kput
  rw [khas_dk, decide_eq_false h]
  simp [dkG]
end
section
variable {F : FT} {C : List D} {a b c e : IE} {env e1 e2 e3 : Ev} {p q d : D} {kvs : List (D × D)} {o : Opd} {i : Nat}
theorem xDic (h : env[i]? = some (.dic kvs)) : evE F C (.var i) env = some (.bo i, env) := by rw [evE, h]
theorem xDixB (ha : evE F C a env = some (.bo i, e1)) (hb : evE F C b e1 = some (.pu p, e2)) (hd : e2[i]? = some (.dic kvs)) (hk : isKey p = true) (hg : kget kvs p = some d) : evE F C (.dix a b) env = some (.pu d, e2) := by
  rw [evE, ha]; dsimp only; rw [hb]; dsimp only; rw [rds, hd]; dsimp only; rw [if_pos hk, hg]; rfl
theorem xDixV (ha : evE F C a env = some (.pu (.dict kvs), e1)) (hb : evE F C b e1 = some (.pu p, e2)) (hk : isKey p = true) (hg : kget kvs p = some d) : evE F C (.dix a b) env = some (.pu d, e2) := by
  rw [evE, ha]; dsimp only; rw [hb]; dsimp only; rw [rds]; dsimp only; rw [if_pos hk, hg]; rfl
theorem xDinB {n : Bool} (ha : evE F C a env = some (.pu p, e1)) (hb : evE F C b e1 = some (.bo i, e2)) (hd : e2[i]? = some (.dic kvs)) (hk : isKey p = true) : evE F C (.din n a b) env = some (.pu (.bool (khas kvs p != n)), e2) := by
  rw [evE, ha]; dsimp only; rw [hb]; dsimp only; rw [rds, hd]; dsimp only; rw [if_pos hk]
theorem xDinV {n : Bool} (ha : evE F C a env = some (.pu p, e1)) (hb : evE F C b e1 = some (.pu (.dict kvs), e2)) (hk : isKey p = true) : evE F C (.din n a b) env = some (.pu (.bool (khas kvs p != n)), e2) := by
  rw [evE, ha]; dsimp only; rw [hb]; dsimp only; rw [rds]; dsimp only; rw [if_pos hk]
theorem sDpt (he : evE F C e env = some (o, e1)) (hd : frzd o = some d) (h1 : e1[i]? = some (.dic kvs)) (hk : evE F C b e1 = some (.pu p, e1)) (hp : isKey p = true) (hz : kvs.length < 16777216) : evS F C (.dpt i b e) env = some (.nx (e1.set i (.dic (kput kvs p d)))) := by
  have z : Nat.blt kvs.length 16777216 = true := by unfold Nat.blt; exact Nat.ble_eq_true_of_le hz
  rw [evS, he]; dsimp only; rw [hd]; dsimp only; rw [h1]; dsimp only; rw [hk]; dsimp only; rw [h1]; dsimp only; rw [hp, z]; rfl
theorem sPar2 {o2 : Opd} {i j : Nat} {u v : Bool} {s r : Sl} {e4 : Ev} (h1 : evE F C a env = some (o, e1)) (q1 : slotOf u o = some s) (h2 : evE F C b e1 = some (o2, e2)) (q2 : slotOf v o2 = some r) (q3 : putv e2 i s = some e3) (q4 : putv e3 j r = some e4) : evS F C (.par2 i j u v a b) env = some (.nx e4) := by
  rw [evS, h1]; dsimp only; rw [q1]; dsimp only; rw [h2]; dsimp only; rw [q2]; dsimp only; rw [q3]; dsimp only; rw [q4]; rfl
theorem sPar3 {o2 o3 : Opd} {i j l : Nat} {u v w : Bool} {s r t : Sl} {e4 e5 e6 : Ev} (h1 : evE F C a env = some (o, e1)) (q1 : slotOf u o = some s) (h2 : evE F C b e1 = some (o2, e2)) (q2 : slotOf v o2 = some r) (h3 : evE F C c e2 = some (o3, e3)) (q3 : slotOf w o3 = some t) (q4 : putv e3 i s = some e4) (q5 : putv e4 j r = some e5) (q6 : putv e5 l t = some e6) :
    evS F C (.par3 i j l u v w a b c) env = some (.nx e6) := by
  rw [evS, h1]; dsimp only; rw [q1]; dsimp only; rw [h2]; dsimp only; rw [q2]; dsimp only; rw [h3]; dsimp only; rw [q3]; dsimp only; rw [q4]; dsimp only; rw [q5]; dsimp only; rw [q6]; rfl
/-- an own list: a value put behind -/
theorem xApp {t : Nat} {xs : List D} (h0 : env[i]? = some (.own t xs)) (ha : evE F C a env = some (o, e1)) (hd : frzd (thaw o) = some d) (h1 : e1[i]? = some (.own t xs)) (hz : xs.length < 16777216) : evE F C (.mth .append i (.cons a .nil)) env = some (.pu .none, e1.set i (.own t (xs ++ [d]))) := by
  have z : Nat.blt xs.length 16777216 = true := by unfold Nat.blt; exact Nat.ble_eq_true_of_le hz
  rw [evE, h0]; dsimp only; rw [evA, ha]; dsimp only; rw [evA]
  show mthV .append e1 i [thaw o] = _
  unfold mthV
  rw [h1]; dsimp only; rw [hd]; dsimp only; rw [if_pos z]
/-- x[k] = v -/
theorem sSub {t : Nat} {xs : List D} {j : Int} {m : Nat} (he : evE F C e env = some (o, e1)) (hd : frzd o = some d) (h1 : e1[i]? = some (.own t xs)) (hk : evE F C b e1 = some (.pu (.int j), e1)) (hj : L2.ixN xs.length j = some m) : evS F C (.asg (.sub i b) e) env = some (.nx (e1.set i (.own t (xs.set m d)))) := by
  rw [evS, he]; dsimp only; rw [hd]; dsimp only; rw [asgT, h1]; dsimp only; rw [hk]; dsimp only
  unfold setAt
  rw [h1]; dsimp only; rw [hj]; rfl
end
section
variable {F : FT} {C : List D} {a b c e : IE} {env e1 e2 e3 e4 : Ev} {x y z d : D} {o : Opd} {i j l : Nat} {xs : List D}
theorem xGlo (h : C[j]? = some d) : evE F C (.glo j) env = some (.pu d, env) := by rw [evE, h]
theorem sTup3 (h : evE F C a env = some (.pu (.tuple [x, y, z]), e1)) (p1 : putv e1 i (.val x) = some e2) (p2 : putv e2 j (.val y) = some e3) (p3 : putv e3 l (.val z) = some e4) : evS F C (.asg (.tp (.cons (.nm i) (.cons (.nm j) (.cons (.nm l) .nil)))) a) env = some (.nx e4) := by
  rw [evS, h]; dsimp only; rw [frzd]; dsimp only; rw [asgT, asgTs, asgT, p1]; dsimp only; rw [asgTs, asgT, p2]; dsimp only; rw [asgTs, asgT, p3]; dsimp only; rw [asgTs]; rfl
theorem sTup2 (h : evE F C a env = some (.pu (.tuple [x, y]), e1)) (p1 : putv e1 i (.val x) = some e2) (p2 : putv e2 j (.val y) = some e3) : evS F C (.asg (.tp (.cons (.nm i) (.cons (.nm j) .nil))) a) env = some (.nx e3) := by
  rw [evS, h]; dsimp only; rw [frzd]; dsimp only; rw [asgT, asgTs, asgT, p1]; dsimp only; rw [asgTs, asgT, p2]; dsimp only; rw [asgTs]; rfl
theorem sTup2L (h : evE F C a env = some (.fr [x, y], e1)) (p1 : putv e1 i (.val x) = some e2) (p2 : putv e2 j (.val y) = some e3) : evS F C (.asg (.tp (.cons (.nm i) (.cons (.nm j) .nil))) a) env = some (.nx e3) := by
  rw [evS, h]; dsimp only; rw [frzd]; dsimp only; rw [asgT, asgTs, asgT, p1]; dsimp only; rw [asgTs, asgT, p2]; dsimp only; rw [asgTs]; rfl
end
theorem xExt {F : FT} {C : List D} {a : IE} {env e1 : Ev} {i t : Nat} {xs ys : List D} (h0 : env[i]? = some (.own t xs)) (ha : evE F C a env = some (.fr ys, e1)) (h1 : e1[i]? = some (.own t xs)) (hz : lenOk (xs.length + ys.length) = true) : evE F C (.mth .extend i (.cons a .nil)) env = some (.pu .none, e1.set i (.own t (xs ++ ys))) := by
  rw [evE, h0]; dsimp only; rw [evA, ha]; dsimp only; rw [evA]
  show mthV .extend e1 i [.pu (.list ys)] = _
  unfold mthV
  rw [h1]; dsimp only; rw [frzd]; dsimp only; rw [if_pos hz]
theorem xBinR {F : FT} {C : List D} {op : BOp} {a b : IE} {env e1 e2 : Ev} {o p q : Opd} {x y : D} (h1 : evE F C a env = some (o, e1)) (h2 : evE F C b e1 = some (p, e2)) (r1 : rdp e2 o = some x) (r2 : rdp e2 p = some y) (v : binV op x y = some q) : evE F C (.bin op a b) env = some (q, e2) := by
  rw [evE, h1]; dsimp only; rw [h2]; dsimp only; rw [r1, r2]; dsimp only; rw [v]; rfl
theorem xLs1 {F : FT} {C : List D} {a : IE} {env e1 : Ev} {o : Opd} {d : D} (h : evE F C a env = some (o, e1)) (hd : frzd o = some d) : evE F C (.lst (.cons a .nil)) env = some (.fr [d], e1) := by
  rw [evE, evP, h]; dsimp only; rw [hd]; dsimp only; rw [evP]; rfl
theorem tSub {F : FT} {C : List D} {b : IE} {env : Ev} {d : D} {i t m : Nat} {xs : List D} {j : Int} (h1 : env[i]? = some (.own t xs)) (hk : evE F C b env = some (.pu (.int j), env)) (hj : L2.ixN xs.length j = some m) : asgT F C (.sub i b) d env = some (env.set i (.own t (xs.set m d))) := by
  rw [asgT, h1]; dsimp only; rw [hk]; dsimp only
  unfold setAt
  rw [h1]; dsimp only; rw [hj]
theorem xIdxO {F : FT} {C : List D} {b : IE} {env e1 : Ev} {k r : D} {i t : Nat} {xs : List D} (h1 : env[i]? = some (.own t xs)) (hk : evE F C b env = some (.pu k, e1)) (h2 : e1[i]? = some (.own t xs)) (v : idxV (.list xs) k = some r) : evE F C (.idx (.var i) b) env = some (.pu r, e1) := by
  rw [evE, xOwn h1]; dsimp only; rw [hk]; dsimp only; rw [rds, h2]; dsimp only; rw [v]; rfl
/-! ### slices -/
theorem cut_lo (xs : List D) {i : Nat} (h : i ≤ xs.length) : cutL xs none (some (i : Int)) = xs.take i := by
  unfold cutL
  rw [HT.sIx_none, HT.sIx_nat, Nat.min_eq_left h, List.drop_zero, Nat.sub_zero]
theorem cut_hi (xs : List D) {i : Nat} (h : i ≤ xs.length) : cutL xs (some (i : Int)) none = xs.drop i := by
  unfold cutL
  rw [HT.sIx_none, HT.sIx_nat, Nat.min_eq_left h]
  exact List.take_of_length_le (by rw [List.length_drop]; exact Nat.le_refl _)
theorem take_drop_map {α : Type} (f : α → D) (l : List α) (i : Nat) : (l.map f).take i ++ (l.map f).drop (i + 1) = (l.eraseIdx i).map f := by
  rw [List.eraseIdx_eq_take_drop_succ, List.map_append, List.map_take, List.map_drop]
/-- xs[:i] + xs[i + 1:] -/
theorem xCutOut {F : FT} {C : List D} {env : Ev} {p q : Nat} {α : Type} (f : α → D) {l : List α} {i : Nat} (h1 : env[p]? = some (.val (.list (l.map f)))) (h2 : env[q]? = some (.val (.int i))) (hi : i < l.length) (hz : l.length ≤ 16777216) :
    evE F C (.bin .add (.slc (.var p) .non (.som (.var q))) (.slc (.var p) (.som (.bin .add (.var q) (.cst (.int 1)))) .non)) env = some (.fr ((l.eraseIdx i).map f), env) := by
  have a1 : evE F C (.slc (.var p) .non (.som (.var q))) env = some (.fr ((l.map f).take i), env) := by
    refine slcE (xVar h1) oNon (j := some (i : Int)) (by rw [evO, xVar h2]) ?_
    show some (Opd.fr (cutL (l.map f) none (some (i : Int)))) = _
    rw [cut_lo _ (by rw [List.length_map]; omega)]
  have b0 : evE F C (.bin .add (.var q) (.cst (.int 1))) env = some (.pu (.int ((i + 1 : Nat) : Int)), env) := xBin (xVar h2) xCst rfl
  have a2 : evE F C (.slc (.var p) (.som (.bin .add (.var q) (.cst (.int 1)))) .non) env = some (.fr ((l.map f).drop (i + 1)), env) := by
    refine slcE (xVar h1) (i := some ((i + 1 : Nat) : Int)) (by rw [evO, b0]) oNon ?_
    show some (Opd.fr (cutL (l.map f) (some ((i + 1 : Nat) : Int)) none)) = _
    rw [cut_hi _ (by rw [List.length_map]; omega)]
  have lk : lenOk (((l.map f).take i).length + ((l.map f).drop (i + 1)).length) = true := lenOk_of (by rw [List.length_take, List.length_drop, List.length_map]; omega)
  refine xBinFF a1 a2 ?_
  show (if lenOk (((l.map f).take i).length + ((l.map f).drop (i + 1)).length) then some (Opd.fr ((l.map f).take i ++ (l.map f).drop (i + 1))) else none) = _
  rw [if_pos lk, take_drop_map]
end Rf

set_option Elab.async false
set_option linter.all false
set_option maxRecDepth 100000
set_option maxHeartbeats 4000000
/-! Rf: a tree of a net, leg by leg: marks of pieces. -/
namespace Rf
open PySem
def gm (ms : List Int) (x : Int) : Int := (ms[x.toNat]?).getD 0
theorem gm_map {n : Nat} {ms : List Int} (g : Int → Int) {x : Int} (hl : ms.length = n) (hx : x ∈ iot n) : gm (ms.map g) x = g (gm ms x) := by
  obtain ⟨h0, h1⟩ := mem_iot.mp hx
  have h : x.toNat < ms.length := by omega
  simp [gm, h]
theorem gm_at {n : Nat} {ms : List Int} {x : Int} (hl : ms.length = n) (hx : x ∈ iot n) : L2.atI (ms.map PyData.int) x = some (.int (gm ms x)) := by
  obtain ⟨h0, h1⟩ := mem_iot.mp hx
  have h : x.toNat < ms.length := by omega
  obtain ⟨y, hy, ha⟩ := at_map PyData.int h0 (by omega : x < ms.length)
  rw [ha]
  simp [gm, hy]
/-- marks tell what the legs found join -/
structure MInv (es : List (Int × Int)) (n : Nat) (ms fo : List Int) : Prop where
  ln : ms.length = n
  eq : ∀ x ∈ iot n, ∀ y ∈ iot n, (gm ms x = gm ms y ↔ Rch es (· ∈ fo) x y)
theorem minv_add {es : List (Int × Int)} {n : Nat} (hrg : ∀ e ∈ es, e.1 ∈ iot n ∧ e.2 ∈ iot n) {ms fo : List Int} {a : Int} {e : Int × Int} (h : MInv es n ms fo) (h0 : 0 ≤ a) (he : es[a.toNat]? = some e) (hne : gm ms e.1 ≠ gm ms e.2) :
    MInv es n (ms.map fun m => if m = gm ms e.2 then gm ms e.1 else m) (fo ++ [a]) := by
  obtain ⟨r1, r2⟩ := hrg e (List.mem_of_getElem? he)
  have mono : ∀ {x y}, Rch es (· ∈ fo) x y → Rch es (· ∈ fo ++ [a]) x y := fun q => q.mono fun b hb => List.mem_append_left _ hb
  have ja : Rch es (· ∈ fo ++ [a]) e.1 e.2 := .step .refl (List.mem_append_right _ (by simp)) ⟨e, h0, he, .inl ⟨rfl, rfl⟩⟩
  refine ⟨by rw [List.length_map]; exact h.ln, fun x hx y hy => ?_⟩
  rw [gm_map _ h.ln hx, gm_map _ h.ln hy]
  constructor
  · intro q
    by_cases q1 : gm ms x = gm ms e.2
    · by_cases q2 : gm ms y = gm ms e.2
      · exact mono ((h.eq x hx y hy).mp (q1.trans q2.symm))
      · rw [if_pos q1, if_neg q2] at q
        exact ((mono ((h.eq x hx _ r2).mp q1)).trans ja.symm).trans (mono ((h.eq _ r1 y hy).mp q))
    · by_cases q2 : gm ms y = gm ms e.2
      · rw [if_neg q1, if_pos q2] at q
        exact ((mono ((h.eq x hx _ r1).mp q)).trans ja).trans (mono ((h.eq _ r2 y hy).mp q2.symm))
      · rw [if_neg q1, if_neg q2] at q
        exact mono ((h.eq x hx y hy).mp q)
  · intro q
    have key : ∀ z, Rch es (· ∈ fo ++ [a]) x z → z ∈ iot n ∧ (if gm ms x = gm ms e.2 then gm ms e.1 else gm ms x) = (if gm ms z = gm ms e.2 then gm ms e.1 else gm ms z) := fun z r => by
      induction r with
      | refl => exact ⟨hx, rfl⟩
      | step _ hp hj ih =>
        rename_i p w b _
        obtain ⟨ip, ie⟩ := ih
        obtain ⟨u, hb0, hu, hd⟩ := id hj
        obtain ⟨u1, u2⟩ := hrg u (List.mem_of_getElem? hu)
        have iw : w ∈ iot n := by rcases hd with ⟨_, rfl⟩ | ⟨_, rfl⟩ <;> assumption
        refine ⟨iw, ie.trans ?_⟩
        rcases List.mem_append.mp hp with hp | hp
        · have : gm ms p = gm ms w := (h.eq p ip w iw).mpr (.step .refl hp hj)
          rw [this]
        · simp at hp; subst hp
          rw [he] at hu; cases hu
          rcases hd with ⟨rfl, rfl⟩ | ⟨rfl, rfl⟩
          · rw [if_neg hne, if_pos rfl]
          · rw [if_neg hne, if_pos rfl]
    exact (key y q).2
theorem minv_start {es : List (Int × Int)} {n : Nat} : MInv es n (iot n) [] := by
  have g : ∀ x ∈ iot n, gm (iot n) x = x := fun x hx => by
    obtain ⟨h0, h1⟩ := mem_iot.mp hx
    have hl : x.toNat < n := by omega
    simp only [gm, iot, List.getElem?_map, List.getElem?_range hl, Option.map_some, Option.getD_some]
    omega
  refine ⟨iot_len n, fun x hx y hy => ?_⟩
  rw [g x hx, g y hy]
  constructor
  · rintro rfl; exact .refl
  · intro q
    have : ∀ z, Rch es (· ∈ ([] : List Int)) x z → x = z := fun z r => by
      induction r with
      | refl => rfl
      | step _ hp _ _ => cases hp
    exact this y q
end Rf

set_option Elab.async false
set_option linter.all false
set_option maxRecDepth 100000
set_option maxHeartbeats 4000000
/-! Rf: ties between maps, in plain Lean. -/
namespace Rf
open PySem
open Classical
abbrev Tie := Int × Int × Tn
def tieD (t : Tie) : D := .tuple [.int t.1, .int t.2.1, tnD t.2.2]
def esT (ts : List Tie) : List (Int × Int) := ts.map fun t => (t.1, t.2.1)
structure okTs (n m : Nat) (ts : List Tie) : Prop where
  n1 : 1 ≤ n
  n3 : n ≤ 3
  m1 : 1 ≤ m
  m8 : m ≤ 8
  ln : ts.length ≤ 24
  tie : ∀ t ∈ ts, 0 ≤ t.1 ∧ t.1 < m ∧ 0 ≤ t.2.1 ∧ t.2.1 < m ∧ t.1 ≠ t.2.1 ∧ t.2.2 ∈ TT n
def RR (ts : List Tie) (x y : Int) : Prop := Rch (esT ts) (· ∈ iot ts.length) x y
noncomputable def compT (m : Nat) (ts : List Tie) (s : Int) : List Int := (iot m).filter fun t => decide (RR ts s t)
def lstT (m : Nat) (ts : List Tie) (s : Int) : Prop := ∀ t ∈ iot m, RR ts s t → s ≤ t
noncomputable def pcsT (m : Nat) (ts : List Tie) : List (List Int) := ((iot m).filter fun s => decide (lstT m ts s)).map (compT m ts)
noncomputable def rootT (m : Nat) (ts : List Tie) (s : Int) : Int := ((compT m ts s).head?).getD 0
section
variable {n m : Nat} {ts : List Tie} {s t x y : Int}
theorem RR.refl : RR ts x x := Rch.refl
theorem RR.symm (h : RR ts x y) : RR ts y x := Rch.symm h
theorem RR.trans {z : Int} (h : RR ts x y) (g : RR ts y z) : RR ts x z := Rch.trans h g
theorem mem_compT : t ∈ compT m ts s ↔ t ∈ iot m ∧ RR ts s t := by simp [compT]
theorem comp_rising : (compT m ts s).Pairwise (· < ·) := List.Pairwise.filter _ (iot_rising m)
theorem comp_eq (h : RR ts s t) : compT m ts s = compT m ts t := by
  unfold compT
  refine List.filter_congr fun u _ => ?_
  exact decide_eq_decide.mpr ⟨fun g => h.symm.trans g, fun g => h.trans g⟩
theorem comp_cons (h : s ∈ iot m) : ∃ r l, compT m ts s = r :: l ∧ rootT m ts s = r := by
  have : s ∈ compT m ts s := mem_compT.mpr ⟨h, .refl⟩
  cases e : compT m ts s with
  | nil => rw [e] at this; cases this
  | cons r l => exact ⟨r, l, rfl, by simp [rootT, e]⟩
theorem root_ok (h : s ∈ iot m) : rootT m ts s ∈ iot m ∧ RR ts s (rootT m ts s) ∧ (∀ u ∈ iot m, RR ts s u → rootT m ts s ≤ u) := by
  obtain ⟨r, l, e, hr⟩ := comp_cons (ts := ts) h
  rw [hr]
  have hm : r ∈ compT m ts s := by rw [e]; simp
  obtain ⟨h1, h2⟩ := mem_compT.mp hm
  refine ⟨h1, h2, fun u hu hs => ?_⟩
  have hu' : u ∈ compT m ts s := mem_compT.mpr ⟨hu, hs⟩
  have rs := comp_rising (m := m) (ts := ts) (s := s)
  rw [e] at hu' rs
  rcases List.mem_cons.mp hu' with rfl | q
  · omega
  · have := (List.pairwise_cons.mp rs).1 u q; omega
theorem root_eq (h : RR ts s t) : rootT m ts s = rootT m ts t := by unfold rootT; rw [comp_eq h]
theorem root_lst (h : s ∈ iot m) : lstT m ts (rootT m ts s) := fun u hu hr => (root_ok h).2.2 u hu ((root_ok h).2.1.trans hr)
theorem lst_root (h : s ∈ iot m) : lstT m ts s ↔ rootT m ts s = s := by
  obtain ⟨h1, h2, h3⟩ := root_ok (ts := ts) h
  constructor
  · intro hl
    have := hl _ h1 h2
    have := h3 s h .refl
    omega
  · intro e; rw [← e]; exact root_lst h
/-! ### choices of turns -/
def Agr (ts : List Tie) (f : Int → Tn) : Prop := ∀ t ∈ ts, f t.2.1 = mulT (f t.1) t.2.2
def Vls (n m : Nat) (f : Int → Tn) : Prop := ∀ x ∈ iot m, f x ∈ TT n
structure Led (n m : Nat) (ts : List Tie) (f : Int → Tn) : Prop where
  vl : Vls n m f
  ag : Agr ts f
  rt : ∀ x ∈ iot m, lstT m ts x → f x = idT n
def ConsT (n m : Nat) (ts : List Tie) : Prop := ∃ f, Vls n m f ∧ Agr ts f
theorem jn_tie (h : okTs n m ts) {a : Int} (hj : Jn (esT ts) a x y) : ∃ t ∈ ts, ts[a.toNat]? = some t ∧ ((t.1 = x ∧ t.2.1 = y) ∨ (t.2.1 = x ∧ t.1 = y)) ∧ x ∈ iot m ∧ y ∈ iot m := by
  obtain ⟨e, h0, h1, h2⟩ := hj
  simp only [esT, List.getElem?_map] at h1
  obtain ⟨t, ht, e1⟩ := Option.map_eq_some_iff.mp h1
  have hm := List.mem_of_getElem? ht
  obtain ⟨q1, q2, q3, q4, q5, q6⟩ := h.tie t hm
  subst e1
  refine ⟨t, hm, ht, ?_, ?_⟩
  · simpa using h2
  · simp only [mem_iot]
    rcases h2 with ⟨rfl, rfl⟩ | ⟨rfl, rfl⟩ <;> omega
theorem tie_jn {t : Tie} {a : Nat} (h : ts[a]? = some t) : Jn (esT ts) a t.1 t.2.1 := ⟨(t.1, t.2.1), by omega, by simp [esT, h], .inl ⟨rfl, rfl⟩⟩
theorem tie_RR {t : Tie} (h : t ∈ ts) : RR ts t.1 t.2.1 := by
  obtain ⟨a, ha⟩ := List.mem_iff_getElem?.mp h
  have hl := (List.getElem?_eq_some_iff.mp ha).1
  exact .step (at_ := (a : Int)) .refl (mem_iot.mpr (by omega)) (tie_jn ha)
/-- two choices that agree and are alike at a map are alike at all that it reaches -/
theorem agr_uniq (h : okTs n m ts) {f g : Int → Tn} (hf : Agr ts f) (hg : Agr ts g) (vf : Vls n m f) (vg : Vls n m g) (hs : f s = g s) (hr : RR ts s t) : f t = g t := by
  induction hr with
  | refl => exact hs
  | step _ hp hj ih =>
    obtain ⟨u, hu, _, q, qx, qy⟩ := jn_tie h hj
    obtain ⟨_, _, _, _, _, ht⟩ := h.tie u hu
    have a1 := hf u hu
    have a2 := hg u hu
    rcases q with ⟨rfl, rfl⟩ | ⟨rfl, rfl⟩
    · rw [a1, a2, ih]
    · rw [a1, a2] at ih
      have c1 := mul_cancel h.n1 h.n3 (vf _ qy) ht
      have c2 := mul_cancel h.n1 h.n3 (vg _ qy) ht
      rw [← c1, ← c2, ih]
theorem led_uniq (h : okTs n m ts) {f g : Int → Tn} (hf : Led n m ts f) (hg : Led n m ts g) (hx : x ∈ iot m) : f x = g x := by
  obtain ⟨r1, r2, r3⟩ := root_ok (ts := ts) hx
  have l := root_lst (ts := ts) hx
  exact agr_uniq h hf.ag hg.ag hf.vl hg.vl (by rw [hf.rt _ r1 l, hg.rt _ r1 l]) r2.symm
theorem led_exists (h : okTs n m ts) (hc : ConsT n m ts) : ∃ f, Led n m ts f := by
  obtain ⟨a, va, ha⟩ := hc
  refine ⟨fun x => mulT (invT (a (rootT m ts x))) (a x), fun x hx => ?_, fun t ht => ?_, fun x hx hl => ?_⟩
  · have r := (root_ok (ts := ts) hx).1
    exact TT_mul h.n1 h.n3 (TT_iv h.n1 h.n3 (va _ r)).1 (va x hx)
  · obtain ⟨q1, q2, q3, q4, q5, q6⟩ := h.tie t ht
    have hx : t.1 ∈ iot m := mem_iot.mpr ⟨q1, q2⟩
    have r := (root_ok (ts := ts) hx).1
    show mulT (invT (a (rootT m ts t.2.1))) (a t.2.1) = mulT (mulT (invT (a (rootT m ts t.1))) (a t.1)) t.2.2
    rw [← root_eq (m := m) (tie_RR ht), ha t ht, mul_assoc h.n1 h.n3 (TT_iv h.n1 h.n3 (va _ r)).1 (va _ hx)]
  · show mulT (invT (a (rootT m ts x))) (a x) = idT n
    rw [(lst_root hx).mp hl]
    exact (TT_iv h.n1 h.n3 (va x hx)).2.2.1
noncomputable def ledO (n m : Nat) (ts : List Tie) : Option (List Tn) := if h : ∃ f, Led n m ts f then some ((iot m).map (Classical.choose h)) else none
theorem ledO_some (h : okTs n m ts) {f : Int → Tn} (hf : Led n m ts f) : ledO n m ts = some ((iot m).map f) := by
  have e : ∃ f, Led n m ts f := ⟨f, hf⟩
  unfold ledO
  rw [dif_pos e]
  congr 1
  exact List.map_congr_left fun x hx => led_uniq h (Classical.choose_spec e) hf hx
theorem ledO_none (h : okTs n m ts) (hc : ¬ ConsT n m ts) : ledO n m ts = none := by
  unfold ledO
  rw [dif_neg fun ⟨f, hf⟩ => hc ⟨f, hf.vl, hf.ag⟩]
def gTn (fs : List Tn) (x : Int) : Tn := (fs[x.toNat]?).getD []
def agB (ts : List Tie) (fs : List Tn) : Bool := ts.all fun t => gTn fs t.2.1 == mulT (gTn fs t.1) t.2.2
theorem gT_map {f : Int → Tn} (hx : x ∈ iot m) : gTn ((iot m).map f) x = f x := by
  obtain ⟨h0, h1⟩ := mem_iot.mp hx
  have hl : x.toNat < m := by omega
  have e : ((x.toNat : Nat) : Int) = x := by omega
  simp only [gTn, iot, List.map_map, List.getElem?_map, List.getElem?_range hl, Option.map_some, Option.getD_some, Function.comp, e]
theorem agB_map (h : okTs n m ts) {f : Int → Tn} (hf : Agr ts f) : agB ts ((iot m).map f) = true := by
  refine List.all_eq_true.mpr fun t ht => ?_
  obtain ⟨q1, q2, q3, q4, q5, q6⟩ := h.tie t ht
  rw [gT_map (mem_iot.mpr ⟨q1, q2⟩), gT_map (mem_iot.mpr ⟨q3, q4⟩), hf t ht]
  simp
theorem gT_mem {fs : List Tn} (hl : fs.length = m) (hx : x ∈ iot m) : gTn fs x ∈ fs := by
  obtain ⟨h0, h1⟩ := mem_iot.mp hx
  have hl : x.toNat < fs.length := by omega
  simp only [gTn, List.getElem?_eq_getElem hl, Option.getD_some]
  exact List.getElem_mem hl
theorem agB_cons {fs : List Tn} (hl : fs.length = m) (hv : ∀ t ∈ fs, t ∈ TT n) (h : agB ts fs = true) : Vls n m (gTn fs) ∧ Agr ts (gTn fs) :=
  ⟨fun x hx => hv _ (gT_mem hl hx), fun t ht => by
    have := List.all_eq_true.mp h t ht
    simpa using this⟩
/-- what is told by a list that is the led one wherever there is a led one -/
theorem told_ok (h : okTs n m ts) {fs : List Tn} (hl : fs.length = m) (hv : ∀ t ∈ fs, t ∈ TT n) (hf : ∀ f, Led n m ts f → fs = (iot m).map f) : (if agB ts fs = true then some fs else none) = ledO n m ts := by
  by_cases hc : ConsT n m ts
  · obtain ⟨f, lf⟩ := led_exists h hc
    have e := hf f lf
    rw [ledO_some h lf, if_pos (by rw [e]; exact agB_map h lf.ag), e]
  · rw [ledO_none h hc, if_neg]
    intro q
    exact hc ⟨gTn fs, agB_cons hl hv q⟩
theorem ledO_iff (h : okTs n m ts) : (ledO n m ts).isSome = true ↔ ConsT n m ts := by
  constructor
  · intro q
    by_cases hc : ConsT n m ts
    · exact hc
    · rw [ledO_none h hc] at q; cases q
  · intro hc
    obtain ⟨f, lf⟩ := led_exists h hc
    rw [ledO_some h lf]; rfl
theorem ledO_mem (h : okTs n m ts) {fs : List Tn} (e : ledO n m ts = some fs) : fs.length = m ∧ (∀ t ∈ fs, t ∈ TT n) ∧ agB ts fs = true := by
  by_cases hc : ConsT n m ts
  · obtain ⟨f, lf⟩ := led_exists h hc
    rw [ledO_some h lf] at e
    cases e
    refine ⟨by simp [iot_len], fun t ht => ?_, agB_map h lf.ag⟩
    obtain ⟨x, hx, rfl⟩ := List.mem_map.mp ht
    exact lf.vl x hx
  · rw [ledO_none h hc] at e; cases e
/-! ### along ways -/
def stpT (ts : List Tie) (p : Int × Int) : Tn := if p.2 = 1 then ((ts[p.1.toNat]?).getD (0, 0, [])).2.2 else invT ((ts[p.1.toNat]?).getD (0, 0, [])).2.2
def prW (n : Nat) (ts : List Tie) (w : List (Int × Int)) : Tn := w.foldl (fun f p => mulT f (stpT ts p)) (idT n)
theorem prW_ok (h : okTs n m ts) {f : Int → Tn} (hf : Agr ts f) (vf : Vls n m f) (hs : f s = idT n) {w : List (Int × Int)} (p : Pth (esT ts) s t w) (hsm : s ∈ iot m) : prW n ts w = f t ∧ t ∈ iot m := by
  induction p with
  | nil => exact ⟨hs.symm, hsm⟩
  | snoc pp h0 he hd ih =>
    rename_i x w a sg e y
    have hj : Jn (esT ts) a x y := ⟨e, h0, he, hd.elim (fun z => .inl z.2) fun z => .inr z.2⟩
    obtain ⟨u, hu, hg, q, qx, qy⟩ := jn_tie h hj
    have q5 := (h.tie u hu).2.2.2.2.1
    have ht := (h.tie u hu).2.2.2.2.2
    have ee : e = (u.1, u.2.1) := by
      simp only [esT, List.getElem?_map, hg, Option.map_some] at he
      exact (Option.some.inj he).symm
    have st : prW n ts (w ++ [(a, sg)]) = mulT (prW n ts w) (stpT ts (a, sg)) := by unfold prW; rw [List.foldl_append]; rfl
    refine ⟨?_, qy⟩
    rw [st, ih.1]
    rcases hd with ⟨rfl, d1, d2⟩ | ⟨rfl, d1, d2⟩
    · rw [ee] at d1 d2
      simp only at d1 d2
      have := hf u hu
      rw [d1, d2] at this
      simp only [stpT, hg, if_true, Option.getD_some]
      exact this.symm
    · rw [ee] at d1 d2
      simp only at d1 d2
      have := hf u hu
      rw [d1, d2] at this
      have ne : ¬ ((-1 : Int) = 1) := by decide
      simp only [stpT, hg, if_neg ne, Option.getD_some]
      rw [this]
      exact mul_cancel h.n1 h.n3 (vf _ qy) ht
theorem prW_mem (h : okTs n m ts) {w : List (Int × Int)} (hw : ∀ p ∈ w, 0 ≤ p.1 ∧ p.1 < ts.length) : prW n ts w ∈ TT n := by
  have key : ∀ (w : List (Int × Int)) (f : Tn), f ∈ TT n → (∀ p ∈ w, 0 ≤ p.1 ∧ p.1 < ts.length) → w.foldl (fun f p => mulT f (stpT ts p)) f ∈ TT n := by
    intro w
    induction w with
    | nil => intro f hf _; exact hf
    | cons p w ih =>
      intro f hf hw
      obtain ⟨p0, p1⟩ := hw p List.mem_cons_self
      have hl : p.1.toNat < ts.length := by omega
      have ht := (h.tie _ (List.getElem_mem hl)).2.2.2.2.2
      have hs : stpT ts p ∈ TT n := by
        unfold stpT
        rw [List.getElem?_eq_getElem hl, Option.getD_some]
        split
        · exact ht
        · exact (TT_iv h.n1 h.n3 ht).1
      exact ih _ (TT_mul h.n1 h.n3 hf hs) fun q hq => hw q (List.mem_cons_of_mem _ hq)
  exact key w _ (TT_id h.n1 h.n3) hw
/-! ### how many choices agree -/
def lisT (T : List Tn) : Nat → List (List Tn)
  | 0 => [[]]
  | k + 1 => (lisT T k).flatMap fun row => T.map fun t => row ++ [t]
theorem lis_len {T : List Tn} : ∀ {k : Nat} {row : List Tn}, row ∈ lisT T k → row.length = k ∧ ∀ t ∈ row, t ∈ T
  | 0, row, h => by simp [lisT] at h; subst h; simp
  | k + 1, row, h => by
    simp only [lisT, List.mem_flatMap, List.mem_map] at h
    obtain ⟨r, hr, t, ht, rfl⟩ := h
    obtain ⟨h1, h2⟩ := lis_len hr
    refine ⟨by simp [h1], fun u hu => ?_⟩
    rcases List.mem_append.mp hu with q | q
    · exact h2 u q
    · simp at q; subst q; exact ht
theorem lis_count {T : List Tn} : ∀ k, (lisT T k).length = T.length ^ k
  | 0 => by simp [lisT]
  | k + 1 => by
    have := lis_count (T := T) k
    simp only [lisT, List.length_flatMap, List.length_map]
    rw [List.map_const', List.sum_replicate_nat, this, Nat.pow_succ]
theorem filter_flat {α β : Type} (g : α → List β) (p : β → Bool) : ∀ l : List α, ((l.flatMap g).filter p).length = (l.map fun a => ((g a).filter p).length).sum
  | [] => rfl
  | a :: l => by simp [List.filter_append, filter_flat g p l]
theorem sum_if {α : Type} (p : α → Bool) (c : Nat) (g : α → Nat) : ∀ (l : List α), (∀ a ∈ l, g a = if p a = true then c else 0) → (l.map g).sum = (l.filter p).length * c
  | [], _ => by simp
  | a :: l, h => by
    have ih := sum_if p c g l fun x hx => h x (List.mem_cons_of_mem _ hx)
    rw [List.map_cons, List.sum_cons, ih, h a List.mem_cons_self, List.filter_cons]
    cases p a
    · simp
    · simp [Nat.add_mul, Nat.add_comm]
/-- the first k of a row are led on by f from their roots -/
noncomputable def gdR (m : Nat) (ts : List Tie) (f : Int → Tn) (k : Nat) (row : List Tn) : Bool := (iot k).all fun x => gTn row x == mulT (gTn row (rootT m ts x)) (f x)
theorem gT_app {row : List Tn} {t : Tn} (hx : x ∈ iot row.length) : gTn (row ++ [t]) x = gTn row x := by
  obtain ⟨h0, h1⟩ := mem_iot.mp hx
  have hl : x.toNat < row.length := by omega
  simp [gTn, List.getElem?_append_left hl]
theorem gT_last {row : List Tn} {t : Tn} : gTn (row ++ [t]) (row.length : Int) = t := by simp [gTn]
theorem iot_succ (k : Nat) : iot (k + 1) = iot k ++ [(k : Int)] := by simp [iot, List.range_succ]
theorem one_of {u : Tn} : ∀ {l : List Tn}, l.Nodup → u ∈ l → (l.filter (· == u)).length = 1
  | [], _, h => by cases h
  | a :: l, nd, h => by
    obtain ⟨n1, n2⟩ := List.nodup_cons.mp nd
    rw [List.filter_cons]
    by_cases q : a = u
    · subst q
      have : l.filter (· == a) = [] := by
        rw [List.filter_eq_nil_iff]
        intro x hx z
        rw [beq_iff_eq] at z
        subst z
        exact n1 hx
      simp [this]
    · have hm : u ∈ l := by
        rcases List.mem_cons.mp h with z | z
        · exact absurd z.symm q
        · exact z
      simp [q, one_of n2 hm]
theorem count_k (h : okTs n m ts) {f : Int → Tn} (hf : Led n m ts f) : ∀ k, k ≤ m → ((lisT (TT n) k).filter (gdR m ts f k)).length = (TT n).length ^ ((iot k).filter fun s => decide (lstT m ts s)).length
  | 0, _ => by simp [lisT, gdR, iot]
  | k + 1, hk => by
    have ih := count_k h hf k (by omega)
    have kin : (k : Int) ∈ iot m := mem_iot.mpr (by omega)
    obtain ⟨r1, r2, r3⟩ := root_ok (ts := ts) kin
    have rle : rootT m ts k ≤ k := r3 _ kin .refl
    have r0 := (mem_iot.mp r1).1
    simp only [lisT]
    rw [filter_flat]
    have rin : ∀ x ∈ iot k, rootT m ts x ∈ iot k := fun x hx => by
      have hx' := mem_iot.mp hx
      have xin : x ∈ iot m := mem_iot.mpr (by omega)
      obtain ⟨s1, _, s3⟩ := root_ok (ts := ts) xin
      have := s3 x xin .refl
      have := (mem_iot.mp s1).1
      exact mem_iot.mpr (by omega)
    have ext : ∀ row ∈ lisT (TT n) k, ∀ t, gdR m ts f (k + 1) (row ++ [t]) = (gdR m ts f k row && (t == mulT (gTn (row ++ [t]) (rootT m ts k)) (f k))) := fun row hr t => by
      obtain ⟨ln, _⟩ := lis_len hr
      unfold gdR
      rw [iot_succ, List.all_append]
      congr 1
      · rw [Bool.eq_iff_iff, List.all_eq_true, List.all_eq_true]
        refine ⟨fun q x hx => ?_, fun q x hx => ?_⟩
        · have := q x hx
          rwa [gT_app (by rw [ln]; exact hx), gT_app (by rw [ln]; exact rin x hx)] at this
        · have := q x hx
          rwa [gT_app (by rw [ln]; exact hx), gT_app (by rw [ln]; exact rin x hx)]
      · have e : gTn (row ++ [t]) (k : Int) = t := by rw [← ln]; exact gT_last
        simp [e]
    rw [iot_succ, List.filter_append, List.length_append]
    by_cases hl : lstT m ts k
    · have hr := (lst_root kin).mp hl
      have one : ∀ row ∈ lisT (TT n) k, (((TT n).map fun t => row ++ [t]).filter (gdR m ts f (k + 1))).length = if gdR m ts f k row = true then (TT n).length else 0 := fun row hrow => by
        obtain ⟨ln, _⟩ := lis_len hrow
        rw [List.filter_map, List.length_map]
        have : ∀ t ∈ TT n, (gdR m ts f (k + 1) ∘ fun t => row ++ [t]) t = gdR m ts f k row := fun t ht => by
          have e : gTn (row ++ [t]) (k : Int) = t := by rw [← ln]; exact gT_last
          simp only [Function.comp, ext row hrow t, hr, e, hf.rt _ kin hl, (TT_iv h.n1 h.n3 ht).2.2.2.1, beq_self_eq_true, Bool.and_true]
        rw [List.filter_congr this]
        cases gdR m ts f k row <;> simp
      rw [sum_if _ _ _ _ one, ih]
      simp [hl, Nat.pow_succ]
    · have hr : rootT m ts k ≠ k := fun z => hl ((lst_root kin).mpr z)
      have rk : rootT m ts k ∈ iot k := mem_iot.mpr (by omega)
      have one : ∀ row ∈ lisT (TT n) k, (((TT n).map fun t => row ++ [t]).filter (gdR m ts f (k + 1))).length = if gdR m ts f k row = true then 1 else 0 := fun row hrow => by
        obtain ⟨ln, hv⟩ := lis_len hrow
        rw [List.filter_map, List.length_map]
        have hu : mulT (gTn row (rootT m ts k)) (f k) ∈ TT n := TT_mul h.n1 h.n3 (hv _ (gT_mem ln rk)) (hf.vl _ kin)
        have : ∀ t ∈ TT n, (gdR m ts f (k + 1) ∘ fun t => row ++ [t]) t = (gdR m ts f k row && (t == mulT (gTn row (rootT m ts k)) (f k))) := fun t ht => by
          simp only [Function.comp, ext row hrow t, gT_app (t := t) (by rw [ln]; exact rk)]
        rw [List.filter_congr this]
        cases gdR m ts f k row
        · simp
        · simp only [Bool.true_and, if_true]
          exact one_of (TT_nd h.n1 h.n3) hu
      rw [sum_if _ _ _ _ one, ih]
      simp [hl]
theorem good_iff (h : okTs n m ts) {f : Int → Tn} (hf : Led n m ts f) {row : List Tn} (hr : row ∈ lisT (TT n) m) : agB ts row = gdR m ts f m row := by
  obtain ⟨ln, hv⟩ := lis_len hr
  rw [Bool.eq_iff_iff]
  constructor
  · intro q
    obtain ⟨v, a⟩ := agB_cons ln hv q
    refine List.all_eq_true.mpr fun x hx => ?_
    obtain ⟨r1, r2, r3⟩ := root_ok (ts := ts) hx
    rw [beq_iff_eq]
    have vr := v _ r1
    have vg : Vls n m (fun y => mulT (gTn row (rootT m ts x)) (f y)) := fun y hy => TT_mul h.n1 h.n3 vr (hf.vl y hy)
    have ag : Agr ts (fun y => mulT (gTn row (rootT m ts x)) (f y)) := fun t ht => by
      obtain ⟨q1, q2, q3, q4, q5, q6⟩ := h.tie t ht
      show mulT (gTn row (rootT m ts x)) (f t.2.1) = mulT (mulT (gTn row (rootT m ts x)) (f t.1)) t.2.2
      rw [hf.ag t ht, mul_assoc h.n1 h.n3 vr (hf.vl _ (mem_iot.mpr ⟨q1, q2⟩))]
    exact agr_uniq h a ag v vg (s := rootT m ts x) (by
      show gTn row (rootT m ts x) = mulT (gTn row (rootT m ts x)) (f (rootT m ts x))
      rw [hf.rt _ r1 (root_lst hx), (TT_iv h.n1 h.n3 vr).2.2.2.1]) r2.symm
  · intro q
    refine List.all_eq_true.mpr fun t ht => ?_
    obtain ⟨q1, q2, q3, q4, q5, q6⟩ := h.tie t ht
    have x1 : t.1 ∈ iot m := mem_iot.mpr ⟨q1, q2⟩
    have x2 : t.2.1 ∈ iot m := mem_iot.mpr ⟨q3, q4⟩
    have g1 := List.all_eq_true.mp q _ x1
    have g2 := List.all_eq_true.mp q _ x2
    rw [beq_iff_eq] at g1 g2 ⊢
    have vr := hv _ (gT_mem ln (root_ok (ts := ts) x1).1)
    rw [g2, ← root_eq (m := m) (tie_RR ht), hf.ag t ht, ← mul_assoc h.n1 h.n3 vr (hf.vl _ x1), ← g1]
theorem count_ok (h : okTs n m ts) : ((lisT (TT n) m).filter (agB ts)).length = if (ledO n m ts).isSome = true then (TT n).length ^ (pcsT m ts).length else 0 := by
  by_cases hc : ConsT n m ts
  · obtain ⟨f, lf⟩ := led_exists h hc
    rw [if_pos ((ledO_iff h).mpr hc), List.filter_congr fun row hr => good_iff h lf hr, count_k h lf m (Nat.le_refl _)]
    simp [pcsT]
  · rw [if_neg (fun z => hc ((ledO_iff h).mp z))]
    rw [List.length_eq_zero_iff, List.filter_eq_nil_iff]
    intro row hr q
    obtain ⟨ln, hv⟩ := lis_len hr
    exact hc ⟨gTn row, agB_cons ln hv q⟩
end
end Rf

set_option Elab.async false
set_option linter.all false
set_option maxRecDepth 100000
set_option maxHeartbeats 4000000
/-! Rf: passes over ties until nothing is left to do. -/
namespace Rf
open PySem
open Classical
section
variable {σ : Type} {ts : List Tie} (stp : σ → Tie → σ) (good : σ → Int → Prop) (Inv : σ → Prop)
def pass (s : σ) : σ := ts.foldl stp s
/-- what is good stays so; from a good end the other end gets good -/
structure Sat (ts : List Tie) : Prop where
  inv : ∀ s t, t ∈ ts → Inv s → Inv (stp s t)
  mono : ∀ s t x, t ∈ ts → Inv s → good s x → good (stp s t) x
  hit1 : ∀ s t, t ∈ ts → Inv s → good s t.1 → good (stp s t) t.2.1
  hit2 : ∀ s t, t ∈ ts → Inv s → good s t.2.1 → good (stp s t) t.1
variable {stp good Inv}
theorem Sat.fold (S : Sat stp good Inv ts) : ∀ (l : List Tie) (s : σ), (∀ t ∈ l, t ∈ ts) → Inv s → Inv (l.foldl stp s) ∧ ∀ x, good s x → good (l.foldl stp s) x
  | [], s, _, h => ⟨h, fun _ q => q⟩
  | t :: l, s, hl, h => by
    have ht := hl t List.mem_cons_self
    obtain ⟨h1, h2⟩ := S.fold l (stp s t) (fun u hu => hl u (List.mem_cons_of_mem _ hu)) (S.inv s t ht h)
    exact ⟨h1, fun x q => h2 x (S.mono s t x ht h q)⟩
theorem Sat.pass_hit (S : Sat stp good Inv ts) {s : σ} (h : Inv s) {t : Tie} (ht : t ∈ ts) : (good s t.1 → good (pass (ts := ts) stp s) t.2.1) ∧ (good s t.2.1 → good (pass (ts := ts) stp s) t.1) := by
  obtain ⟨l, r, e⟩ := List.append_of_mem ht
  have hl : ∀ u ∈ l, u ∈ ts := fun u hu => by rw [e]; simp [hu]
  have hr : ∀ u ∈ r, u ∈ ts := fun u hu => by rw [e]; simp [hu]
  obtain ⟨i1, m1⟩ := S.fold l s hl h
  have i2 := S.inv _ t ht i1
  obtain ⟨_, m2⟩ := S.fold r (stp (l.foldl stp s) t) hr i2
  have pe : pass (ts := ts) stp s = r.foldl stp (stp (l.foldl stp s) t) := by
    unfold pass
    have e' : ts.foldl stp s = (l ++ t :: r).foldl stp s := by rw [← e]
    rw [e', List.foldl_append, List.foldl_cons]
  rw [pe]
  exact ⟨fun q => m2 _ (S.hit1 _ t ht i1 (m1 _ q)), fun q => m2 _ (S.hit2 _ t ht i1 (m1 _ q))⟩
theorem filter_lt {p q : Int → Prop} : ∀ {l : List Int}, (∀ x ∈ l, p x → q x) → (∃ v ∈ l, q v ∧ ¬ p v) → (l.filter fun x => decide (p x)).length < (l.filter fun x => decide (q x)).length
  | [], _, ⟨v, hv, _⟩ => by cases hv
  | a :: l, h, ⟨v, hv, q1, q2⟩ => by
    have le : (l.filter fun x => decide (p x)).length ≤ (l.filter fun x => decide (q x)).length := by
      rw [← List.countP_eq_length_filter, ← List.countP_eq_length_filter]
      exact List.countP_mono_left fun x hx z => by
        rw [decide_eq_true_eq] at z ⊢
        exact h x (List.mem_cons_of_mem _ hx) z
    simp only [List.filter_cons]
    rcases List.mem_cons.mp hv with rfl | hv
    · simp [q1, q2]; omega
    · have ih := filter_lt (l := l) (fun x hx => h x (List.mem_cons_of_mem _ hx)) ⟨v, hv, q1, q2⟩
      by_cases pa : p a
      · have qa := h a List.mem_cons_self pa
        simp [pa, qa]; omega
      · by_cases qa : q a
        · simp [pa, qa]; omega
        · simp [pa, qa]; omega
def bdP (good : σ → Int → Prop) (s : σ) (x : Int) : Prop := ¬ good s x
noncomputable def badN (good : σ → Int → Prop) (l : List Int) (s : σ) : Nat := (l.filter fun x => decide (bdP good s x)).length
/-- passes: each takes a bad one away -/
theorem Sat.runs (S : Sat stp good Inv ts) {l : List Int} (hc : ∀ s, Inv s → (∃ x ∈ l, ¬ good s x) → (∃ x ∈ l, good s x) → ∃ t ∈ ts, (good s t.1 ∧ ¬ good s t.2.1 ∧ t.2.1 ∈ l) ∨ (good s t.2.1 ∧ ¬ good s t.1 ∧ t.1 ∈ l)) {s : σ} (h : Inv s) (hg : ∃ x ∈ l, good s x) :
    badN good l (pass (ts := ts) stp s) + 1 ≤ badN good l s ∨ badN good l (pass (ts := ts) stp s) = 0 := by
  obtain ⟨i1, m1⟩ := S.fold ts s (fun _ z => z) h
  by_cases hb : ∃ x ∈ l, ¬ good s x
  · refine .inl ?_
    obtain ⟨t, ht, q⟩ := hc s h hb hg
    obtain ⟨k1, k2⟩ := S.pass_hit h ht
    refine Nat.succ_le_of_lt (filter_lt (p := bdP good (pass (ts := ts) stp s)) (q := bdP good s) (fun x _ hx z => hx (m1 x z)) ?_)
    rcases q with ⟨q1, q2, q3⟩ | ⟨q1, q2, q3⟩
    · exact ⟨_, q3, q2, fun z => z (k1 q1)⟩
    · exact ⟨_, q3, q2, fun z => z (k2 q1)⟩
  · refine .inr ?_
    unfold badN
    rw [List.length_eq_zero_iff, List.filter_eq_nil_iff]
    intro x hx z
    rw [decide_eq_true_eq] at z
    exact hb ⟨x, hx, fun w => z (m1 x w)⟩
theorem badN_le (l : List Int) (s : σ) : badN good l s ≤ l.length := List.length_filter_le _ _
theorem bad0 {l : List Int} {s : σ} (h : badN good l s = 0) : ∀ x ∈ l, good s x := fun x hx => Classical.byContradiction fun z => by
  unfold badN at h
  rw [List.length_eq_zero_iff, List.filter_eq_nil_iff] at h
  exact h x hx (decide_eq_true z)
end
/-! ### marks: the least of each piece -/
section
variable {n m : Nat} {ts : List Tie}
def stpM (ms : List Int) (t : Tie) : List Int := (ms.set t.1.toNat (min (gm ms t.1) (gm ms t.2.1))).set t.2.1.toNat (min (gm ms t.1) (gm ms t.2.1))
structure InvM (m : Nat) (ts : List Tie) (ms : List Int) : Prop where
  ln : ms.length = m
  rc : ∀ x ∈ iot m, gm ms x ∈ iot m ∧ RR ts x (gm ms x) ∧ gm ms x ≤ x
noncomputable def goodM (m : Nat) (ts : List Tie) (ms : List Int) (x : Int) : Prop := gm ms x = rootT m ts x
theorem gm_set {ms : List Int} {x y v : Int} (hl : ms.length = m) (hx : x ∈ iot m) (hy : y ∈ iot m) : gm (ms.set x.toNat v) y = if y = x then v else gm ms y := by
  obtain ⟨x0, x1⟩ := mem_iot.mp hx
  obtain ⟨y0, y1⟩ := mem_iot.mp hy
  unfold gm
  by_cases e : y = x
  · subst e
    rw [List.getElem?_set_self (by omega), if_pos rfl]; rfl
  · rw [List.getElem?_set_ne (by omega), if_neg e]
theorem gm_stp {ms : List Int} {t : Tie} {y : Int} (hl : ms.length = m) (h1 : t.1 ∈ iot m) (h2 : t.2.1 ∈ iot m) (hy : y ∈ iot m) : gm (stpM ms t) y = if y = t.1 ∨ y = t.2.1 then min (gm ms t.1) (gm ms t.2.1) else gm ms y := by
  unfold stpM
  rw [gm_set (by rw [List.length_set]; exact hl) h2 hy, gm_set hl h1 hy]
  by_cases a : y = t.2.1
  · simp [a]
  · by_cases b : y = t.1 <;> simp [a, b]
theorem root_le {ms : List Int} (I : InvM m ts ms) {x : Int} (hx : x ∈ iot m) : rootT m ts x ≤ gm ms x := by
  obtain ⟨r1, r2, _⟩ := I.rc x hx
  exact (root_ok hx).2.2 _ r1 r2
theorem satM (h : okTs n m ts) : Sat stpM (fun ms x => x ∈ iot m ∧ goodM m ts ms x) (InvM m ts) ts := by
  have ends : ∀ t ∈ ts, t.1 ∈ iot m ∧ t.2.1 ∈ iot m ∧ RR ts t.1 t.2.1 := fun t ht => by
    obtain ⟨q1, q2, q3, q4, _⟩ := h.tie t ht
    exact ⟨mem_iot.mpr ⟨q1, q2⟩, mem_iot.mpr ⟨q3, q4⟩, tie_RR ht⟩
  have low : ∀ ms t, t ∈ ts → InvM m ts ms → (goodM m ts ms t.1 ∨ goodM m ts ms t.2.1) → min (gm ms t.1) (gm ms t.2.1) = rootT m ts t.1 := fun ms t ht I g => by
    obtain ⟨e1, e2, e3⟩ := ends t ht
    have l1 := root_le I e1
    have l2 := root_le I e2
    have re := root_eq (m := m) e3
    rcases g with g | g
    · unfold goodM at g; omega
    · unfold goodM at g; omega
  refine ⟨fun ms t ht I => ?_, fun ms t x ht I g => ?_, fun ms t ht I g => ?_, fun ms t ht I g => ?_⟩
  · obtain ⟨e1, e2, e3⟩ := ends t ht
    refine ⟨by simp [stpM, I.ln], fun x hx => ?_⟩
    rw [gm_stp I.ln e1 e2 hx]
    obtain ⟨a1, a2, a3⟩ := I.rc _ e1
    obtain ⟨b1, b2, b3⟩ := I.rc _ e2
    by_cases c : x = t.1 ∨ x = t.2.1
    · rw [if_pos c]
      rcases Int.le_total (gm ms t.1) (gm ms t.2.1) with le | le
      · rw [Int.min_eq_left le]
        rcases c with rfl | rfl
        · exact ⟨a1, a2, a3⟩
        · exact ⟨a1, e3.symm.trans a2, by omega⟩
      · rw [Int.min_eq_right le]
        rcases c with rfl | rfl
        · exact ⟨b1, e3.trans b2, by omega⟩
        · exact ⟨b1, b2, b3⟩
    · rw [if_neg c]; exact I.rc x hx
  · obtain ⟨e1, e2, e3⟩ := ends t ht
    refine ⟨g.1, ?_⟩
    unfold goodM
    rw [gm_stp I.ln e1 e2 g.1]
    by_cases c : x = t.1 ∨ x = t.2.1
    · rw [if_pos c]
      rcases c with rfl | rfl
      · exact low ms t ht I (.inl g.2)
      · rw [low ms t ht I (.inr g.2)]; exact root_eq e3
    · rw [if_neg c]; exact g.2
  · obtain ⟨e1, e2, e3⟩ := ends t ht
    refine ⟨e2, ?_⟩
    unfold goodM
    rw [gm_stp I.ln e1 e2 e2, if_pos (.inr rfl), low ms t ht I (.inl g.2)]
    exact root_eq e3
  · obtain ⟨e1, e2, e3⟩ := ends t ht
    refine ⟨e1, ?_⟩
    unfold goodM
    rw [gm_stp I.ln e1 e2 e1, if_pos (.inl rfl), low ms t ht I (.inr g.2)]
/-- between a good one and a bad one that reach each other a tie leads from good to bad -/
theorem tie_between (h : okTs n m ts) {P : Int → Prop} {s t : Int} (hr : RR ts s t) (hs : P s) (ht : ¬ P t) : ∃ u ∈ ts, (P u.1 ∧ ¬ P u.2.1 ∧ RR ts s u.2.1) ∨ (P u.2.1 ∧ ¬ P u.1 ∧ RR ts s u.1) := by
  induction hr with
  | refl => exact absurd hs ht
  | step pr hp hj ih =>
    rename_i x y a
    by_cases hx : P x
    · obtain ⟨u, hu, _, q, _, _⟩ := jn_tie h hj
      have sy : RR ts s y := Rch.step pr hp hj
      rcases q with ⟨rfl, rfl⟩ | ⟨rfl, rfl⟩
      · exact ⟨u, hu, .inl ⟨hx, ht, sy⟩⟩
      · exact ⟨u, hu, .inr ⟨hx, ht, sy⟩⟩
    · exact ih hx
theorem marks_start : InvM m ts (iot m) := by
  have g : ∀ x ∈ iot m, gm (iot m) x = x := fun x hx => by
    obtain ⟨h0, h1⟩ := mem_iot.mp hx
    have hl : x.toNat < m := by omega
    simp only [gm, iot, List.getElem?_map, List.getElem?_range hl, Option.map_some, Option.getD_some]
    omega
  exact ⟨iot_len m, fun x hx => by rw [g x hx]; exact ⟨hx, RR.refl, Int.le_refl _⟩⟩
/-- k passes from k on -/
theorem marks_pass (h : okTs n m ts) {ms : List Int} (I : InvM m ts ms) : InvM m ts (ts.foldl stpM ms) ∧ (badN (fun ms x => x ∈ iot m ∧ goodM m ts ms x) (iot m) (ts.foldl stpM ms) + 1 ≤ badN (fun ms x => x ∈ iot m ∧ goodM m ts ms x) (iot m) ms ∨ badN (fun ms x => x ∈ iot m ∧ goodM m ts ms x) (iot m) (ts.foldl stpM ms) = 0) := by
  have S := satM h
  refine ⟨(S.fold ts ms (fun _ z => z) I).1, S.runs (l := iot m) (fun s I ⟨x, hx, hb⟩ _ => ?_) I ?_⟩
  · obtain ⟨r1, r2, r3⟩ := root_ok (ts := ts) hx
    have rg : rootT m ts x ∈ iot m ∧ goodM m ts s (rootT m ts x) := by
      refine ⟨r1, ?_⟩
      have a := root_le I r1
      have b := (I.rc _ r1).2.2
      have c := (lst_root r1).mp (root_lst hx)
      unfold goodM
      omega
    obtain ⟨u, hu, q⟩ := tie_between h (P := fun y => y ∈ iot m ∧ goodM m ts s y) r2.symm rg hb
    obtain ⟨q1, q2, q3, q4, _⟩ := h.tie u hu
    refine ⟨u, hu, ?_⟩
    rcases q with ⟨p1, p2, _⟩ | ⟨p1, p2, _⟩
    · exact .inl ⟨p1, p2, mem_iot.mpr ⟨q3, q4⟩⟩
    · exact .inr ⟨p1, p2, mem_iot.mpr ⟨q1, q2⟩⟩
  · have z : (0 : Int) ∈ iot m := mem_iot.mpr ⟨Int.le_refl _, by have := h.m1; omega⟩
    refine ⟨0, z, z, ?_⟩
    have a := root_le I z
    have b := (I.rc _ z).2.2
    have c := (mem_iot.mp (root_ok (ts := ts) z).1).1
    unfold goodM
    omega
theorem marks_end {ms : List Int} (I : InvM m ts ms) (hb : badN (fun ms x => x ∈ iot m ∧ goodM m ts ms x) (iot m) ms = 0) : ms = (iot m).map (rootT m ts) := by
  have g := bad0 hb
  apply List.ext_getElem?
  intro i
  by_cases hi : i < m
  · have hx : (i : Int) ∈ iot m := mem_iot.mpr (by omega)
    have q := (g _ hx).2
    unfold goodM gm at q
    have hl : i < ms.length := by rw [I.ln]; exact hi
    simp only [Int.toNat_natCast, List.getElem?_eq_getElem hl, Option.getD_some] at q
    simp [hl, iot, hi, q]
  · have z : ms[i]? = none := List.getElem?_eq_none_iff.mpr (by rw [I.ln]; omega)
    rw [z]
    exact (List.getElem?_eq_none_iff.mpr (by simp [iot_len]; omega)).symm
/-- the pieces, by the marks -/
noncomputable def lstsT (m : Nat) (ts : List Tie) : List Int := (iot m).filter fun s => decide (lstT m ts s)
theorem mem_lsts {x : Int} : x ∈ lstsT m ts ↔ x ∈ iot m ∧ lstT m ts x := by simp [lstsT]
theorem lsts_pcs : pcsT m ts = (lstsT m ts).map (compT m ts) := rfl
theorem lsts_len : (lstsT m ts).length ≤ m := by
  refine Nat.le_trans (List.length_filter_le _ _) ?_
  rw [iot_len]; exact Nat.le_refl _
theorem marks_set : isort (fun a b : Int => decide (a ≤ b)) (dedup [] ((iot m).map (rootT m ts))) = lstsT m ts := by
  unfold lstsT
  have mem : ∀ (ns acc : List Int) (k : Int), k ∈ dedup acc ns ↔ k ∈ acc ∨ k ∈ ns := by
    intro ns
    induction ns with
    | nil => intro acc k; simp [dedup]
    | cons a ns ih =>
      intro acc k
      rw [dedup, ih]
      by_cases q : acc.any (· == a) = true
      · rw [if_pos q]
        have ha : a ∈ acc := by
          obtain ⟨x, h1, h2⟩ := List.any_eq_true.mp q
          rw [beq_iff_eq] at h2; subst h2; exact h1
        simp only [List.mem_cons]
        constructor
        · rintro (z | z)
          · exact .inl z
          · exact .inr (.inr z)
        · rintro (z | rfl | z)
          · exact .inl z
          · exact .inl ha
          · exact .inr z
      · rw [if_neg q]
        simp only [List.mem_append, List.mem_cons, List.not_mem_nil, or_false]
        constructor
        · rintro ((z | z) | z)
          · exact .inl z
          · exact .inr (.inl z)
          · exact .inr (.inr z)
        · rintro (z | z | z)
          · exact .inl (.inl z)
          · exact .inl (.inr z)
          · exact .inr z
  have nod : ∀ (ns acc : List Int), acc.Nodup → (dedup acc ns).Nodup := by
    intro ns
    induction ns with
    | nil => intro acc h; exact h
    | cons a ns ih =>
      intro acc h
      rw [dedup]
      refine ih _ ?_
      split
      · exact h
      · rename_i q
        rw [List.nodup_append]
        refine ⟨h, by simp, fun x hx y hy e => q ?_⟩
        simp at hy
        exact List.any_eq_true.mpr ⟨x, hx, by rw [e, hy]; simp⟩
  refine rising_eq (le_lt_nodup (isort_sorted _) (isort_nodup (nod _ _ List.nodup_nil))) (List.Pairwise.filter _ (iot_rising m)) fun x => ?_
  rw [mem_isort, mem]
  simp only [List.not_mem_nil, false_or, List.mem_map, List.mem_filter, decide_eq_true_eq]
  constructor
  · rintro ⟨y, hy, rfl⟩
    exact ⟨(root_ok hy).1, root_lst hy⟩
  · rintro ⟨hx, hl⟩
    exact ⟨x, hx, (lst_root hx).mp hl⟩
theorem marks_piece {s : Int} (hs : s ∈ iot m) (hl : lstT m ts s) : ((iot m).filter fun x => decide (gm ((iot m).map (rootT m ts)) x = s)) = compT m ts s := by
  unfold compT
  refine List.filter_congr fun x hx => ?_
  have g : gm ((iot m).map (rootT m ts)) x = rootT m ts x := by
    obtain ⟨h0, h1⟩ := mem_iot.mp hx
    have hlt : x.toNat < m := by omega
    have e : ((x.toNat : Nat) : Int) = x := by omega
    simp only [gm, iot, List.map_map, List.getElem?_map, List.getElem?_range hlt, Option.map_some, Option.getD_some, Function.comp, e]
  rw [g]
  refine decide_eq_decide.mpr ⟨fun e => ?_, fun r => ?_⟩
  · have := (root_ok (ts := ts) hx).2.1
    rw [e] at this
    exact this.symm
  · rw [← root_eq r]; exact (lst_root hs).mp hl
end
/-! ### turns led on -/
section
variable {n m : Nat} {ts : List Tie}
abbrev Fo := List (Option Tn)
def gf (fo : Fo) (x : Int) : Option Tn := (fo[x.toNat]?).getD none
def stpL (fo : Fo) (t : Tie) : Fo := match gf fo t.1, gf fo t.2.1 with
  | some a, none => fo.set t.2.1.toNat (some (mulT a t.2.2))
  | none, some b => fo.set t.1.toNat (some (mulT b (invT t.2.2)))
  | _, _ => fo
structure InvL (n m : Nat) (ts : List Tie) (fo : Fo) : Prop where
  ln : fo.length = m
  vl : ∀ x ∈ iot m, ∀ t, gf fo x = some t → t ∈ TT n ∧ ∀ f, Led n m ts f → t = f x
theorem gf_set {fo : Fo} {x y : Int} {v : Option Tn} (hl : fo.length = m) (hx : x ∈ iot m) (hy : y ∈ iot m) : gf (fo.set x.toNat v) y = if y = x then v else gf fo y := by
  obtain ⟨x0, x1⟩ := mem_iot.mp hx
  obtain ⟨y0, y1⟩ := mem_iot.mp hy
  unfold gf
  by_cases e : y = x
  · subst e
    rw [List.getElem?_set_self (by omega), if_pos rfl]; rfl
  · rw [List.getElem?_set_ne (by omega), if_neg e]
theorem InvL.set {fo : Fo} (I : InvL n m ts fo) {x : Int} {t : Tn} (hx : x ∈ iot m) (ht : t ∈ TT n) (hf : ∀ f, Led n m ts f → t = f x) : InvL n m ts (fo.set x.toNat (some t)) := by
  refine ⟨by rw [List.length_set]; exact I.ln, fun y hy u hu => ?_⟩
  rw [gf_set I.ln hx hy] at hu
  by_cases e : y = x
  · subst e
    rw [if_pos rfl] at hu; cases hu
    exact ⟨ht, hf⟩
  · rw [if_neg e] at hu
    exact I.vl y hy u hu
theorem satL (h : okTs n m ts) : Sat stpL (fun fo x => x ∈ iot m ∧ gf fo x ≠ none) (InvL n m ts) ts := by
  have ends : ∀ t ∈ ts, t.1 ∈ iot m ∧ t.2.1 ∈ iot m := fun t ht => by
    obtain ⟨q1, q2, q3, q4, _⟩ := h.tie t ht
    exact ⟨mem_iot.mpr ⟨q1, q2⟩, mem_iot.mpr ⟨q3, q4⟩⟩
  refine ⟨fun fo t ht I => ?_, fun fo t x ht I g => ?_, fun fo t ht I g => ?_, fun fo t ht I g => ?_⟩
  · obtain ⟨e1, e2⟩ := ends t ht
    have tt := (h.tie t ht).2.2.2.2.2
    unfold stpL
    split
    · rename_i a ha hb
      obtain ⟨a1, a2⟩ := I.vl _ e1 a ha
      refine I.set e2 (TT_mul h.n1 h.n3 a1 tt) fun f hf => ?_
      rw [a2 f hf, hf.ag t ht]
    · rename_i b ha hb
      obtain ⟨b1, b2⟩ := I.vl _ e2 b hb
      refine I.set e1 (TT_mul h.n1 h.n3 b1 (TT_iv h.n1 h.n3 tt).1) fun f hf => ?_
      rw [b2 f hf, hf.ag t ht]
      exact mul_cancel h.n1 h.n3 (hf.vl _ e1) tt
    · exact I
  · obtain ⟨e1, e2⟩ := ends t ht
    refine ⟨g.1, ?_⟩
    unfold stpL
    split
    · rw [gf_set I.ln e2 g.1]
      split
      · simp
      · exact g.2
    · rw [gf_set I.ln e1 g.1]
      split
      · simp
      · exact g.2
    · exact g.2
  · obtain ⟨e1, e2⟩ := ends t ht
    refine ⟨e2, ?_⟩
    unfold stpL
    split
    · rw [gf_set I.ln e2 e2, if_pos rfl]; simp
    · rename_i b ha hb
      exact absurd ha g.2
    · rename_i x y z1 z2
      intro q
      cases w : gf fo t.1 with
      | none => exact g.2 w
      | some a => exact z1 a w q
  · obtain ⟨e1, e2⟩ := ends t ht
    refine ⟨e1, ?_⟩
    unfold stpL
    split
    · rename_i a ha hb
      exact absurd hb g.2
    · rw [gf_set I.ln e1 e1, if_pos rfl]; simp
    · rename_i x y z1 z2
      intro q
      cases w : gf fo t.2.1 with
      | none => exact g.2 w
      | some a => exact z2 a q w
/-- a pass within a piece that has begun -/
theorem led_pass (h : okTs n m ts) {s : Int} (hs : s ∈ iot m) {fo : Fo} (I : InvL n m ts fo) (hg : gf fo s ≠ none) : InvL n m ts (ts.foldl stpL fo) ∧ (∀ x ∈ iot m, gf fo x ≠ none → gf (ts.foldl stpL fo) x ≠ none) ∧
    (badN (fun fo x => x ∈ iot m ∧ gf fo x ≠ none) (compT m ts s) (ts.foldl stpL fo) + 1 ≤ badN (fun fo x => x ∈ iot m ∧ gf fo x ≠ none) (compT m ts s) fo ∨ badN (fun fo x => x ∈ iot m ∧ gf fo x ≠ none) (compT m ts s) (ts.foldl stpL fo) = 0) := by
  have S := satL h
  obtain ⟨f1, f2⟩ := S.fold ts fo (fun _ z => z) I
  refine ⟨f1, fun x hx q => (f2 x ⟨hx, q⟩).2, S.runs (l := compT m ts s) (fun fo I ⟨x, hx, hb⟩ ⟨y, hy, hgy⟩ => ?_) I ⟨s, mem_compT.mpr ⟨hs, RR.refl⟩, hs, hg⟩⟩
  obtain ⟨x1, x2⟩ := mem_compT.mp hx
  obtain ⟨y1, y2⟩ := mem_compT.mp hy
  obtain ⟨u, hu, q⟩ := tie_between h (P := fun z => z ∈ iot m ∧ gf fo z ≠ none) (y2.symm.trans x2) hgy hb
  obtain ⟨q1, q2, q3, q4, _⟩ := h.tie u hu
  refine ⟨u, hu, ?_⟩
  rcases q with ⟨p1, p2, p3⟩ | ⟨p1, p2, p3⟩
  · exact .inl ⟨p1, p2, mem_compT.mpr ⟨mem_iot.mpr ⟨q3, q4⟩, y2.trans p3⟩⟩
  · exact .inr ⟨p1, p2, mem_compT.mpr ⟨mem_iot.mpr ⟨q1, q2⟩, y2.trans p3⟩⟩
end
end Rf

set_option Elab.async false
set_option linter.all false
set_option maxRecDepth 100000
set_option maxHeartbeats 4000000
namespace Rf
open PySem
/-! ### what is shown -/
structure smI (d : D) : Prop where
  r : rOk d = true
  h : d.hasDict = false
  p : d.depth ≤ 5
  b : d.bulk ≤ 100
theorem rOkAll_of : ∀ {xs : List D}, (∀ x ∈ xs, smI x) → rOkAll xs = true
  | [], _ => by simp [rOkAll]
  | x :: xs, h => by simp [rOkAll, (h x List.mem_cons_self).r, rOkAll_of fun y hy => h y (List.mem_cons_of_mem _ hy)]
theorem noD_of : ∀ {xs : List D}, (∀ x ∈ xs, smI x) → PyData.hasDictAll xs = false
  | [], _ => by simp [PyData.hasDictAll]
  | x :: xs, h => by simp [PyData.hasDictAll, (h x List.mem_cons_self).h, noD_of fun y hy => h y (List.mem_cons_of_mem _ hy)]
theorem dep_of : ∀ {xs : List D}, (∀ x ∈ xs, smI x) → PyData.depthAll xs ≤ 5
  | [], _ => by simp [PyData.depthAll]
  | x :: xs, h => by
    have := (h x List.mem_cons_self).p
    have := dep_of fun y hy => h y (List.mem_cons_of_mem _ hy)
    simp [PyData.depthAll]; omega
theorem bulk_of : ∀ {xs : List D}, (∀ x ∈ xs, smI x) → PyData.bulkAll xs ≤ 101 * xs.length
  | [], _ => by simp [PyData.bulkAll]
  | x :: xs, h => by
    have := (h x List.mem_cons_self).b
    have := bulk_of fun y hy => h y (List.mem_cons_of_mem _ hy)
    simp [PyData.bulkAll]; omega
theorem repr_l {xs : List D} (h : ∀ x ∈ xs, smI x) (hz : xs.length ≤ 100) : reprOk (.list xs) = true := by
  have := dep_of h
  have := bulk_of h
  simp only [reprOk, rOk, rOkAll_of h, PyData.hasDict, noD_of h, PyData.depth, PyData.bulk, Bool.and_eq_true, Nat.ble_eq, Bool.not_false, Bool.true_or, true_and]
  omega
theorem repr_t {xs : List D} (h : ∀ x ∈ xs, smI x) (hz : xs.length ≤ 100) : reprOk (.tuple xs) = true := by
  have := dep_of h
  have := bulk_of h
  simp only [reprOk, rOk, rOkAll_of h, PyData.hasDict, noD_of h, PyData.depth, PyData.bulk, Bool.and_eq_true, Nat.ble_eq, Bool.not_false, Bool.true_or, true_and]
  omega
theorem rOk_i {i : Int} (h0 : -999999999999 ≤ i) (h1 : i ≤ 999999999999) : rOk (.int i) = true := by
  have : Nat.blt i.natAbs 1000000000000 = true := Nat.ble_eq_true_of_le (by omega)
  simp [rOk, this]
theorem sm_i {i : Int} (h0 : -999999999999 ≤ i) (h1 : i ≤ 999999999999) : smI (.int i) := ⟨rOk_i h0 h1, by simp [PyData.hasDict], by simp [PyData.depth], by simp [PyData.bulk]⟩
theorem sm_pr {a b : Int} (h0 : -1000 ≤ a) (h1 : a ≤ 1000) (h2 : -1000 ≤ b) (h3 : b ≤ 1000) : smI (.tuple [.int a, .int b]) :=
  ⟨by rw [rOk, rOkAll, rOkAll, rOkAll, rOk_i (by omega) (by omega), rOk_i (by omega) (by omega)]; rfl, by simp [PyData.hasDict, PyData.hasDictAll], by simp [PyData.depth, PyData.depthAll], by simp [PyData.bulk, PyData.bulkAll]⟩
theorem rOk_is : ∀ {is : List Int}, (∀ i ∈ is, 0 ≤ i ∧ i < 1000) → rOkAll (is.map .int) = true ∧ PyData.hasDictAll (is.map .int) = false ∧ PyData.depthAll (is.map .int) ≤ 1 ∧ PyData.bulkAll (is.map .int) = is.length
  | [], _ => by simp [rOkAll, PyData.hasDictAll, PyData.depthAll, PyData.bulkAll]
  | i :: is, h => by
    obtain ⟨h1, h2, h3, h4⟩ := rOk_is fun j hj => h j (List.mem_cons_of_mem _ hj)
    have := h i List.mem_cons_self
    refine ⟨by simp [rOkAll, h1, rOk_i (i := i) (by omega) (by omega)], by simp [PyData.hasDictAll, PyData.hasDict, h2], by simp [PyData.depthAll, PyData.depth]; omega, by simp [PyData.bulkAll, PyData.bulk, h4]; omega⟩
theorem sm_li {is : List Int} (h : ∀ i ∈ is, 0 ≤ i ∧ i < 1000) (hz : is.length ≤ 100) : smI (.list (is.map .int)) := by
  obtain ⟨h1, h2, h3, h4⟩ := rOk_is h
  exact ⟨by simp [rOk, h1], by simp [PyData.hasDict, h2], by simp [PyData.depth]; omega, by simp [PyData.bulk, h4]; omega⟩
theorem sm_ti {is : List Int} (h : ∀ i ∈ is, 0 ≤ i ∧ i < 1000) (hz : is.length ≤ 100) : smI (.tuple (is.map .int)) := by
  obtain ⟨h1, h2, h3, h4⟩ := rOk_is h
  exact ⟨by simp [rOk, h1], by simp [PyData.hasDict, h2], by simp [PyData.depth]; omega, by simp [PyData.bulk, h4]; omega⟩

theorem sm_b (b : Bool) : smI (.bool b) := ⟨by simp [rOk], by simp [PyData.hasDict], by simp [PyData.depth], by simp [PyData.bulk]⟩
theorem sm_n : smI .none := ⟨by simp [rOk], by simp [PyData.hasDict], by simp [PyData.depth], by simp [PyData.bulk]⟩
structure smK (c p : Nat) (d : D) : Prop where
  r : rOk d = true
  h : d.hasDict = false
  p : d.depth ≤ p
  b : d.bulk ≤ c
theorem smK.all {c p : Nat} : ∀ {xs : List D}, (∀ x ∈ xs, smK c p x) → rOkAll xs = true ∧ PyData.hasDictAll xs = false ∧ PyData.depthAll xs ≤ p ∧ PyData.bulkAll xs ≤ (c + 1) * xs.length
  | [], _ => by simp [rOkAll, PyData.hasDictAll, PyData.depthAll, PyData.bulkAll]
  | x :: xs, h => by
    obtain ⟨h1, h2, h3, h4⟩ := smK.all fun y hy => h y (List.mem_cons_of_mem _ hy)
    have q := h x List.mem_cons_self
    have q1 := q.r; have q2 := q.h; have q3 := q.p; have q4 := q.b
    have e : (c + 1) * (x :: xs).length = (c + 1) * xs.length + (c + 1) := by rw [List.length_cons, Nat.mul_succ]
    refine ⟨by simp [rOkAll, q1, h1], by simp [PyData.hasDictAll, q2, h2], by simp [PyData.depthAll]; omega, ?_⟩
    rw [e]
    simp [PyData.bulkAll]; omega
theorem smK.list {c p n : Nat} {xs : List D} (h : ∀ x ∈ xs, smK c p x) (hz : xs.length ≤ n) : smK ((c + 1) * n) (p + 1) (.list xs) := by
  obtain ⟨h1, h2, h3, h4⟩ := smK.all h
  have : (c + 1) * xs.length ≤ (c + 1) * n := Nat.mul_le_mul_left _ hz
  exact ⟨by simp [rOk, h1], by simp [PyData.hasDict, h2], by simp [PyData.depth]; omega, by simp [PyData.bulk]; omega⟩
theorem smK.tup {c p n : Nat} {xs : List D} (h : ∀ x ∈ xs, smK c p x) (hz : xs.length ≤ n) : smK ((c + 1) * n) (p + 1) (.tuple xs) := by
  obtain ⟨h1, h2, h3, h4⟩ := smK.all h
  have : (c + 1) * xs.length ≤ (c + 1) * n := Nat.mul_le_mul_left _ hz
  exact ⟨by simp [rOk, h1], by simp [PyData.hasDict, h2], by simp [PyData.depth]; omega, by simp [PyData.bulk]; omega⟩
theorem smK.mono {c p c' p' : Nat} {d : D} (h : smK c p d) (a : c ≤ c') (b : p ≤ p') : smK c' p' d := ⟨h.r, h.h, Nat.le_trans h.p b, Nat.le_trans h.b a⟩
theorem smK.ok {c p : Nat} {d : D} (h : smK c p d) (a : c ≤ 15000) (b : p ≤ 64) : reprOk d = true := by
  have h1 := h.r; have h2 := h.h; have h3 := h.p; have h4 := h.b
  simp only [reprOk, h1, h2, Bool.and_eq_true, Nat.ble_eq, Bool.not_false, Bool.true_or, true_and]
  omega
theorem smK_i {i : Int} (h0 : -999999999999 ≤ i) (h1 : i ≤ 999999999999) : smK 0 1 (.int i) := ⟨rOk_i h0 h1, by simp [PyData.hasDict], by simp [PyData.depth], by simp [PyData.bulk]⟩
theorem smK_b (b : Bool) : smK 0 1 (.bool b) := ⟨by simp [rOk], by simp [PyData.hasDict], by simp [PyData.depth], by simp [PyData.bulk]⟩
theorem smK_n : smK 0 1 .none := ⟨by simp [rOk], by simp [PyData.hasDict], by simp [PyData.depth], by simp [PyData.bulk]⟩
theorem smK_is {is : List Int} (h : ∀ i ∈ is, 0 ≤ i ∧ i < 1000) {n : Nat} (hz : is.length ≤ n) : smK n 2 (.list (is.map .int)) := by
  have := smK.list (c := 0) (p := 1) (n := n) (xs := is.map .int) (fun x hx => by
    obtain ⟨i, hi, rfl⟩ := List.mem_map.mp hx
    have := h i hi
    exact smK_i (by omega) (by omega)) (by simpa using hz)
  simpa using this
theorem smK_turn {n : Nat} {t : Tn} (h1 : 1 ≤ n) (h3 : n ≤ 3) (ht : t ∈ TT n) : smK 9 3 (tnD t) := by
  obtain ⟨l, p, _⟩ := okT_of (TT_ok h1 h3 ht)
  have := smK.tup (c := 2) (p := 2) (n := 3) (xs := t.map pD) (fun x hx => by
    obtain ⟨q, hq, rfl⟩ := List.mem_map.mp hx
    obtain ⟨q1, q2, q3⟩ := p q hq
    exact smK.tup (c := 0) (p := 1) (n := 2) (xs := [.int q.1, .int q.2]) (fun y hy => by
      simp at hy
      rcases hy with rfl | rfl <;> exact smK_i (by omega) (by omega)) (by simp)) (by rw [List.length_map]; omega)
  exact this
theorem smK_tie {n m : Nat} {ts : List Tie} {t : Tie} (h : okTs n m ts) (ht : t ∈ ts) : smK 30 4 (tieD t) := by
  obtain ⟨q1, q2, q3, q4, q5, q6⟩ := h.tie t ht
  have m8 := h.m8
  exact smK.tup (c := 9) (p := 3) (n := 3) (xs := [.int t.1, .int t.2.1, tnD t.2.2]) (fun y hy => by
    simp at hy
    rcases hy with rfl | rfl | rfl
    · exact (smK_i (by omega) (by omega)).mono (by omega) (by omega)
    · exact (smK_i (by omega) (by omega)).mono (by omega) (by omega)
    · exact smK_turn h.n1 h.n3 q6) (by simp)
section
variable {F : FT} {C : List D} {a b c d : IE} {env e1 e2 e3 : Ev} {x y z w : D} {o p : Opd} {i t f : Nat} {xs ys : List D} {k : Bool}
/-- repr([a, b]) -/
theorem xRpr2 (h1 : evE F C a env = some (o, e1)) (h2 : evE F C b e1 = some (p, e2)) (r1 : rds e2 (thaw o) = some x) (r2 : rds e2 (thaw p) = some y) (hr : reprOk (.list [x, y]) = true) : evE F C (.rpr (.cons a (.cons b .nil))) env = some (.pu (.str (PyData.shown (.list [x, y]))), e2) := by
  rw [evE, evA, h1]; dsimp only; rw [evA, h2]; dsimp only; rw [evA]; dsimp only
  have q : rdsAll e2 [thaw o, thaw p] = some [x, y] := by simp only [rdsAll, r1, r2]
  rw [q]; dsimp only
  have lk : lenOk [x, y].length = true := rfl
  rw [lk, hr]; rfl
theorem xRepr (h1 : evE F C a env = some (o, e1)) (r1 : rds e1 (thaw o) = some x) (hr : reprOk x = true) : evE F C (.blt .repr1 (.cons a .nil)) env = some (.pu (.str x.shown), e1) := by
  rw [evE, evA, h1]; dsimp only; rw [evA]; dsimp only
  have q : rdsAll e1 [thaw o] = some [x] := by simp only [rdsAll, r1]
  rw [q]; dsimp only
  show Option.map _ (if reprOk x then some (Opd.pu (.str x.shown)) else none) = _
  rw [if_pos hr]; rfl
/-- two texts alike -/
theorem xStrNe (h1 : evE F C a env = some (.pu (.str (PyData.shown x)), e1)) (h2 : evE F C b e1 = some (.pu (.str (PyData.shown x)), e2)) : evE F C (.cmp .ne a b) env = some (.pu (.bool false), e2) :=
  xCmp h1 h2 (by
    show (eqD (.str (PyData.shown x)) (.str (PyData.shown x))).map not = some false
    rw [eq_ss]; rfl)
theorem xStrEq {s : Str} (h1 : evE F C a env = some (.pu (.str s), e1)) (h2 : evE F C b e1 = some (.pu (.str s), e2)) : evE F C (.cmp .eq a b) env = some (.pu (.bool true), e2) :=
  xCmp h1 h2 (eq_ss s)
/-- calls that change a list handed in first -/
theorem xIo1 {rv : Rv} (h0 : env[i]? = some (.own t xs)) (hf : F f [.io xs] = some (rv, [ys])) : evE F C (.call f (.cons (.var i) .nil)) env = some (rvO rv, env.set i (.own t ys)) := by
  rw [evE, evA, xOwn h0]; dsimp only; rw [evA]; dsimp only
  show callO F f [.bo i] env = _
  have a1 : arsOf env [.bo i] = some [.io xs] := by simp only [arsOf, arOf, h0]
  have a2 : iosOf env [.bo i] = [some i] := by simp only [iosOf, h0]
  unfold callO
  rw [a1, a2]
  dsimp only
  rw [if_pos (by simp [distinct]), hf]
  dsimp only
  simp only [backOut, h0]
theorem xIo2 {rv : Rv} (h0 : env[i]? = some (.own t xs)) (hb : evE F C b env = some (o, env)) (ho : thaw o = .pu y) (hf : F f [.io xs, .pu y] = some (rv, [ys])) : evE F C (.call f (.cons (.var i) (.cons b .nil))) env = some (rvO rv, env.set i (.own t ys)) := by
  rw [evE, evA, xOwn h0]; dsimp only; rw [evA, hb]; dsimp only; rw [evA]; dsimp only; rw [ho]
  show callO F f [.bo i, .pu y] env = _
  have a1 : arsOf env [.bo i, .pu y] = some [.io xs, .pu y] := by simp only [arsOf, arOf, h0]
  have a2 : iosOf env [.bo i, .pu y] = [some i] := by simp only [iosOf, h0]
  unfold callO
  rw [a1, a2]
  dsimp only
  rw [if_pos (by simp [distinct]), hf]
  dsimp only
  simp only [backOut, h0]
theorem xIo4 {rv : Rv} (h0 : env[i]? = some (.own t xs)) (hb : evE F C b env = some (.pu y, env)) (hc : evE F C c env = some (.pu z, env)) (hd : evE F C d env = some (.pu w, env)) (hf : F f [.io xs, .pu y, .pu z, .pu w] = some (rv, [ys])) : evE F C (.call f (.cons (.var i) (.cons b (.cons c (.cons d .nil))))) env = some (rvO rv, env.set i (.own t ys)) := by
  rw [evE, evA, xOwn h0]; dsimp only; rw [evA, hb]; dsimp only; rw [evA, hc]; dsimp only; rw [evA, hd]; dsimp only; rw [evA]; dsimp only
  show callO F f [.bo i, .pu y, .pu z, .pu w] env = _
  have a1 : arsOf env [.bo i, .pu y, .pu z, .pu w] = some [.io xs, .pu y, .pu z, .pu w] := by simp only [arsOf, arOf, h0]
  have a2 : iosOf env [.bo i, .pu y, .pu z, .pu w] = [some i] := by simp only [iosOf, h0]
  unfold callO
  rw [a1, a2]
  dsimp only
  rw [if_pos (by simp [distinct]), hf]
  dsimp only
  simp only [backOut, h0]
/-- calls by names -/
theorem xK3 {rv : Rv} {p0 p1 p2 : Nat} {X Y Z : D} (h1 : evE F C a env = some (o, e1)) (h2 : evE F C b e1 = some (p, e2)) {q : Opd} (h3 : evE F C c e2 = some (q, e3)) (t1 : thaw o = .pu x) (t2 : thaw p = .pu y) (t3 : thaw q = .pu z)
    (hp : pick [Opd.pu x, .pu y, .pu z] [p0, p1, p2] = some [.pu X, .pu Y, .pu Z]) (hf : F f [.pu X, .pu Y, .pu Z] = some (rv, [])) : evE F C (.callk f [p0, p1, p2] (.cons a (.cons b (.cons c .nil)))) env = some (rvO rv, e3) := by
  rw [evE, evA, h1]; dsimp only; rw [evA, h2]; dsimp only; rw [evA, h3]; dsimp only; rw [evA]; dsimp only; rw [t1, t2, t3, hp]
  dsimp only
  show callO F f [.pu X, .pu Y, .pu Z] e3 = _
  unfold callO
  show (if distinct (iosOf e3 [.pu X, .pu Y, .pu Z]) = true then (match F f [.pu X, .pu Y, .pu Z] with | none => none | some (rv, outs) => match backOut e3 (iosOf e3 [.pu X, .pu Y, .pu Z]) outs with | none => none | some env' => some (rvO rv, env')) else none) = _
  rw [hf]; rfl
theorem xK4 {rv : Rv} {p0 p1 p2 p3 : Nat} {X Y Z W : D} {e4 : Ev} (h1 : evE F C a env = some (o, e1)) (h2 : evE F C b e1 = some (p, e2)) {q q' : Opd} (h3 : evE F C c e2 = some (q, e3)) (h4 : evE F C d e3 = some (q', e4)) (t1 : thaw o = .pu x) (t2 : thaw p = .pu y) (t3 : thaw q = .pu z) (t4 : thaw q' = .pu w)
    (hp : pick [Opd.pu x, .pu y, .pu z, .pu w] [p0, p1, p2, p3] = some [.pu X, .pu Y, .pu Z, .pu W]) (hf : F f [.pu X, .pu Y, .pu Z, .pu W] = some (rv, [])) : evE F C (.callk f [p0, p1, p2, p3] (.cons a (.cons b (.cons c (.cons d .nil))))) env = some (rvO rv, e4) := by
  rw [evE, evA, h1]; dsimp only; rw [evA, h2]; dsimp only; rw [evA, h3]; dsimp only; rw [evA, h4]; dsimp only; rw [evA]; dsimp only; rw [t1, t2, t3, t4, hp]
  dsimp only
  show callO F f [.pu X, .pu Y, .pu Z, .pu W] e4 = _
  unfold callO
  show (if distinct (iosOf e4 [.pu X, .pu Y, .pu Z, .pu W]) = true then (match F f [.pu X, .pu Y, .pu Z, .pu W] with | none => none | some (rv, outs) => match backOut e4 (iosOf e4 [.pu X, .pu Y, .pu Z, .pu W]) outs with | none => none | some env' => some (rvO rv, env')) else none) = _
  rw [hf]; rfl
end
end Rf

set_option Elab.async false
set_option linter.all false
set_option maxRecDepth 100000
namespace K84
open PySem Rf
def consts : List (String × D) := [("MOST_DIMS", (.int 3)), ("MOST_MAPS", (.int 8)), ("MOST_TIES", (.int 24))]
def l__law_turned_1 : ISs := .cons (.ex (.mth .append 2 (.cons (.tup (.cons (.bin .mul (.var 4) (.idx (.idx (.var 1) (.var 3)) (.cst (.int 0)))) (.cons (.idx (.idx (.var 1) (.var 3)) (.cst (.int 1))) (.nil)))) (.nil)))) (.nil)
def s__law_turned_2 : IS := .fo (.tp (.cons (.nm 3) (.cons (.nm 4) (.nil)))) (.it (.var 0)) (l__law_turned_1)
def n__law_turned : List String := ["turn", "vector", "found", "axis", "sign"]
def b__law_turned : ISs := .cons (.own 2 (.lst (.nil))) (.cons (s__law_turned_2) (.cons (.ret (.blt .tuple1 (.cons (.var 2) (.nil)))) (.nil)))
def e__law_behind_1 : IE := .lc (.tup (.cons (.bin .sub (.blt .abs (.cons (.var 3) (.nil))) (.cst (.int 1))) (.cons (.ite (.cmp .gt (.var 3) (.cst (.int 0))) (.cst (.int 1)) (.neg (.cst (.int 1)))) (.nil)))) (.tp (.cons (.nm 3) (.cons (.nm 4) (.nil)))) (.it (.var 2)) (.non) [3, 4]
def e__law_behind_2 : IE := .lc (.tup (.cons (.bin .add (.var 5) (.cst (.int 1))) (.cons (.cst (.int 1)) (.nil)))) (.nm 5) (.rng (.cst (.int 0)) (.blt .len (.cons (.var 0) (.nil)))) (.non) [5]
def n__law_behind : List String := ["turn", "other", "shown", "above", "below", "axis"]
def b__law_behind : ISs := .cons (.asg (.nm 2) (.call 0 (.cons (.var 0) (.cons (.call 0 (.cons (.var 1) (.cons (.blt .tuple1 (.cons (e__law_behind_2) (.nil))) (.nil)))) (.nil))))) (.cons (.ret (.blt .tuple1 (.cons (e__law_behind_1) (.nil)))) (.nil))
def n__law_draw : List String := ["pot", "many", "digit"]
def b__law_draw : ISs := .cons (.ite (.cmp .gt (.idx (.var 0) (.cst (.int 0))) (.cst (.int 0))) (.cons (.asg (.tp (.cons (.sub 0 (.cst (.int 0))) (.cons (.nm 2) (.nil)))) (.blt .divmod2 (.cons (.idx (.var 0) (.cst (.int 0))) (.cons (.var 1) (.nil))))) (.cons (.ret (.var 2)) (.nil))) (.nil)) (.cons (.asg (.sub 0 (.cst (.int 1))) (.bin .mod (.blt .int1 (.cons (.bin .add (.bin .mul (.idx (.var 0) (.cst (.int 1))) (.cst (.int 39373))) (.cst (.int 641))) (.nil))) (.cst (.int 2147483587)))) (.cons (.ret (.bin .mod (.blt .int1 (.cons (.bin .fdiv (.bin .mod (.blt .int1 (.cons (.bin .mul (.idx (.var 0) (.cst (.int 1))) (.idx (.var 0) (.cst (.int 1)))) (.nil))) (.cst (.int 2147483563))) (.cst (.int 19))) (.nil))) (.var 1))) (.nil)))
def n__law_pick : List String := ["pot", "some"]
def b__law_pick : ISs := .cons (.ret (.idx (.var 1) (.call 2 (.cons (.var 0) (.cons (.blt .len (.cons (.var 1) (.nil))) (.nil)))))) (.nil)
def l__law_mixed_1 : ISs := .cons (.ex (.mth .append 3 (.cons (.mth .pop1 2 (.cons (.call 2 (.cons (.var 0) (.cons (.blt .len (.cons (.var 2) (.nil))) (.nil)))) (.nil))) (.nil)))) (.nil)
def s__law_mixed_2 : IS := .wh (.cmp .ne (.var 2) (.lst (.nil))) (l__law_mixed_1)
def n__law_mixed : List String := ["pot", "some", "left", "found"]
def b__law_mixed : ISs := .cons (.par2 2 3 true true (.blt .list1 (.cons (.var 1) (.nil))) (.lst (.nil))) (.cons (s__law_mixed_2) (.cons (.ret (.var 3)) (.nil)))
def e__law_turns_1 : IE := .lc (.idx (.var 7) (.cst (.int 0))) (.nm 7) (.it (.var 4)) (.non) [7]
def l__law_turns_2 : ISs := .cons (.ex (.mth .extend 3 (.cons (.ite (.cmp .nmem (.var 5) (e__law_turns_1)) (.lst (.cons (.bin .add (.var 4) (.tup (.cons (.tup (.cons (.var 5) (.cons (.var 6) (.nil)))) (.nil)))) (.nil))) (.lst (.nil))) (.nil)))) (.nil)
def s__law_turns_3 : IS := .fo (.nm 6) (.it (.tup (.cons (.neg (.cst (.int 1))) (.cons (.cst (.int 1)) (.nil))))) (l__law_turns_2)
def l__law_turns_4 : ISs := .cons (s__law_turns_3) (.nil)
def s__law_turns_5 : IS := .fo (.nm 5) (.rng (.cst (.int 0)) (.var 0)) (l__law_turns_4)
def l__law_turns_6 : ISs := .cons (s__law_turns_5) (.nil)
def s__law_turns_7 : IS := .fo (.nm 4) (.it (.var 1)) (l__law_turns_6)
def l__law_turns_8 : ISs := .cons (.own 3 (.lst (.nil))) (.cons (s__law_turns_7) (.cons (.asg (.nm 1) (.frz 3)) (.nil)))
def s__law_turns_9 : IS := .fo (.nm 2) (.rng (.cst (.int 0)) (.var 0)) (l__law_turns_8)
def n__law_turns : List String := ["dims", "found", "place", "longer", "row", "axis", "sign", "one"]
def b__law_turns : ISs := .cons (.asg (.nm 1) (.lst (.cons (.tup (.nil)) (.nil)))) (.cons (s__law_turns_9) (.cons (.ret (.blt .sorted1 (.cons (.var 1) (.nil)))) (.nil)))
def e__law_same_1 : IE := .lc (.tup (.cons (.var 1) (.cons (.cst (.int 1)) (.nil)))) (.nm 1) (.rng (.cst (.int 0)) (.var 0)) (.non) [1]
def n__law_same : List String := ["dims", "axis"]
def b__law_same : ISs := .cons (.ret (.blt .tuple1 (.cons (e__law_same_1) (.nil)))) (.nil)
def l__law_undone_1 : ISs := .cons (.ite (.cmp .eq (.call 1 (.cons (.var 1) (.cons (.var 0) (.nil)))) (.call 6 (.cons (.blt .len (.cons (.var 0) (.nil))) (.nil)))) (.cons (.ret (.var 1)) (.nil)) (.nil)) (.nil)
def s__law_undone_2 : IS := .fo (.nm 1) (.it (.call 5 (.cons (.blt .len (.cons (.var 0) (.nil))) (.nil)))) (l__law_undone_1)
def n__law_undone : List String := ["turn", "one"]
def b__law_undone : ISs := .cons (s__law_undone_2) (.cons (.ret (.cst .none)) (.nil))
def l__law_ties_1 : ISs := .cons (.asg (.tp (.cons (.nm 7) (.cons (.nm 8) (.nil)))) (.slc (.call 4 (.cons (.var 0) (.cons (.lrg (.cst (.int 0)) (.var 2)) (.nil)))) (.non) (.som (.cst (.int 2))))) (.cons (.asg (.nm 4) (.call 1 (.cons (.call 7 (.cons (.idx (.var 6) (.var 7)) (.nil))) (.cons (.idx (.var 6) (.var 8)) (.nil))))) (.cons (.ex (.mth .append 5 (.cons (.tup (.cons (.var 7) (.cons (.var 8) (.cons (.ite (.cmp .gt (.call 2 (.cons (.var 0) (.cons (.cst (.int 5)) (.nil)))) (.cst (.int 0))) (.var 4) (.call 3 (.cons (.var 0) (.cons (.call 5 (.cons (.var 1) (.nil))) (.nil))))) (.nil))))) (.nil)))) (.nil)))
def s__law_ties_2 : IS := .fo (.nm 4) (.rng (.cst (.int 0)) (.ite (.cmp .gt (.var 2) (.cst (.int 1))) (.call 2 (.cons (.var 0) (.cons (.bin .add (.var 3) (.cst (.int 1))) (.nil)))) (.cst (.int 0)))) (l__law_ties_1)
def e__law_ties_3 : IE := .lc (.call 3 (.cons (.var 0) (.cons (.call 5 (.cons (.var 1) (.nil))) (.nil)))) (.nm 7) (.rng (.cst (.int 0)) (.var 2)) (.non) [7]
def n__law_ties : List String := ["pot", "dims", "many", "most", "turn", "found", "plan", "one", "other"]
def b__law_ties : ISs := .cons (.par2 5 6 true false (.lst (.nil)) (e__law_ties_3)) (.cons (s__law_ties_2) (.cons (.ret (.var 5)) (.nil)))
def n_is_integer : List String := ["value"]
def b_is_integer : ISs := .cons (.ret (.and2 (.isi (.var 0) [.int]) (.nt (.isi (.var 0) [.bool])))) (.nil)
def n_is_within : List String := ["value", "least", "most"]
def b_is_within : ISs := .cons (.ret (.and2 (.call 9 (.cons (.var 0) (.nil))) (.chn .le .le (.var 1) (.var 0) (.var 2)))) (.nil)
def n_want_dims : List String := ["dims"]
def b_want_dims : ISs := .cons (.ite (.nt (.call 10 (.cons (.var 0) (.cons (.cst (.int 1)) (.cons (.glo 0) (.nil)))))) (.cons (.nev) (.nil)) (.nil)) (.nil)
def n_want_many : List String := ["many"]
def b_want_many : ISs := .cons (.ite (.nt (.call 10 (.cons (.var 0) (.cons (.cst (.int 1)) (.cons (.glo 1) (.nil)))))) (.cons (.nev) (.nil)) (.nil)) (.nil)
def n_is_list : List String := ["value"]
def b_is_list : ISs := .cons (.ret (.isi (.var 0) [.list, .tuple])) (.nil)
def n_is_tuple : List String := ["value", "many"]
def b_is_tuple : ISs := .cons (.ret (.and2 (.isi (.var 0) [.tuple]) (.cmp .eq (.blt .len (.cons (.var 0) (.nil))) (.var 1)))) (.nil)
def e_is_turn_of_1 : IE := .lc (.idx (.var 2) (.cst (.int 0))) (.nm 2) (.it (.var 1)) (.non) [2]
def e_is_turn_of_2 : IE := .lc (.and2 (.call 10 (.cons (.idx (.var 2) (.cst (.int 0))) (.cons (.cst (.int 0)) (.cons (.bin .sub (.var 0) (.cst (.int 1))) (.nil))))) (.and2 (.call 10 (.cons (.idx (.var 2) (.cst (.int 1))) (.cons (.neg (.cst (.int 1))) (.cons (.cst (.int 1)) (.nil))))) (.cmp .ne (.idx (.var 2) (.cst (.int 1))) (.cst (.int 0))))) (.nm 2) (.it (.var 1)) (.non) [2]
def e_is_turn_of_3 : IE := .lc (.call 14 (.cons (.var 2) (.cons (.cst (.int 2)) (.nil)))) (.nm 2) (.it (.var 1)) (.non) [2]
def n_is_turn_of : List String := ["dims", "value", "one"]
def b_is_turn_of : ISs := .cons (.ite (.or2 (.nt (.call 14 (.cons (.var 1) (.cons (.var 0) (.nil))))) (.nt (.blt .all1 (.cons (e_is_turn_of_3) (.nil))))) (.cons (.ret (.cst (.bool false))) (.nil)) (.nil)) (.cons (.ite (.nt (.blt .all1 (.cons (e_is_turn_of_2) (.nil)))) (.cons (.ret (.cst (.bool false))) (.nil)) (.nil)) (.cons (.ret (.cmp .eq (.blt .sorted1 (.cons (e_is_turn_of_1) (.nil))) (.lrg (.cst (.int 0)) (.var 0)))) (.nil)))
def e_is_tie_1 : IE := .lc (.call 10 (.cons (.var 3) (.cons (.cst (.int 0)) (.cons (.bin .sub (.var 1) (.cst (.int 1))) (.nil))))) (.nm 3) (.it (.slc (.var 2) (.non) (.som (.cst (.int 2))))) (.non) [3]
def n_is_tie : List String := ["dims", "many", "value", "one"]
def b_is_tie : ISs := .cons (.ite (.or2 (.nt (.call 14 (.cons (.var 2) (.cons (.cst (.int 3)) (.nil))))) (.nt (.blt .all1 (.cons (e_is_tie_1) (.nil))))) (.cons (.ret (.cst (.bool false))) (.nil)) (.nil)) (.cons (.ret (.and2 (.cmp .ne (.idx (.var 2) (.cst (.int 0))) (.idx (.var 2) (.cst (.int 1)))) (.call 15 (.cons (.var 0) (.cons (.idx (.var 2) (.cst (.int 2))) (.nil)))))) (.nil))
def e_want_ties_1 : IE := .lc (.call 16 (.cons (.var 0) (.cons (.var 1) (.cons (.var 3) (.nil))))) (.nm 3) (.it (.var 2)) (.non) [3]
def n_want_ties : List String := ["dims", "many", "ties", "tie"]
def b_want_ties : ISs := .cons (.ite (.or2 (.nt (.call 13 (.cons (.var 2) (.nil)))) (.or2 (.cmp .gt (.blt .len (.cons (.var 2) (.nil))) (.glo 2)) (.nt (.blt .all1 (.cons (e_want_ties_1) (.nil)))))) (.cons (.nev) (.nil)) (.nil)) (.nil)
def n_want_tied : List String := ["dims", "many", "ties"]
def b_want_tied : ISs := .cons (.ex (.call 11 (.cons (.var 0) (.nil)))) (.cons (.ex (.call 12 (.cons (.var 1) (.nil)))) (.cons (.ex (.call 17 (.cons (.var 0) (.cons (.var 1) (.cons (.var 2) (.nil)))))) (.nil)))
def e_tree_of_1 : IE := .lc (.ite (.cmp .eq (.var 8) (.var 6)) (.var 5) (.var 8)) (.nm 8) (.it (.var 3)) (.non) [8]
def e_tree_of_2 : IE := .lc (.idx (.var 3) (.var 7)) (.nm 7) (.it (.slc (.idx (.idx (.var 0) (.cst (.int 3))) (.var 2)) (.som (.cst (.int 1))) (.som (.cst (.int 3))))) (.non) [7]
def l_tree_of_3 : ISs := .cons (.asg (.tp (.cons (.nm 5) (.cons (.nm 6) (.nil)))) (e_tree_of_2)) (.cons (.ite (.cmp .ne (.var 5) (.var 6)) (.cons (.ex (.mth .append 4 (.cons (.var 2) (.nil)))) (.cons (.asg (.nm 3) (e_tree_of_1)) (.nil))) (.nil)) (.nil))
def s_tree_of_4 : IS := .fo (.nm 2) (.it (.var 1)) (l_tree_of_3)
def n_tree_of : List String := ["survey", "lot", "leg", "marks", "found", "near", "far", "one", "mark"]
def b_tree_of : ISs := .cons (.par2 3 4 false true (.lrg (.cst (.int 0)) (.idx (.var 0) (.cst (.int 2)))) (.lst (.nil))) (.cons (s_tree_of_4) (.cons (.ret (.blt .tuple1 (.cons (.var 4) (.nil)))) (.nil)))
def e_legs_at_1 : IE := .lc (.var 2) (.tp (.cons (.nm 2) (.cons (.nm 3) (.nil)))) (.enu (.idx (.var 0) (.cst (.int 3)))) (.som (.cmp .mem (.var 1) (.slc (.var 3) (.som (.cst (.int 1))) (.som (.cst (.int 3)))))) [2, 3]
def n_legs_at : List String := ["survey", "station", "at", "leg"]
def b_legs_at : ISs := .cons (.ret (e_legs_at_1)) (.nil)
def n_far_end : List String := ["leg", "station"]
def b_far_end : ISs := .cons (.ret (.ite (.cmp .eq (.idx (.var 0) (.cst (.int 1))) (.var 1)) (.idx (.var 0) (.cst (.int 2))) (.idx (.var 0) (.cst (.int 1))))) (.nil)
def l_reached_by_1 : ISs := .cons (.asg (.nm 7) (.call 21 (.cons (.idx (.idx (.var 0) (.cst (.int 3))) (.var 6)) (.cons (.var 5) (.nil))))) (.cons (.ite (.and2 (.cmp .mem (.var 6) (.var 2)) (.cmp .nmem (.var 7) (.var 3))) (.cons (.ex (.mth .append 3 (.cons (.var 7) (.nil)))) (.cons (.ex (.mth .append 4 (.cons (.var 7) (.nil)))) (.nil))) (.nil)) (.nil))
def s_reached_by_2 : IS := .fo (.nm 6) (.it (.call 20 (.cons (.var 0) (.cons (.var 5) (.nil))))) (l_reached_by_1)
def l_reached_by_3 : ISs := .cons (.asg (.nm 5) (.mth .pop0 4 (.nil))) (.cons (s_reached_by_2) (.nil))
def s_reached_by_4 : IS := .wh (.cmp .ne (.var 4) (.lst (.nil))) (l_reached_by_3)
def n_reached_by : List String := ["survey", "station", "lot", "found", "left", "here", "at", "there"]
def b_reached_by : ISs := .cons (.par2 3 4 true true (.lst (.cons (.var 1) (.nil))) (.lst (.cons (.var 1) (.nil)))) (.cons (s_reached_by_4) (.cons (.ret (.blt .sorted1 (.cons (.var 3) (.nil)))) (.nil)))
def e_pieces_by_1 : IE := .lw 2 (.cmp .mem (.var 3) (.var 4)) (.nm 4) (.non) [4]
def l_pieces_by_2 : ISs := .cons (.ite (.nt (.blt .any1 (.cons (e_pieces_by_1) (.nil)))) (.cons (.ex (.mth .append 2 (.cons (.call 22 (.cons (.var 0) (.cons (.var 3) (.cons (.var 1) (.nil))))) (.nil)))) (.nil)) (.nil)) (.nil)
def s_pieces_by_3 : IS := .fo (.nm 3) (.rng (.cst (.int 0)) (.idx (.var 0) (.cst (.int 2)))) (l_pieces_by_2)
def n_pieces_by : List String := ["survey", "lot", "found", "station", "piece"]
def b_pieces_by : ISs := .cons (.own 2 (.lst (.nil))) (.cons (s_pieces_by_3) (.cons (.ret (.var 2)) (.nil)))
def e_net_of_1 : IE := .lc (.tup (.cons (.cst (.int 0)) (.cons (.var 2) (.cons (.var 3) (.nil))))) (.tp (.cons (.nm 2) (.cons (.nm 3) (.cons (.nm 4) (.nil))))) (.it (.var 1)) (.non) [2, 3, 4]
def n_net_of : List String := ["many", "ties", "one", "other", "turn"]
def b_net_of : ISs := .cons (.ret (.tup (.cons (.cst (.str "survey")) (.cons (.cst (.int 1)) (.cons (.var 0) (.cons (.blt .tuple1 (.cons (e_net_of_1) (.nil))) (.nil))))))) (.nil)
def n_all_legs : List String := ["survey"]
def b_all_legs : ISs := .cons (.ret (.trg (.cst (.int 0)) (.blt .len (.cons (.idx (.var 0) (.cst (.int 3))) (.nil))))) (.nil)
def n_sense_from : List String := ["survey", "leg", "station"]
def b_sense_from : ISs := .cons (.ret (.ite (.cmp .eq (.idx (.idx (.idx (.var 0) (.cst (.int 3))) (.var 1)) (.cst (.int 1))) (.var 2)) (.cst (.int 1)) (.neg (.cst (.int 1))))) (.nil)
def l_ways_by_1 : ISs := .cons (.asg (.nm 8) (.call 21 (.cons (.idx (.idx (.var 0) (.cst (.int 3))) (.var 7)) (.cons (.var 6) (.nil))))) (.cons (.ite (.and2 (.cmp .mem (.var 7) (.var 2)) (.din true (.var 8) (.var 3))) (.cons (.dpt 3 (.var 8) (.bin .add (.dix (.var 3) (.var 6)) (.lst (.cons (.tup (.cons (.var 7) (.cons (.call 26 (.cons (.var 0) (.cons (.var 7) (.cons (.var 6) (.nil))))) (.nil)))) (.nil))))) (.cons (.ex (.mth .append 5 (.cons (.var 8) (.nil)))) (.nil))) (.nil)) (.nil))
def s_ways_by_2 : IS := .fo (.nm 7) (.it (.call 20 (.cons (.var 0) (.cons (.var 6) (.nil))))) (l_ways_by_1)
def l_ways_by_3 : ISs := .cons (s_ways_by_2) (.nil)
def s_ways_by_4 : IS := .fo (.nm 6) (.it (.var 4)) (l_ways_by_3)
def l_ways_by_5 : ISs := .cons (.own 5 (.lst (.nil))) (.cons (s_ways_by_4) (.cons (.asg (.nm 4) (.frz 5)) (.nil)))
def s_ways_by_6 : IS := .wh (.cmp .ne (.var 4) (.lst (.nil))) (l_ways_by_5)
def n_ways_by : List String := ["survey", "station", "lot", "found", "last", "late", "here", "leg", "there"]
def b_ways_by : ISs := .cons (.par2 3 4 true false (.ds1 (.var 1) (.lst (.nil))) (.lst (.cons (.var 1) (.nil)))) (.cons (s_ways_by_6) (.cons (.ret (.frz 3)) (.nil)))
def e_same_turn_1 : IE := .lc (.tup (.cons (.var 1) (.cons (.cst (.int 1)) (.nil)))) (.nm 1) (.rng (.cst (.int 0)) (.var 0)) (.non) [1]
def n_same_turn : List String := ["dims", "axis"]
def b_same_turn : ISs := .cons (.ret (.blt .tuple1 (.cons (e_same_turn_1) (.nil)))) (.nil)
def e_behind_of_1 : IE := .lc (.tup (.cons (.idx (.idx (.var 1) (.var 2)) (.cst (.int 0))) (.cons (.bin .mul (.var 3) (.idx (.idx (.var 1) (.var 2)) (.cst (.int 1)))) (.nil)))) (.tp (.cons (.nm 2) (.cons (.nm 3) (.nil)))) (.it (.var 0)) (.non) [2, 3]
def n_behind_of : List String := ["turn", "other", "axis", "sign"]
def b_behind_of : ISs := .cons (.ret (.blt .tuple1 (.cons (e_behind_of_1) (.nil)))) (.nil)
def l_undone_of_1 : ISs := .cons (.asg (.sub 1 (.var 3)) (.tup (.cons (.var 2) (.cons (.var 4) (.nil))))) (.nil)
def s_undone_of_2 : IS := .fo (.tp (.cons (.nm 2) (.cons (.tp (.cons (.nm 3) (.cons (.nm 4) (.nil)))) (.nil)))) (.enu (.var 0)) (l_undone_of_1)
def n_undone_of : List String := ["turn", "found", "place", "axis", "sign"]
def b_undone_of : ISs := .cons (.own 1 (.bin .mul (.lst (.cons (.cst .none) (.nil))) (.blt .len (.cons (.var 0) (.nil))))) (.cons (s_undone_of_2) (.cons (.ret (.blt .tuple1 (.cons (.var 1) (.nil)))) (.nil)))
def l_turn_along_1 : ISs := .cons (.asg (.nm 6) (.idx (.idx (.var 1) (.var 4)) (.cst (.int 2)))) (.cons (.asg (.nm 3) (.call 29 (.cons (.var 3) (.cons (.ite (.cmp .eq (.var 5) (.cst (.int 1))) (.var 6) (.call 30 (.cons (.var 6) (.nil)))) (.nil))))) (.nil))
def s_turn_along_2 : IS := .fo (.tp (.cons (.nm 4) (.cons (.nm 5) (.nil)))) (.it (.var 2)) (l_turn_along_1)
def n_turn_along : List String := ["dims", "ties", "walk", "found", "tie", "sense", "turn"]
def b_turn_along : ISs := .cons (.asg (.nm 3) (.call 28 (.cons (.var 0) (.nil)))) (.cons (s_turn_along_2) (.cons (.ret (.var 3)) (.nil)))
def l_tree_turns_1 : ISs := .cons (.asg (.sub 6 (.var 8)) (.call 31 (.cons (.var 0) (.cons (.var 2) (.cons (.dix (.var 7) (.var 8)) (.nil)))))) (.nil)
def s_tree_turns_2 : IS := .fo (.nm 8) (.it (.var 4)) (l_tree_turns_1)
def l_tree_turns_3 : ISs := .cons (.asg (.nm 7) (.call 27 (.cons (.var 5) (.cons (.idx (.var 4) (.cst (.int 0))) (.cons (.var 3) (.nil)))))) (.cons (s_tree_turns_2) (.nil))
def s_tree_turns_4 : IS := .fo (.nm 4) (.it (.call 23 (.cons (.var 5) (.cons (.call 25 (.cons (.var 5) (.nil))) (.nil))))) (l_tree_turns_3)
def n_tree_turns : List String := ["dims", "many", "ties", "tree", "piece", "net", "found", "ways", "one"]
def b_tree_turns : ISs := .cons (.par2 5 6 false true (.call 24 (.cons (.var 1) (.cons (.var 2) (.nil)))) (.bin .mul (.lst (.cons (.cst .none) (.nil))) (.var 1))) (.cons (.asg (.nm 3) (.call 19 (.cons (.var 5) (.cons (.call 25 (.cons (.var 5) (.nil))) (.nil))))) (.cons (s_tree_turns_4) (.cons (.ret (.var 6)) (.nil))))
def n_does_fit : List String := ["tie", "turns", "one", "other", "turn"]
def b_does_fit : ISs := .cons (.asg (.tp (.cons (.nm 2) (.cons (.nm 3) (.cons (.nm 4) (.nil))))) (.var 0)) (.cons (.ret (.cmp .eq (.idx (.var 1) (.var 3)) (.call 29 (.cons (.idx (.var 1) (.var 2)) (.cons (.var 4) (.nil)))))) (.nil))
def e_open_ties_1 : IE := .lc (.var 4) (.tp (.cons (.nm 4) (.cons (.nm 5) (.nil)))) (.enu (.var 2)) (.som (.nt (.call 33 (.cons (.var 5) (.cons (.var 3) (.nil)))))) [4, 5]
def n_open_ties : List String := ["dims", "many", "ties", "turns", "at", "tie"]
def b_open_ties : ISs := .cons (.asg (.nm 3) (.call 32 (.cons (.var 0) (.cons (.var 1) (.cons (.var 2) (.nil)))))) (.cons (.ret (e_open_ties_1)) (.nil))
def n_told_turns : List String := ["dims", "many", "ties"]
def b_told_turns : ISs := .cons (.ret (.ite (.cmp .eq (.call 34 (.cons (.var 0) (.cons (.var 1) (.cons (.var 2) (.nil))))) (.lst (.nil))) (.call 32 (.cons (.var 0) (.cons (.var 1) (.cons (.var 2) (.nil))))) (.cst .none))) (.nil)
def n_turns_for : List String := ["dims", "many", "ties"]
def b_turns_for : ISs := .cons (.ex (.call 18 (.cons (.var 0) (.cons (.var 1) (.cons (.var 2) (.nil)))))) (.cons (.ret (.call 35 (.cons (.var 0) (.cons (.var 1) (.cons (.var 2) (.nil)))))) (.nil))
def e__law_pieces_1 : IE := .lc (.var 9) (.nm 9) (.rng (.cst (.int 0)) (.var 0)) (.som (.cmp .eq (.idx (.var 2) (.var 9)) (.var 8))) [9]
def e__law_pieces_2 : IE := .lc (e__law_pieces_1) (.nm 8) (.it (.sset (.var 2))) (.non) [8]
def l__law_pieces_3 : ISs := .cons (.asg (.nm 7) (.blt .min2 (.cons (.idx (.var 2) (.var 4)) (.cons (.idx (.var 2) (.var 5)) (.nil))))) (.cons (.asg (.tp (.cons (.sub 2 (.var 4)) (.cons (.sub 2 (.var 5)) (.nil)))) (.tup (.cons (.var 7) (.cons (.var 7) (.nil))))) (.nil))
def s__law_pieces_4 : IS := .fo (.tp (.cons (.nm 4) (.cons (.nm 5) (.cons (.nm 6) (.nil))))) (.it (.var 1)) (l__law_pieces_3)
def l__law_pieces_5 : ISs := .cons (s__law_pieces_4) (.nil)
def s__law_pieces_6 : IS := .fo (.nm 3) (.rng (.cst (.int 0)) (.var 0)) (l__law_pieces_5)
def n__law_pieces : List String := ["many", "ties", "marks", "turn", "one", "other", "late", "least", "mark", "at"]
def b__law_pieces : ISs := .cons (.own 2 (.lrg (.cst (.int 0)) (.var 0))) (.cons (s__law_pieces_6) (.cons (.ret (e__law_pieces_2)) (.nil)))
def e__law_does_agree_1 : IE := .lc (.cmp .eq (.idx (.var 1) (.var 3)) (.call 1 (.cons (.idx (.var 1) (.var 2)) (.cons (.var 4) (.nil))))) (.tp (.cons (.nm 2) (.cons (.nm 3) (.cons (.nm 4) (.nil))))) (.it (.var 0)) (.non) [2, 3, 4]
def n__law_does_agree : List String := ["ties", "turns", "one", "other", "turn"]
def b__law_does_agree : ISs := .cons (.ret (.blt .all1 (.cons (e__law_does_agree_1) (.nil)))) (.nil)
def l__law_led_1 : ISs := .cons (.ite (.and2 (.cmp .notN (.idx (.var 3) (.var 6)) (.cst .none)) (.cmp .isN (.idx (.var 3) (.var 7)) (.cst .none))) (.cons (.asg (.sub 3 (.var 7)) (.call 1 (.cons (.idx (.var 3) (.var 6)) (.cons (.var 8) (.nil))))) (.nil)) (.nil)) (.cons (.ite (.and2 (.cmp .notN (.idx (.var 3) (.var 7)) (.cst .none)) (.cmp .isN (.idx (.var 3) (.var 6)) (.cst .none))) (.cons (.asg (.sub 3 (.var 6)) (.call 1 (.cons (.idx (.var 3) (.var 7)) (.cons (.call 7 (.cons (.var 8) (.nil))) (.nil))))) (.nil)) (.nil)) (.nil))
def s__law_led_2 : IS := .fo (.tp (.cons (.nm 6) (.cons (.nm 7) (.cons (.nm 8) (.nil))))) (.it (.var 2)) (l__law_led_1)
def l__law_led_3 : ISs := .cons (s__law_led_2) (.nil)
def s__law_led_4 : IS := .fo (.nm 5) (.it (.var 4)) (l__law_led_3)
def l__law_led_5 : ISs := .cons (.asg (.sub 3 (.idx (.var 4) (.cst (.int 0)))) (.call 6 (.cons (.var 0) (.nil)))) (.cons (s__law_led_4) (.nil))
def s__law_led_6 : IS := .fo (.nm 4) (.it (.call 37 (.cons (.var 1) (.cons (.var 2) (.nil))))) (l__law_led_5)
def n__law_led : List String := ["dims", "many", "ties", "found", "piece", "turn", "one", "other", "late"]
def b__law_led : ISs := .cons (.own 3 (.bin .mul (.lst (.cons (.cst .none) (.nil))) (.var 1))) (.cons (s__law_led_6) (.cons (.ret (.ite (.call 38 (.cons (.var 2) (.cons (.frz 3) (.nil)))) (.var 3) (.cst .none))) (.nil)))
def e_want_turns_1 : IE := .lc (.call 15 (.cons (.var 0) (.cons (.var 3) (.nil)))) (.nm 3) (.it (.var 2)) (.non) [3]
def n_want_turns : List String := ["dims", "many", "turns", "turn"]
def b_want_turns : ISs := .cons (.ite (.or2 (.nt (.call 13 (.cons (.var 2) (.nil)))) (.or2 (.cmp .ne (.blt .len (.cons (.var 2) (.nil))) (.var 1)) (.nt (.blt .all1 (.cons (e_want_turns_1) (.nil)))))) (.cons (.nev) (.nil)) (.nil)) (.nil)
def e_do_agree_1 : IE := .lc (.call 33 (.cons (.var 4) (.cons (.var 3) (.nil)))) (.nm 4) (.it (.var 2)) (.non) [4]
def n_do_agree : List String := ["dims", "many", "ties", "turns", "tie"]
def b_do_agree : ISs := .cons (.ex (.call 18 (.cons (.var 0) (.cons (.var 1) (.cons (.var 2) (.nil)))))) (.cons (.ex (.call 40 (.cons (.var 0) (.cons (.var 1) (.cons (.var 3) (.nil)))))) (.cons (.ret (.blt .all1 (.cons (e_do_agree_1) (.nil)))) (.nil)))
def e_turns_of_1 : IE := .lc (.bin .add (.var 4) (.tup (.cons (.tup (.cons (.var 6) (.cons (.var 7) (.nil)))) (.nil)))) (.nm 7) (.it (.tup (.cons (.neg (.cst (.int 1))) (.cons (.cst (.int 1)) (.nil))))) (.non) [7]
def l_turns_of_2 : ISs := .cons (.ex (.mth .extend 3 (.cons (e_turns_of_1) (.nil)))) (.nil)
def s_turns_of_3 : IS := .fo (.nm 6) (.it (.var 5)) (l_turns_of_2)
def e_turns_of_4 : IE := .lc (.idx (.var 8) (.cst (.int 0))) (.nm 8) (.it (.var 4)) (.non) [8]
def e_turns_of_5 : IE := .lc (.var 6) (.nm 6) (.rng (.cst (.int 0)) (.var 0)) (.som (.cmp .nmem (.var 6) (e_turns_of_4))) [6]
def l_turns_of_6 : ISs := .cons (.asg (.nm 5) (e_turns_of_5)) (.cons (s_turns_of_3) (.nil))
def s_turns_of_7 : IS := .fo (.nm 4) (.it (.var 1)) (l_turns_of_6)
def l_turns_of_8 : ISs := .cons (.own 3 (.lst (.nil))) (.cons (s_turns_of_7) (.cons (.asg (.nm 1) (.frz 3)) (.nil)))
def s_turns_of_9 : IS := .fo (.nm 2) (.rng (.cst (.int 0)) (.var 0)) (l_turns_of_8)
def n_turns_of : List String := ["dims", "found", "place", "longer", "begun", "left", "axis", "sign", "one"]
def b_turns_of : ISs := .cons (.asg (.nm 1) (.lst (.cons (.tup (.nil)) (.nil)))) (.cons (s_turns_of_9) (.cons (.ret (.blt .sorted1 (.cons (.var 1) (.nil)))) (.nil)))
def l_turn_lists_1 : ISs := .cons (.asg (.nm 2) (.bin .mul (.var 2) (.blt .len (.cons (.call 42 (.cons (.var 0) (.nil))) (.nil))))) (.nil)
def s_turn_lists_2 : IS := .fo (.nm 3) (.rng (.cst (.int 0)) (.var 1)) (l_turn_lists_1)
def n_turn_lists : List String := ["dims", "many", "found", "turn"]
def b_turn_lists : ISs := .cons (.asg (.nm 2) (.cst (.int 1))) (.cons (s_turn_lists_2) (.cons (.ret (.var 2)) (.nil)))
def n_piece_count : List String := ["many", "ties", "net"]
def b_piece_count : ISs := .cons (.asg (.nm 2) (.call 24 (.cons (.var 0) (.cons (.var 1) (.nil))))) (.cons (.ret (.blt .len (.cons (.call 23 (.cons (.var 2) (.cons (.call 25 (.cons (.var 2) (.nil))) (.nil)))) (.nil)))) (.nil))
def n_many_turns : List String := ["dims", "many", "ties"]
def b_many_turns : ISs := .cons (.ex (.call 18 (.cons (.var 0) (.cons (.var 1) (.cons (.var 2) (.nil)))))) (.cons (.ite (.cmp .ne (.call 34 (.cons (.var 0) (.cons (.var 1) (.cons (.var 2) (.nil))))) (.lst (.nil))) (.cons (.ret (.cst (.int 0))) (.nil)) (.nil)) (.cons (.ret (.call 43 (.cons (.var 0) (.cons (.call 44 (.cons (.var 1) (.cons (.var 2) (.nil)))) (.nil))))) (.nil)))
def e_suspects_1 : IE := .lc (.var 4) (.nm 4) (.rng (.cst (.int 0)) (.blt .len (.cons (.var 3) (.nil)))) (.som (.cmp .eq (.call 34 (.cons (.var 0) (.cons (.var 1) (.cons (.bin .add (.slc (.var 3) (.non) (.som (.var 4))) (.slc (.var 3) (.som (.bin .add (.var 4) (.cst (.int 1)))) (.non))) (.nil))))) (.lst (.nil)))) [4]
def n_suspects : List String := ["dims", "many", "ties", "told", "at"]
def b_suspects : ISs := .cons (.ex (.call 18 (.cons (.var 0) (.cons (.var 1) (.cons (.var 2) (.nil)))))) (.cons (.ite (.cmp .eq (.call 34 (.cons (.var 0) (.cons (.var 1) (.cons (.var 2) (.nil))))) (.lst (.nil))) (.cons (.ret (.lst (.nil))) (.nil)) (.nil)) (.cons (.asg (.nm 3) (.blt .list1 (.cons (.var 2) (.nil)))) (.cons (.ret (e_suspects_1)) (.nil))))
def e__law_lists_1 : IE := .lc (.bin .add (.var 5) (.lst (.cons (.var 6) (.nil)))) (.nm 6) (.it (.call 5 (.cons (.var 0) (.nil)))) (.non) [6]
def l__law_lists_2 : ISs := .cons (.ex (.mth .extend 4 (.cons (e__law_lists_1) (.nil)))) (.nil)
def s__law_lists_3 : IS := .fo (.nm 5) (.it (.var 2)) (l__law_lists_2)
def l__law_lists_4 : ISs := .cons (.own 4 (.lst (.nil))) (.cons (s__law_lists_3) (.cons (.asg (.nm 2) (.frz 4)) (.nil)))
def s__law_lists_5 : IS := .fo (.nm 3) (.rng (.cst (.int 0)) (.var 1)) (l__law_lists_4)
def n__law_lists : List String := ["dims", "many", "found", "one", "longer", "row", "turn"]
def b__law_lists : ISs := .cons (.asg (.nm 2) (.lst (.cons (.lst (.nil)) (.nil)))) (.cons (s__law_lists_5) (.cons (.ret (.var 2)) (.nil)))
def e__law_right_1 : IE := .lc (.var 17) (.nm 17) (.rng (.cst (.int 0)) (.blt .len (.cons (.var 3) (.nil)))) (.som (.cmp .notN (.call 39 (.cons (.var 1) (.cons (.var 2) (.cons (.bin .add (.slc (.var 3) (.non) (.som (.var 17))) (.slc (.var 3) (.som (.bin .add (.var 17) (.cst (.int 1)))) (.non))) (.nil))))) (.cst .none))) [17]
def l__law_right_2 : ISs := .cons (.asg (.nm 12) (.call 38 (.cons (.var 3) (.cons (.var 7) (.nil))))) (.cons (.asg (.nm 13) (.callk 41 [3, 2, 1, 0] (.cons (.blt .tuple1 (.cons (.var 7) (.nil))) (.cons (.var 3) (.cons (.var 2) (.cons (.var 1) (.nil))))))) (.cons (.ite (.cmp .ne (.rpr (.cons (.call 41 (.cons (.var 1) (.cons (.var 2) (.cons (.var 3) (.cons (.var 7) (.nil)))))) (.cons (.var 13) (.nil)))) (.rpr (.cons (.var 12) (.cons (.var 12) (.nil))))) (.cons (.ret (.cst (.bool false))) (.nil)) (.nil)) (.nil)))
def s__law_right_3 : IS := .fo (.nm 7) (.it (.frz 6)) (l__law_right_2)
def e__law_right_4 : IE := .lc (.ite (.cmp .mem (.var 17) (.var 11)) (.call 1 (.cons (.var 15) (.cons (.var 14) (.nil)))) (.var 14)) (.tp (.cons (.nm 17) (.cons (.nm 14) (.nil)))) (.enu (.var 10)) (.non) [17, 14]
def l__law_right_5 : ISs := .cons (.asg (.nm 15) (.call 3 (.cons (.var 0) (.cons (.call 5 (.cons (.var 1) (.nil))) (.nil))))) (.cons (.ex (.mth .append 6 (.cons (e__law_right_4) (.nil)))) (.nil))
def s__law_right_6 : IS := .fo (.nm 11) (.it (.slc (.call 37 (.cons (.var 2) (.cons (.var 3) (.nil)))) (.non) (.som (.cst (.int 2))))) (l__law_right_5)
def e__law_right_7 : IE := .lc (.call 3 (.cons (.var 0) (.cons (.call 5 (.cons (.var 1) (.nil))) (.nil)))) (.nm 16) (.rng (.cst (.int 0)) (.var 2)) (.non) [16]
def e__law_right_8 : IE := .lc (e__law_right_7) (.nm 14) (.rng (.cst (.int 0)) (.cst (.int 3))) (.non) [14]
def e__law_right_9 : IE := .lc (.var 7) (.nm 7) (.it (.call 47 (.cons (.var 1) (.cons (.var 2) (.nil))))) (.som (.call 38 (.cons (.var 3) (.cons (.var 7) (.nil))))) [7]
def l__law_right_10 : ISs := .cons (.asg (.nm 5) (.bin .mul (.var 5) (.blt .len (.cons (.call 5 (.cons (.var 1) (.nil))) (.nil))))) (.nil)
def s__law_right_11 : IS := .fo (.nm 11) (.it (.call 37 (.cons (.var 2) (.cons (.var 3) (.nil))))) (l__law_right_10)
def n__law_right : List String := ["pot", "dims", "many", "ties", "told", "count", "rows", "row", "some", "shown", "due", "piece", "is_due", "named", "turn", "more", "one", "at"]
def b__law_right : ISs := .cons (.asg (.nm 1) (.bin .add (.cst (.int 1)) (.call 2 (.cons (.var 0) (.cons (.cst (.int 3)) (.nil)))))) (.cons (.asg (.nm 2) (.bin .add (.cst (.int 1)) (.call 2 (.cons (.var 0) (.cons (.cst (.int 6)) (.nil)))))) (.cons (.asg (.nm 3) (.call 8 (.cons (.var 0) (.cons (.var 1) (.cons (.var 2) (.cons (.cst (.int 8)) (.nil))))))) (.cons (.par2 9 10 false false (.blt .repr1 (.cons (.var 3) (.nil))) (.call 39 (.cons (.var 1) (.cons (.var 2) (.cons (.var 3) (.nil)))))) (.cons (.own 4 (.call 36 (.cons (.var 1) (.cons (.var 2) (.cons (.var 3) (.nil)))))) (.cons (.ite (.cmp .ne (.rpr (.cons (.var 4) (.cons (.callk 36 [2, 1, 0] (.cons (.blt .tuple1 (.cons (.var 3) (.nil))) (.cons (.var 2) (.cons (.var 1) (.nil))))) (.nil)))) (.rpr (.cons (.var 10) (.cons (.var 10) (.nil))))) (.cons (.ret (.cst (.bool false))) (.nil)) (.nil)) (.cons (.asg (.nm 5) (.cst (.int 0))) (.cons (.ite (.cmp .notN (.var 10) (.cst .none)) (.cons (.asg (.nm 5) (.cst (.int 1))) (.cons (s__law_right_11) (.nil))) (.nil)) (.cons (.ite (.cmp .ne (.rpr (.cons (.call 45 (.cons (.var 1) (.cons (.var 2) (.cons (.var 3) (.nil))))) (.cons (.callk 45 [2, 1, 0] (.cons (.var 3) (.cons (.var 2) (.cons (.var 1) (.nil))))) (.nil)))) (.rpr (.cons (.var 5) (.cons (.var 5) (.nil))))) (.cons (.ret (.cst (.bool false))) (.nil)) (.nil)) (.cons (.ite (.cmp .lt (.var 2) (.idx (.lst (.cons (.cst (.int 7)) (.cons (.cst (.int 4)) (.cons (.cst (.int 2)) (.nil))))) (.bin .sub (.var 1) (.cst (.int 1))))) (.cons (.ite (.cmp .ne (.blt .len (.cons (e__law_right_9) (.nil))) (.var 5)) (.cons (.ret (.cst (.bool false))) (.nil)) (.nil)) (.nil)) (.nil)) (.cons (.own 6 (e__law_right_8)) (.cons (.ite (.cmp .notN (.var 10) (.cst .none)) (.cons (.ex (.mth .append 6 (.cons (.var 10) (.nil)))) (.cons (s__law_right_6) (.nil))) (.nil)) (.cons (s__law_right_3) (.cons (.asg (.nm 8) (.lst (.nil))) (.cons (.ite (.cmp .isN (.var 10) (.cst .none)) (.cons (.asg (.nm 8) (e__law_right_1)) (.nil)) (.nil)) (.cons (.ite (.cmp .ne (.rpr (.cons (.call 46 (.cons (.var 1) (.cons (.var 2) (.cons (.var 3) (.nil))))) (.cons (.callk 46 [2, 1, 0] (.cons (.blt .tuple1 (.cons (.var 3) (.nil))) (.cons (.var 2) (.cons (.var 1) (.nil))))) (.nil)))) (.rpr (.cons (.var 8) (.cons (.var 8) (.nil))))) (.cons (.ret (.cst (.bool false))) (.nil)) (.nil)) (.cons (.ite (.cmp .notN (.var 4) (.cst .none)) (.cons (.ex (.mth .append 4 (.cons (.cst .none) (.nil)))) (.nil)) (.nil)) (.cons (.ret (.and2 (.cmp .eq (.blt .repr1 (.cons (.call 36 (.cons (.var 1) (.cons (.var 2) (.cons (.var 3) (.nil))))) (.nil))) (.blt .repr1 (.cons (.var 10) (.nil)))) (.cmp .eq (.blt .repr1 (.cons (.var 3) (.nil))) (.var 9)))) (.nil))))))))))))))))))
def n__law_pot : List String := ["script", "k", "cell"]
def b__law_pot : ISs := .cons (.asg (.nm 2) (.bin .add (.bin .mul (.cst (.int 619)) (.var 1)) (.cst (.int 8147)))) (.cons (.ite (.cmp .lt (.var 1) (.blt .len (.cons (.var 0) (.nil)))) (.cons (.asg (.nm 2) (.blt .abs (.cons (.idx (.var 0) (.var 1)) (.nil)))) (.nil)) (.nil)) (.cons (.ret (.lst (.cons (.blt .max2 (.cons (.cst (.int 0)) (.cons (.bin .sub (.var 2) (.bin .pow (.cst (.int 10)) (.cst (.int 18)))) (.nil)))) (.cons (.bin .add (.bin .mod (.blt .int1 (.cons (.bin .add (.bin .add (.bin .mul (.bin .mod (.blt .int1 (.cons (.var 2) (.nil))) (.cst (.int 2147483549))) (.cst (.int 40014))) (.bin .mul (.cst (.int 8147)) (.var 1))) (.cst (.int 61))) (.nil))) (.cst (.int 2147483563))) (.cst (.int 1))) (.nil))))) (.nil)))
def e_law_1 : IE := .lc (.call 48 (.cons (.giv (.call 49 (.cons (.var 0) (.cons (.var 1) (.nil))))) (.nil))) (.nm 1) (.rng (.cst (.int 0)) (.blt .max2 (.cons (.cst (.int 1)) (.cons (.blt .min2 (.cons (.cst (.int 2)) (.cons (.blt .len (.cons (.var 0) (.nil))) (.nil)))) (.nil))))) (.non) [1]
def n_law : List String := ["script", "k"]
def b_law : ISs := .cons (.ret (.blt .all1 (.cons (e_law_1) (.nil)))) (.nil)
def fns : List Fn := [⟨2, 5, b__law_turned⟩, ⟨2, 6, b__law_behind⟩, ⟨2, 3, b__law_draw⟩, ⟨2, 2, b__law_pick⟩, ⟨2, 4, b__law_mixed⟩, ⟨1, 8, b__law_turns⟩, ⟨1, 2, b__law_same⟩, ⟨1, 2, b__law_undone⟩, ⟨4, 9, b__law_ties⟩, ⟨1, 1, b_is_integer⟩, ⟨3, 3, b_is_within⟩, ⟨1, 1, b_want_dims⟩, ⟨1, 1, b_want_many⟩, ⟨1, 1, b_is_list⟩, ⟨2, 2, b_is_tuple⟩, ⟨2, 3, b_is_turn_of⟩, ⟨3, 4, b_is_tie⟩, ⟨3, 4, b_want_ties⟩, ⟨3, 3, b_want_tied⟩, ⟨2, 9, b_tree_of⟩, ⟨2, 4, b_legs_at⟩, ⟨2, 2, b_far_end⟩, ⟨3, 8, b_reached_by⟩, ⟨2, 5, b_pieces_by⟩, ⟨2, 5, b_net_of⟩, ⟨1, 1, b_all_legs⟩, ⟨3, 3, b_sense_from⟩, ⟨3, 9, b_ways_by⟩, ⟨1, 2, b_same_turn⟩, ⟨2, 4, b_behind_of⟩, ⟨1, 5, b_undone_of⟩, ⟨3, 7, b_turn_along⟩, ⟨3, 9, b_tree_turns⟩, ⟨2, 5, b_does_fit⟩, ⟨3, 6, b_open_ties⟩, ⟨3, 3, b_told_turns⟩, ⟨3, 3, b_turns_for⟩, ⟨2, 10, b__law_pieces⟩, ⟨2, 5, b__law_does_agree⟩, ⟨3, 9, b__law_led⟩, ⟨3, 4, b_want_turns⟩, ⟨4, 5, b_do_agree⟩, ⟨1, 9, b_turns_of⟩, ⟨2, 4, b_turn_lists⟩, ⟨2, 3, b_piece_count⟩, ⟨3, 3, b_many_turns⟩, ⟨3, 5, b_suspects⟩, ⟨2, 7, b__law_lists⟩, ⟨1, 18, b__law_right⟩, ⟨2, 3, b__law_pot⟩, ⟨1, 2, b_law⟩]
abbrev i__law_turned : Nat := 0
abbrev i__law_behind : Nat := 1
abbrev i__law_draw : Nat := 2
abbrev i__law_pick : Nat := 3
abbrev i__law_mixed : Nat := 4
abbrev i__law_turns : Nat := 5
abbrev i__law_same : Nat := 6
abbrev i__law_undone : Nat := 7
abbrev i__law_ties : Nat := 8
abbrev i_is_integer : Nat := 9
abbrev i_is_within : Nat := 10
abbrev i_want_dims : Nat := 11
abbrev i_want_many : Nat := 12
abbrev i_is_list : Nat := 13
abbrev i_is_tuple : Nat := 14
abbrev i_is_turn_of : Nat := 15
abbrev i_is_tie : Nat := 16
abbrev i_want_ties : Nat := 17
abbrev i_want_tied : Nat := 18
abbrev i_tree_of : Nat := 19
abbrev i_legs_at : Nat := 20
abbrev i_far_end : Nat := 21
abbrev i_reached_by : Nat := 22
abbrev i_pieces_by : Nat := 23
abbrev i_net_of : Nat := 24
abbrev i_all_legs : Nat := 25
abbrev i_sense_from : Nat := 26
abbrev i_ways_by : Nat := 27
abbrev i_same_turn : Nat := 28
abbrev i_behind_of : Nat := 29
abbrev i_undone_of : Nat := 30
abbrev i_turn_along : Nat := 31
abbrev i_tree_turns : Nat := 32
abbrev i_does_fit : Nat := 33
abbrev i_open_ties : Nat := 34
abbrev i_told_turns : Nat := 35
abbrev i_turns_for : Nat := 36
abbrev i__law_pieces : Nat := 37
abbrev i__law_does_agree : Nat := 38
abbrev i__law_led : Nat := 39
abbrev i_want_turns : Nat := 40
abbrev i_do_agree : Nat := 41
abbrev i_turns_of : Nat := 42
abbrev i_turn_lists : Nat := 43
abbrev i_piece_count : Nat := 44
abbrev i_many_turns : Nat := 45
abbrev i_suspects : Nat := 46
abbrev i__law_lists : Nat := 47
abbrev i__law_right : Nat := 48
abbrev i__law_pot : Nat := 49
abbrev i_law : Nat := 50
end K84

set_option Elab.async false
set_option linter.all false
set_option maxRecDepth 100000
set_option maxHeartbeats 4000000
namespace K84
open PySem Rf
def C0 : List D := consts.map (·.2)
@[irreducible] def G (k : Nat) : FT := callN C0 fns k
theorem one {k f : Nat} {as : List Ar} {fn : Fn} (h : fns[f]? = some fn) : G (k + 1) f as = runF (G k) C0 fn as := by
  unfold G
  simp only [callN, h]
theorem c0 (n : Nat) : C0[n]? = (consts.map (·.2))[n]? := rfl
theorem mulOk2 {i : Int} : mulOk 2 i = true := rfl
/-! ### kinds -/
def isInt : D → Bool
  | .int _ => true
  | _ => false
def inRg (lo hi : Int) : D → Bool
  | .int i => decide (lo ≤ i) && decide (i ≤ hi)
  | _ => false
theorem is_integer_ok {k : Nat} {d : D} : G (k + 1) i_is_integer [.pu d] = some (.pu (.bool (isInt d)), []) := by
  rw [one (fn := ⟨1, 1, b_is_integer⟩) rfl]
  cases d <;> simp [evSs, evS, evE, evA, evP, evO, evD, evI, asgT, asgTs, rdp, rds, rdsAll, frzd, frzE, thaw, callO, arsOf, arOf, iosOf, distinct, backOut, rvO, pick, bltV, cmpV, eqii, eqbb, eqstr, binV, negV, ixt, ixl, at0, at1, at2, at3, at4, at5, ix20, ix21, lk0, lk1, lk2, lk3, lk4, lk5, lk6, putv, slotOf, finF, rvOf, outsOf, runF, slOf, setAt, tyIs, isNon, seqV, Nat.blt, mulOk2, b_is_integer, isInt]
theorem is_within_ok {k : Nat} {d : D} {lo hi : Int} : G (k + 2) i_is_within [.pu d, .pu (.int lo), .pu (.int hi)] = some (.pu (.bool (inRg lo hi d)), []) := by
  rw [one (fn := ⟨3, 3, b_is_within⟩) rfl]
  have h := is_integer_ok (k := k) (d := d)
  cases d <;> simp only [isInt] at h <;> simp [evSs, evS, evE, evA, evP, evO, evD, evI, asgT, asgTs, rdp, rds, rdsAll, frzd, frzE, thaw, callO, arsOf, arOf, iosOf, distinct, backOut, rvO, pick, bltV, cmpV, eqii, eqbb, eqstr, binV, negV, ixt, ixl, at0, at1, at2, at3, at4, at5, ix20, ix21, lk0, lk1, lk2, lk3, lk4, lk5, lk6, putv, slotOf, finF, rvOf, outsOf, runF, slOf, setAt, tyIs, isNon, seqV, Nat.blt, mulOk2, b_is_within, inRg, h]
  rename_i i
  by_cases q : lo ≤ i <;> simp [evSs, evS, evE, evA, evP, evO, evD, evI, asgT, asgTs, rdp, rds, rdsAll, frzd, frzE, thaw, callO, arsOf, arOf, iosOf, distinct, backOut, rvO, pick, bltV, cmpV, eqii, eqbb, eqstr, binV, negV, ixt, ixl, at0, at1, at2, at3, at4, at5, ix20, ix21, lk0, lk1, lk2, lk3, lk4, lk5, lk6, putv, slotOf, finF, rvOf, outsOf, runF, slOf, setAt, tyIs, isNon, seqV, Nat.blt, mulOk2, q]
def isTup (n : Int) : D → Bool
  | .tuple xs => decide ((xs.length : Int) = n)
  | _ => false
theorem is_tuple_ok {k : Nat} {d : D} {n : Int} : G (k + 1) i_is_tuple [.pu d, .pu (.int n)] = some (.pu (.bool (isTup n d)), []) := by
  rw [one (fn := ⟨2, 2, b_is_tuple⟩) rfl]
  cases d <;> simp [evSs, evS, evE, evA, evP, evO, evD, evI, asgT, asgTs, rdp, rds, rdsAll, frzd, frzE, thaw, callO, arsOf, arOf, iosOf, distinct, backOut, rvO, pick, bltV, cmpV, eqii, eqbb, eqstr, binV, negV, ixt, ixl, at0, at1, at2, at3, at4, at5, ix20, ix21, lk0, lk1, lk2, lk3, lk4, lk5, lk6, putv, slotOf, finF, rvOf, outsOf, runF, slOf, setAt, tyIs, isNon, seqV, Nat.blt, mulOk2, b_is_tuple, isTup]
def isLst : D → Bool
  | .list _ => true
  | .tuple _ => true
  | _ => false
theorem is_list_ok {k : Nat} {d : D} : G (k + 1) i_is_list [.pu d] = some (.pu (.bool (isLst d)), []) := by
  rw [one (fn := ⟨1, 1, b_is_list⟩) rfl]
  cases d <;> simp [evSs, evS, evE, evA, evP, evO, evD, evI, asgT, asgTs, rdp, rds, rdsAll, frzd, frzE, thaw, callO, arsOf, arOf, iosOf, distinct, backOut, rvO, pick, bltV, cmpV, eqii, eqbb, eqstr, binV, negV, ixt, ixl, at0, at1, at2, at3, at4, at5, ix20, ix21, lk0, lk1, lk2, lk3, lk4, lk5, lk6, putv, slotOf, finF, rvOf, outsOf, runF, slOf, setAt, tyIs, isNon, seqV, Nat.blt, mulOk2, b_is_list, isLst]
/-! ### drawing -/
def Pot (p0 p1 : Int) : Prop := 0 ≤ p0 ∧ 0 ≤ p1 ∧ p1 < 2147483600
theorem sm {i : Int} (h0 : 0 ≤ i) (h1 : i < 18446744073709551616) : small64 i = true := by
  unfold small64 Nat.blt
  exact Nat.ble_eq_true_of_le (by omega)
theorem draw_ok {k : Nat} {p0 p1 m : Int} (h : Pot p0 p1) (h1 : 0 < m) (h2 : m < 1073741824) : ∃ d q0 q1, G (k + 1) i__law_draw [.io [.int p0, .int p1], .pu (.int m)] = some (.pu (.int d), [[.int q0, .int q1]]) ∧ Pot q0 q1 ∧ 0 ≤ d ∧ d < m := by
  obtain ⟨a0, a1, a2⟩ := h
  by_cases hp : 0 < p0
  · refine ⟨p0 % m, p0 / m, p1, ?_, ⟨Int.ediv_nonneg a0 (by omega), a1, a2⟩, Int.emod_nonneg _ (by omega), Int.emod_lt_of_pos _ h1⟩
    rw [one (fn := ⟨2, 3, b__law_draw⟩) rfl]
    generalize G k = FF
    simp [evSs, evS, evE, evA, evP, evO, evD, evI, asgT, asgTs, rdp, rds, rdsAll, frzd, frzE, thaw, callO, arsOf, arOf, iosOf, distinct, backOut, rvO, pick, bltV, cmpV, eqii, eqbb, eqstr, binV, negV, ixt, ixl, at0, at1, at2, at3, at4, at5, ix20, ix21, lk0, lk1, lk2, lk3, lk4, lk5, lk6, putv, slotOf, finF, rvOf, outsOf, runF, slOf, setAt, tyIs, isNon, seqV, Nat.blt, mulOk2, b__law_draw, hp, h1, h2]
  · have s1 : mulOk p1 39373 = true := by unfold mulOk; rw [sm a1 (by omega)]; rfl
    have n0 : 0 ≤ (p1 * 39373 + 641) % 2147483587 := Int.emod_nonneg _ (by decide)
    have n1 : (p1 * 39373 + 641) % 2147483587 < 2147483587 := Int.emod_lt_of_pos _ (by decide)
    generalize hq : (p1 * 39373 + 641) % 2147483587 = q at n0 n1
    have s2 : mulOk q q = true := by unfold mulOk; rw [sm n0 (by omega)]; rfl
    refine ⟨(q * q % 2147483563 / 19) % m, p0, q, ?_, ⟨a0, n0, by omega⟩, Int.emod_nonneg _ (by omega), Int.emod_lt_of_pos _ h1⟩
    rw [one (fn := ⟨2, 3, b__law_draw⟩) rfl]
    generalize G k = FF
    simp [evSs, evS, evE, evA, evP, evO, evD, evI, asgT, asgTs, rdp, rds, rdsAll, frzd, frzE, thaw, callO, arsOf, arOf, iosOf, distinct, backOut, rvO, pick, bltV, cmpV, eqii, eqbb, eqstr, binV, negV, ixt, ixl, at0, at1, at2, at3, at4, at5, ix20, ix21, lk0, lk1, lk2, lk3, lk4, lk5, lk6, putv, slotOf, finF, rvOf, outsOf, runF, slOf, setAt, tyIs, isNon, seqV, Nat.blt, mulOk2, b__law_draw, hp, h1, h2, s1, s2, hq, show Nat.log2 19 ≤ 8999 by decide +kernel]
theorem atI_in {α : Type} {xs : List α} {d : Int} (h0 : 0 ≤ d) (h1 : d < xs.length) : ∃ x, L2.atI xs d = some x ∧ x ∈ xs := by
  have hl : d.toNat < xs.length := by omega
  refine ⟨xs[d.toNat], ?_, List.getElem_mem _⟩
  unfold L2.atI L2.ixN
  rw [if_pos h0, if_pos (by exact_mod_cast h1)]
  simp [hl]
theorem pick_ok {k : Nat} {p0 p1 : Int} {xs : List D} (h : Pot p0 p1) (h1 : 0 < xs.length) (h2 : xs.length < 1000) : ∃ x q0 q1, G (k + 2) i__law_pick [.io [.int p0, .int p1], .pu (.list xs)] = some (.pu x, [[.int q0, .int q1]]) ∧ Pot q0 q1 ∧ x ∈ xs := by
  obtain ⟨d, q0, q1, e, hp, d0, d1⟩ := draw_ok (k := k) (m := (xs.length : Int)) h (by omega) (by omega)
  obtain ⟨x, hx, hm⟩ := atI_in d0 d1
  refine ⟨x, q0, q1, ?_, hp, hm⟩
  rw [one (fn := ⟨2, 2, b__law_pick⟩) rfl]
  (first | (change G (k + 1) _ _ = _ at e) | skip); generalize G (k + 1) = FF at e ⊢
  simp [evSs, evS, evE, evA, evP, evO, evD, evI, asgT, asgTs, rdp, rds, rdsAll, frzd, frzE, thaw, callO, arsOf, arOf, iosOf, distinct, backOut, rvO, pick, bltV, cmpV, eqii, eqbb, eqstr, binV, negV, ixt, ixl, at0, at1, at2, at3, at4, at5, ix20, ix21, lk0, lk1, lk2, lk3, lk4, lk5, lk6, putv, slotOf, finF, rvOf, outsOf, runF, slOf, setAt, tyIs, isNon, seqV, Nat.blt, mulOk2, b__law_pick, e, hx]
/-- a list mixed -/
theorem eq_nilT {α : Type} (enc : α → D) (l : List α) (h : SeqAt.shaped (.list (l.map enc)) = true) : eqD (.list (l.map enc)) (.list []) = some (decide (l = [])) := by
  rw [eq_nilL h]
  simp
theorem ixN_ok {n : Nat} {d : Int} (h0 : 0 ≤ d) (h1 : d < n) : L2.ixN n d = some d.toNat := by
  unfold L2.ixN
  rw [if_pos h0, if_pos (by exact_mod_cast h1)]
theorem er_map {α β : Type} (f : α → β) : ∀ (l : List α) (i : Nat), (l.map f).eraseIdx i = (l.eraseIdx i).map f
  | [], _ => rfl
  | _ :: _, 0 => rfl
  | a :: l, i + 1 => by simp [er_map f l i]
theorem er_perm {α : Type} : ∀ (l : List α) (i : Nat) (h : i < l.length), ([l[i]] ++ l.eraseIdx i).Perm l
  | [], _, h => by simp at h
  | a :: l, 0, _ => by simp
  | a :: l, i + 1, h => by
    have ih := er_perm l i (by simpa using h)
    simp only [List.eraseIdx_cons_succ, List.getElem_cons_succ]
    exact (List.Perm.swap a _ _).trans (List.Perm.cons a ih)
theorem mixed_ok {α : Type} (enc : α → D) (hs : ∀ l : List α, SeqAt.shaped (.list (l.map enc)) = true) {k : Nat} {p0 p1 : Int} {xs : List α} (h : Pot p0 p1) (h2 : xs.length < 1000) :
    ∃ (ys : List α) (q0 q1 : Int), G (k + 2) i__law_mixed [.io [.int p0, .int p1], .pu (.list (xs.map enc))] = some (.fr (ys.map enc), [[.int q0, .int q1]]) ∧ Pot q0 q1 ∧ ys.Perm xs := by
  obtain ⟨fl, h1, q0, q1, f, rfl, r1, r2⟩ := whE (F := G (k + 1)) (C := C0) (c := .cmp .ne (.var 2) (.lst (.nil))) (b := l__law_mixed_1) (env := [.own 1 [.int p0, .int p1], .val (.list (xs.map enc)), .own 0 (xs.map enc), .own 0 []])
    (fun m e => ∃ (q0 q1 : Int) (l f : List α), e = [.own 1 [.int q0, .int q1], .val (.list (xs.map enc)), .own 0 (l.map enc), .own 0 (f.map enc)] ∧ Pot q0 q1 ∧ (f ++ l).Perm xs ∧ l.length ≤ m ∧ f.length + l.length < 1000)
    (fun fl => ∃ (q0 q1 : Int) (f : List α), fl = .nx [.own 1 [.int q0, .int q1], .val (.list (xs.map enc)), .own 0 [], .own 0 (f.map enc)] ∧ Pot q0 q1 ∧ f.Perm xs)
    1000 (by decide) ⟨p0, p1, xs, [], rfl, h, by simp, by omega, by simpa using h2⟩
    (fun m e ⟨q0, q1, l, f, z1, z2, z3, z4, z5⟩ => by
      subst z1
      refine ⟨!decide (l = []), _, by simp [evSs, evS, evE, evA, evP, evO, evD, evI, asgT, asgTs, rdp, rds, rdsAll, frzd, frzE, thaw, callO, arsOf, arOf, iosOf, distinct, backOut, rvO, pick, bltV, cmpV, eqii, eqbb, eqstr, binV, negV, ixt, ixl, at0, at1, at2, at3, at4, at5, ix20, ix21, lk0, lk1, lk2, lk3, lk4, lk5, lk6, putv, slotOf, finF, rvOf, outsOf, runF, slOf, setAt, tyIs, isNon, seqV, Nat.blt, mulOk2, eq_nilT enc l (hs l)]; rfl, fun q => ?_, fun q => ?_⟩
      · have e : l = [] := by simpa using q
        subst e
        exact ⟨q0, q1, f, rfl, z2, by simpa using z3⟩
      · have ne : l ≠ [] := by simpa using q
        have lp : 0 < l.length := List.length_pos_iff.mpr ne
        obtain ⟨d, r0, r1, e, hp, d0, d1⟩ := draw_ok (k := k) (m := (l.length : Int)) z2 (by omega) (by omega)
        have dl : d.toNat < l.length := by omega
        have x1 : L2.ixN l.length d = some d.toNat := ixN_ok d0 d1
        have x2 : (l.map enc)[d.toNat]? = some (enc l[d.toNat]) := by simp [dl]
        have b1 : f.length ≤ 16777215 := by omega
        have b2 : -9223372036854775808 ≤ d := by omega
        have b3 : d < 9223372036854775808 := by omega
        refine ⟨.nx [.own 1 [.int r0, .int r1], .val (.list (xs.map enc)), .own 0 ((l.eraseIdx d.toNat).map enc), .own 0 ((f ++ [l[d.toNat]]).map enc)], ?_, m - 1, by omega, r0, r1, l.eraseIdx d.toNat, f ++ [l[d.toNat]], rfl, hp, ?_, ?_, ?_⟩
        · have ee : (l.map enc).eraseIdx d.toNat = (l.eraseIdx d.toNat).map enc := er_map enc l d.toNat
          (first | (change G (k + 1) _ _ = _ at e) | skip); generalize G (k + 1) = FF at e ⊢
          simp [evSs, evS, evE, evA, evP, evO, evD, evI, asgT, asgTs, rdp, rds, rdsAll, frzd, frzE, thaw, callO, arsOf, arOf, iosOf, distinct, backOut, rvO, pick, bltV, cmpV, eqii, eqbb, eqstr, binV, negV, ixt, ixl, at0, at1, at2, at3, at4, at5, ix20, ix21, lk0, lk1, lk2, lk3, lk4, lk5, lk6, putv, slotOf, finF, rvOf, outsOf, runF, slOf, setAt, tyIs, isNon, seqV, Nat.blt, mulOk2, l__law_mixed_1, e, mthV, b1, b2, b3, x1, dl, ee]
        · refine List.Perm.trans ?_ z3
          rw [List.append_assoc]
          refine List.Perm.append_left f ?_
          exact er_perm l d.toNat dl
        · rw [List.length_eraseIdx_of_lt dl]; omega
        · rw [List.length_eraseIdx_of_lt dl]; simp; omega)
  refine ⟨f, q0, q1, ?_, r1, r2⟩
  have hw : evS (G (k + 1)) C0 s__law_mixed_2 [.own 1 [.int p0, .int p1], .val (.list (xs.map enc)), .own 0 (xs.map enc), .own 0 []] = some (.nx [.own 1 [.int q0, .int q1], .val (.list (xs.map enc)), .own 0 [], .own 0 (f.map enc)]) := h1
  rw [one (fn := ⟨2, 4, b__law_mixed⟩) rfl]
  have h3 : lenOk xs.length = true := lenOk_of (by omega)
  simp [evSs, evS, evE, evA, evP, evO, evD, evI, asgT, asgTs, rdp, rds, rdsAll, frzd, frzE, thaw, callO, arsOf, arOf, iosOf, distinct, backOut, rvO, pick, bltV, cmpV, eqii, eqbb, eqstr, binV, negV, ixt, ixl, at0, at1, at2, at3, at4, at5, ix20, ix21, lk0, lk1, lk2, lk3, lk4, lk5, lk6, putv, slotOf, finF, rvOf, outsOf, runF, slOf, setAt, tyIs, isNon, seqV, Nat.blt, mulOk2, b__law_mixed, hw]
end K84

set_option Elab.async false
set_option linter.all false
set_option maxRecDepth 100000
set_option maxHeartbeats 4000000
namespace K84
open PySem Rf
/-! ### turns, as the package and the law make them -/
section
variable {k n : Nat} {a b : Tn}
theorem turns_of1 (F : FT) : chkFr (runF F C0 ⟨1, n_turns_of.length, b_turns_of⟩ [.pu (.int 1)]) (TT 1) = true := by kernel_rfl
theorem turns_of2 (F : FT) : chkFr (runF F C0 ⟨1, n_turns_of.length, b_turns_of⟩ [.pu (.int 2)]) (TT 2) = true := by kernel_rfl
theorem turns_of3 (F : FT) : chkFr (runF F C0 ⟨1, n_turns_of.length, b_turns_of⟩ [.pu (.int 3)]) (TT 3) = true := by kernel_rfl
theorem turns_of_ok (h1 : 1 ≤ n) (h3 : n ≤ 3) : G (k + 1) i_turns_of [.pu (.int n)] = some (.fr ((TT n).map tnD), []) := by
  rw [one (fn := ⟨1, n_turns_of.length, b_turns_of⟩) rfl]
  rcases n13 h1 h3 with rfl | rfl | rfl
  · exact chkFr_ok (turns_of1 _)
  · exact chkFr_ok (turns_of2 _)
  · exact chkFr_ok (turns_of3 _)
theorem lturns1 (F : FT) : chkFr (runF F C0 ⟨1, n__law_turns.length, b__law_turns⟩ [.pu (.int 1)]) (TT 1) = true := by kernel_rfl
theorem lturns2 (F : FT) : chkFr (runF F C0 ⟨1, n__law_turns.length, b__law_turns⟩ [.pu (.int 2)]) (TT 2) = true := by kernel_rfl
theorem lturns3 (F : FT) : chkFr (runF F C0 ⟨1, n__law_turns.length, b__law_turns⟩ [.pu (.int 3)]) (TT 3) = true := by kernel_rfl
theorem lturns_ok (h1 : 1 ≤ n) (h3 : n ≤ 3) : G (k + 1) i__law_turns [.pu (.int n)] = some (.fr ((TT n).map tnD), []) := by
  rw [one (fn := ⟨1, n__law_turns.length, b__law_turns⟩) rfl]
  rcases n13 h1 h3 with rfl | rfl | rfl
  · exact chkFr_ok (lturns1 _)
  · exact chkFr_ok (lturns2 _)
  · exact chkFr_ok (lturns3 _)
theorem same1 (F : FT) : chkPu (runF F C0 ⟨1, n_same_turn.length, b_same_turn⟩ [.pu (.int 1)]) (idT 1) = true := by kernel_rfl
theorem same2 (F : FT) : chkPu (runF F C0 ⟨1, n_same_turn.length, b_same_turn⟩ [.pu (.int 2)]) (idT 2) = true := by kernel_rfl
theorem same3 (F : FT) : chkPu (runF F C0 ⟨1, n_same_turn.length, b_same_turn⟩ [.pu (.int 3)]) (idT 3) = true := by kernel_rfl
theorem same_turn_ok (h1 : 1 ≤ n) (h3 : n ≤ 3) : G (k + 1) i_same_turn [.pu (.int n)] = some (.pu (tnD (idT n)), []) := by
  rw [one (fn := ⟨1, n_same_turn.length, b_same_turn⟩) rfl]
  rcases n13 h1 h3 with rfl | rfl | rfl
  · exact chkPu_ok (same1 _)
  · exact chkPu_ok (same2 _)
  · exact chkPu_ok (same3 _)
theorem lsame1 (F : FT) : chkPu (runF F C0 ⟨1, n__law_same.length, b__law_same⟩ [.pu (.int 1)]) (idT 1) = true := by kernel_rfl
theorem lsame2 (F : FT) : chkPu (runF F C0 ⟨1, n__law_same.length, b__law_same⟩ [.pu (.int 2)]) (idT 2) = true := by kernel_rfl
theorem lsame3 (F : FT) : chkPu (runF F C0 ⟨1, n__law_same.length, b__law_same⟩ [.pu (.int 3)]) (idT 3) = true := by kernel_rfl
theorem lsame_ok (h1 : 1 ≤ n) (h3 : n ≤ 3) : G (k + 1) i__law_same [.pu (.int n)] = some (.pu (tnD (idT n)), []) := by
  rw [one (fn := ⟨1, n__law_same.length, b__law_same⟩) rfl]
  rcases n13 h1 h3 with rfl | rfl | rfl
  · exact chkPu_ok (lsame1 _)
  · exact chkPu_ok (lsame2 _)
  · exact chkPu_ok (lsame3 _)
/-- one behind another -/
theorem behind_of_ok (h1 : 1 ≤ n) (h3 : n ≤ 3) (ha : a ∈ TT n) (hb : b ∈ TT n) : G (k + 1) i_behind_of [.pu (tnD a), .pu (tnD b)] = some (.pu (tnD (mulT a b)), []) := by
  obtain ⟨la, pa, _⟩ := okT_of (TT_ok h1 h3 ha)
  obtain ⟨lb, pb, _⟩ := okT_of (TT_ok h1 h3 hb)
  rw [one (fn := ⟨2, 4, b_behind_of⟩) rfl]
  generalize G k = F
  have c := lcA (F := F) (C := C0) (elt := .tup (.cons (.idx (.idx (.var 1) (.var 2)) (.cst (.int 0))) (.cons (.bin .mul (.var 3) (.idx (.idx (.var 1) (.var 2)) (.cst (.int 1)))) (.nil)))) (tg := .tp (.cons (.nm 2) (.cons (.nm 3) (.nil)))) (it := .it (.var 0)) (own := [2, 3])
    (env := [.val (tnD a), .val (tnD b), .emp, .emp]) (e2 := [.val (tnD a), .val (tnD b), .emp, .emp]) pD a (fun p => pD ((gx b p.1).1, p.2 * (gx b p.1).2)) (fun p => [.val (tnD a), .val (tnD b), .val (.int p.1), .val (.int p.2)])
    (by simp [evSs, evS, evE, evA, evP, evO, evD, evI, asgT, asgTs, rdp, rds, rdsAll, frzd, frzE, thaw, callO, arsOf, arOf, iosOf, distinct, backOut, rvO, pick, bltV, cmpV, eqii, eqbb, eqstr, binV, negV, ixt, ixl, at0, at1, at2, at3, at4, at5, ix20, ix21, lk0, lk1, lk2, lk3, lk4, lk5, lk6, putv, slotOf, finF, rvOf, outsOf, runF, slOf, setAt, tyIs, isNon, seqV, Nat.blt, mulOk2, tnD]) rfl (by simp [backE, wipeE, valOnly]) (by omega) (fun p hp => by simp [evSs, evS, evE, evA, evP, evO, evD, evI, asgT, asgTs, rdp, rds, rdsAll, frzd, frzE, thaw, callO, arsOf, arOf, iosOf, distinct, backOut, rvO, pick, bltV, cmpV, eqii, eqbb, eqstr, binV, negV, ixt, ixl, at0, at1, at2, at3, at4, at5, ix20, ix21, lk0, lk1, lk2, lk3, lk4, lk5, lk6, putv, slotOf, finF, rvOf, outsOf, runF, slOf, setAt, tyIs, isNon, seqV, Nat.blt, mulOk2, wipeE, pD]) (fun p hp => by simp [wipeE]) (fun p hp => by
      obtain ⟨p0, p1, p2⟩ := pa p hp
      have g := gx_at (b := b) p0 (by omega)
      have m : mulOk p.2 (gx b p.1).2 = true := by rcases p2 with e | e <;> rw [e] <;> rfl
      refine ⟨_, by simp [evSs, evS, evE, evA, evP, evO, evD, evI, asgT, asgTs, rdp, rds, rdsAll, frzd, frzE, thaw, callO, arsOf, arOf, iosOf, distinct, backOut, rvO, pick, bltV, cmpV, eqii, eqbb, eqstr, binV, negV, ixt, ixl, at0, at1, at2, at3, at4, at5, ix20, ix21, lk0, lk1, lk2, lk3, lk4, lk5, lk6, putv, slotOf, finF, rvOf, outsOf, runF, slOf, setAt, tyIs, isNon, seqV, Nat.blt, mulOk2, tnD, g, pD, m]; rfl, by simp [frzd, pD]⟩)
  have c' : evE F C0 e_behind_of_1 [.val (tnD a), .val (tnD b), .emp, .emp] = some (.fr ((mulT a b).map pD), [.val (tnD a), .val (tnD b), .emp, .emp]) := by
    rw [mulT, List.map_map]; exact c
  simp [evSs, evS, evE, evA, evP, evO, evD, evI, asgT, asgTs, rdp, rds, rdsAll, frzd, frzE, thaw, callO, arsOf, arOf, iosOf, distinct, backOut, rvO, pick, bltV, cmpV, eqii, eqbb, eqstr, binV, negV, ixt, ixl, at0, at1, at2, at3, at4, at5, ix20, ix21, lk0, lk1, lk2, lk3, lk4, lk5, lk6, putv, slotOf, finF, rvOf, outsOf, runF, slOf, setAt, tyIs, isNon, seqV, Nat.blt, mulOk2, b_behind_of, c']
  rfl
end
end K84

set_option Elab.async false
set_option linter.all false
set_option maxRecDepth 100000
set_option maxHeartbeats 4000000
namespace K84
open PySem Rf
section
variable {k n : Nat} {a b : Tn}
theorem undone1 (F : FT) : ((TT 1).all fun t => chkPu (runF F C0 ⟨1, n_undone_of.length, b_undone_of⟩ [.pu (tnD t)]) (invT t)) = true := by kernel_rfl
theorem undone2 (F : FT) : ((TT 2).all fun t => chkPu (runF F C0 ⟨1, n_undone_of.length, b_undone_of⟩ [.pu (tnD t)]) (invT t)) = true := by kernel_rfl
theorem undone3 (F : FT) : ((TT 3).all fun t => chkPu (runF F C0 ⟨1, n_undone_of.length, b_undone_of⟩ [.pu (tnD t)]) (invT t)) = true := by kernel_rfl
theorem undone_of_ok (h1 : 1 ≤ n) (h3 : n ≤ 3) (ha : a ∈ TT n) : G (k + 1) i_undone_of [.pu (tnD a)] = some (.pu (tnD (invT a)), []) := by
  rw [one (fn := ⟨1, n_undone_of.length, b_undone_of⟩) rfl]
  rcases n13 h1 h3 with rfl | rfl | rfl
  · exact chkPu_ok (List.all_eq_true.mp (undone1 _) a ha)
  · exact chkPu_ok (List.all_eq_true.mp (undone2 _) a ha)
  · exact chkPu_ok (List.all_eq_true.mp (undone3 _) a ha)
theorem isturn1 (k : Nat) : ((TT 1).all fun t => chkB (callN C0 fns (k + 3) i_is_turn_of [.pu (.int 1), .pu (tnD t)]) true) = true := by kernel_rfl
theorem isturn2 (k : Nat) : ((TT 2).all fun t => chkB (callN C0 fns (k + 3) i_is_turn_of [.pu (.int 2), .pu (tnD t)]) true) = true := by kernel_rfl
theorem isturn3 (k : Nat) : ((TT 3).all fun t => chkB (callN C0 fns (k + 3) i_is_turn_of [.pu (.int 3), .pu (tnD t)]) true) = true := by kernel_rfl
theorem is_turn_ok (h1 : 1 ≤ n) (h3 : n ≤ 3) (ha : a ∈ TT n) : G (k + 3) i_is_turn_of [.pu (.int n), .pu (tnD a)] = some (.pu (.bool true), []) := by
  unfold G
  rcases n13 h1 h3 with rfl | rfl | rfl
  · exact chkB_ok (List.all_eq_true.mp (isturn1 k) a ha)
  · exact chkB_ok (List.all_eq_true.mp (isturn2 k) a ha)
  · exact chkB_ok (List.all_eq_true.mp (isturn3 k) a ha)
/-! ### the law's own -/
def ltn (t v : Tn) : Tn := t.map fun p => (p.2 * (gx v p.1).1, (gx v p.1).2)
theorem lturned_ok {t v : Tn} (ht : ∀ p ∈ t, 0 ≤ p.1 ∧ p.1 < (v.length : Int) ∧ (p.2 = 1 ∨ p.2 = -1)) (hz : t.length ≤ 1000) : G (k + 1) i__law_turned [.pu (tnD t), .pu (tnD v)] = some (.pu (tnD (ltn t v)), []) := by
  rw [one (fn := ⟨2, 5, b__law_turned⟩) rfl]
  generalize G k = F
  obtain ⟨e2, q1, s3, s4, rfl⟩ := foI (F := F) (C := C0) (t := .tp (.cons (.nm 3) (.cons (.nm 4) (.nil)))) (it := .it (.var 0)) (b := l__law_turned_1) (env := [.val (tnD t), .val (tnD v), .own 0 [], .emp, .emp]) (e1 := [.val (tnD t), .val (tnD v), .own 0 [], .emp, .emp]) pD t
    (fun d e => ∃ s3 s4, e = [.val (tnD t), .val (tnD v), .own 0 ((ltn d v).map pD), s3, s4]) rfl (by simp [evSs, evS, evE, evA, evP, evO, evD, evI, asgT, asgTs, rdp, rds, rdsAll, frzd, frzE, thaw, callO, arsOf, arOf, iosOf, distinct, backOut, rvO, pick, bltV, cmpV, eqii, eqbb, eqstr, binV, negV, ixt, ixl, at0, at1, at2, at3, at4, at5, ix20, ix21, lk0, lk1, lk2, lk3, lk4, lk5, lk6, putv, slotOf, finF, rvOf, outsOf, runF, slOf, setAt, tyIs, isNon, seqV, Nat.blt, mulOk2, tnD]) ⟨_, _, rfl⟩ (fun d p r e hd ⟨s3, s4, he⟩ => by
      subst he
      obtain ⟨p0, p1, p2⟩ := ht p (by rw [hd]; simp)
      have g := gx_at (b := v) p0 p1
      have m : mulOk p.2 (gx v p.1).1 = true := by rcases p2 with e | e <;> rw [e] <;> rfl
      have bl : d.length ≤ 16777215 := by rw [hd] at hz; simp at hz; omega
      have bl' : (ltn d v).length ≤ 16777215 := by simpa [ltn] using bl
      refine ⟨_, [.val (tnD t), .val (tnD v), .own 0 ((ltn (d ++ [p]) v).map pD), .val (.int p.1), .val (.int p.2)], by simp [evSs, evS, evE, evA, evP, evO, evD, evI, asgT, asgTs, rdp, rds, rdsAll, frzd, frzE, thaw, callO, arsOf, arOf, iosOf, distinct, backOut, rvO, pick, bltV, cmpV, eqii, eqbb, eqstr, binV, negV, ixt, ixl, at0, at1, at2, at3, at4, at5, ix20, ix21, lk0, lk1, lk2, lk3, lk4, lk5, lk6, putv, slotOf, finF, rvOf, outsOf, runF, slOf, setAt, tyIs, isNon, seqV, Nat.blt, mulOk2, pD]; rfl, .inl ?_, _, _, rfl⟩
      have g' : idxV (tnD v) (.int p.1) = some (pD (gx v p.1)) := by unfold tnD; rw [ixt]; exact g
      have ee : (ltn (d ++ [p]) v).map pD = (ltn d v).map pD ++ [pD (p.2 * (gx v p.1).1, (gx v p.1).2)] := by simp [ltn]
      rw [ee]
      generalize ltn d v = dd at bl' ⊢
      simp [evSs, evS, evE, evA, evP, evO, evD, evI, asgT, asgTs, rdp, rds, rdsAll, frzd, frzE, thaw, callO, arsOf, arOf, iosOf, distinct, backOut, rvO, pick, bltV, cmpV, eqii, eqbb, eqstr, binV, negV, ixt, ixl, at0, at1, at2, at3, at4, at5, ix20, ix21, lk0, lk1, lk2, lk3, lk4, lk5, lk6, putv, slotOf, finF, rvOf, outsOf, runF, slOf, setAt, tyIs, isNon, seqV, Nat.blt, mulOk2, l__law_turned_1, g', pD, m, mthV, bl'])
  have hs : evS F C0 s__law_turned_2 [.val (tnD t), .val (tnD v), .own 0 [], .emp, .emp] = some (.nx [.val (tnD t), .val (tnD v), .own 0 ((ltn t v).map pD), s3, s4]) := q1
  simp [evSs, evS, evE, evA, evP, evO, evD, evI, asgT, asgTs, rdp, rds, rdsAll, frzd, frzE, thaw, callO, arsOf, arOf, iosOf, distinct, backOut, rvO, pick, bltV, cmpV, eqii, eqbb, eqstr, binV, negV, ixt, ixl, at0, at1, at2, at3, at4, at5, ix20, ix21, lk0, lk1, lk2, lk3, lk4, lk5, lk6, putv, slotOf, finF, rvOf, outsOf, runF, slOf, setAt, tyIs, isNon, seqV, Nat.blt, mulOk2, b__law_turned, hs]
  rfl
theorem ltn_len (t v : Tn) : (ltn t v).length = t.length := by simp [ltn]
def vec0 (n : Nat) : Tn := (List.range n).map fun i : Nat => ((i : Int) + 1, 1)
theorem gx_vec0 {n : Nat} {i : Int} (h0 : 0 ≤ i) (h1 : i < n) : gx (vec0 n) i = (i + 1, 1) := by
  have hl : i.toNat < n := by omega
  simp only [gx, vec0, List.getElem?_map, List.getElem?_range hl, Option.map_some, Option.getD_some]
  rw [Int.toNat_of_nonneg h0]
theorem sgn_mul {x y : Int} (hx : x = 1 ∨ x = -1) (hy : y = 1 ∨ y = -1) {z : Int} (hz : 0 ≤ z) : (if x * (y * (z + 1)) < 0 then -(x * (y * (z + 1))) else x * (y * (z + 1))) - 1 = z ∧ (if x * (y * (z + 1)) > 0 then (1 : Int) else -1) = x * y := by
  rcases hx with rfl | rfl <;> rcases hy with rfl | rfl
  all_goals refine ⟨?_, ?_⟩ <;> split <;> omega
theorem lb_c1 (F : FT) (la : a.length = n) (hn : n ≤ 3) : evE F C0 e__law_behind_2 [.val (tnD a), .val (tnD b), .emp, .emp, .emp, .emp] = some (.fr ((vec0 n).map pD), [.val (tnD a), .val (tnD b), .emp, .emp, .emp, .emp]) := by
  have hr : rngV (.int 0) (.int (n : Int)) = some ((iot n).map .int) := by
    have := rng_iot (n := (n : Int)) (by omega) (by omega)
    simpa using this
  have c1 := lcA (F := F) (C := C0) (elt := .tup (.cons (.bin .add (.var 5) (.cst (.int 1))) (.cons (.cst (.int 1)) (.nil)))) (tg := .nm 5) (it := .rng (.cst (.int 0)) (.blt .len (.cons (.var 0) (.nil)))) (own := [5])
    (env := [.val (tnD a), .val (tnD b), .emp, .emp, .emp, .emp]) (e2 := [.val (tnD a), .val (tnD b), .emp, .emp, .emp, .emp]) PyData.int (iot n) (fun i => pD (i + 1, 1)) (fun i => [.val (tnD a), .val (tnD b), .emp, .emp, .emp, .val (.int i)])
    (by simp [evSs, evS, evE, evA, evP, evO, evD, evI, asgT, asgTs, rdp, rds, rdsAll, frzd, frzE, thaw, callO, arsOf, arOf, iosOf, distinct, backOut, rvO, pick, bltV, cmpV, eqii, eqbb, eqstr, binV, negV, ixt, ixl, at0, at1, at2, at3, at4, at5, ix20, ix21, lk0, lk1, lk2, lk3, lk4, lk5, lk6, putv, slotOf, finF, rvOf, outsOf, runF, slOf, setAt, tyIs, isNon, seqV, Nat.blt, mulOk2, tnD, la, hr]) rfl (by simp [backE, wipeE, valOnly]) (by rw [iot_len]; omega) (fun i hi => by simp [evSs, evS, evE, evA, evP, evO, evD, evI, asgT, asgTs, rdp, rds, rdsAll, frzd, frzE, thaw, callO, arsOf, arOf, iosOf, distinct, backOut, rvO, pick, bltV, cmpV, eqii, eqbb, eqstr, binV, negV, ixt, ixl, at0, at1, at2, at3, at4, at5, ix20, ix21, lk0, lk1, lk2, lk3, lk4, lk5, lk6, putv, slotOf, finF, rvOf, outsOf, runF, slOf, setAt, tyIs, isNon, seqV, Nat.blt, mulOk2, wipeE]) (fun i hi => by simp [wipeE]) (fun i hi => ⟨_, by simp [evSs, evS, evE, evA, evP, evO, evD, evI, asgT, asgTs, rdp, rds, rdsAll, frzd, frzE, thaw, callO, arsOf, arOf, iosOf, distinct, backOut, rvO, pick, bltV, cmpV, eqii, eqbb, eqstr, binV, negV, ixt, ixl, at0, at1, at2, at3, at4, at5, ix20, ix21, lk0, lk1, lk2, lk3, lk4, lk5, lk6, putv, slotOf, finF, rvOf, outsOf, runF, slOf, setAt, tyIs, isNon, seqV, Nat.blt, mulOk2]; rfl, by simp [frzd, pD]⟩)
  have e1 : (iot n).map (fun i => pD (i + 1, 1)) = (vec0 n).map pD := by simp [iot, vec0, List.map_map, Function.comp_def]
  rw [e1] at c1
  exact c1
theorem lb_c2 (F : FT) {c : Tn} (hc : c.length ≤ 1000) : evE F C0 e__law_behind_1 [.val (tnD a), .val (tnD b), .val (tnD c), .emp, .emp, .emp] = some (.fr (c.map fun p => pD ((if p.1 < 0 then -p.1 else p.1) - 1, if p.1 > 0 then 1 else -1)), [.val (tnD a), .val (tnD b), .val (tnD c), .emp, .emp, .emp]) :=
  lcA (F := F) (C := C0) (elt := .tup (.cons (.bin .sub (.blt .abs (.cons (.var 3) (.nil))) (.cst (.int 1))) (.cons (.ite (.cmp .gt (.var 3) (.cst (.int 0))) (.cst (.int 1)) (.neg (.cst (.int 1)))) (.nil)))) (tg := .tp (.cons (.nm 3) (.cons (.nm 4) (.nil)))) (it := .it (.var 2)) (own := [3, 4])
    (env := [.val (tnD a), .val (tnD b), .val (tnD c), .emp, .emp, .emp]) (e2 := [.val (tnD a), .val (tnD b), .val (tnD c), .emp, .emp, .emp]) pD c
    (fun p => pD ((if p.1 < 0 then -p.1 else p.1) - 1, if p.1 > 0 then 1 else -1)) (fun p => [.val (tnD a), .val (tnD b), .val (tnD c), .val (.int p.1), .val (.int p.2), .emp])
    (by simp [evSs, evS, evE, evA, evP, evO, evD, evI, asgT, asgTs, rdp, rds, rdsAll, frzd, frzE, thaw, callO, arsOf, arOf, iosOf, distinct, backOut, rvO, pick, bltV, cmpV, eqii, eqbb, eqstr, binV, negV, ixt, ixl, at0, at1, at2, at3, at4, at5, ix20, ix21, lk0, lk1, lk2, lk3, lk4, lk5, lk6, putv, slotOf, finF, rvOf, outsOf, runF, slOf, setAt, tyIs, isNon, seqV, Nat.blt, mulOk2, tnD]) rfl (by simp [backE, wipeE, valOnly]) (by omega) (fun p hp => by simp [evSs, evS, evE, evA, evP, evO, evD, evI, asgT, asgTs, rdp, rds, rdsAll, frzd, frzE, thaw, callO, arsOf, arOf, iosOf, distinct, backOut, rvO, pick, bltV, cmpV, eqii, eqbb, eqstr, binV, negV, ixt, ixl, at0, at1, at2, at3, at4, at5, ix20, ix21, lk0, lk1, lk2, lk3, lk4, lk5, lk6, putv, slotOf, finF, rvOf, outsOf, runF, slOf, setAt, tyIs, isNon, seqV, Nat.blt, mulOk2, wipeE, pD]) (fun p hp => by simp [wipeE]) (fun p hp => by
      by_cases q : 0 < p.1
      · exact ⟨_, by simp [evSs, evS, evE, evA, evP, evO, evD, evI, asgT, asgTs, rdp, rds, rdsAll, frzd, frzE, thaw, callO, arsOf, arOf, iosOf, distinct, backOut, rvO, pick, bltV, cmpV, eqii, eqbb, eqstr, binV, negV, ixt, ixl, at0, at1, at2, at3, at4, at5, ix20, ix21, lk0, lk1, lk2, lk3, lk4, lk5, lk6, putv, slotOf, finF, rvOf, outsOf, runF, slOf, setAt, tyIs, isNon, seqV, Nat.blt, mulOk2, q]; rfl, by simp [frzd, pD, q]⟩
      · exact ⟨_, by simp [evSs, evS, evE, evA, evP, evO, evD, evI, asgT, asgTs, rdp, rds, rdsAll, frzd, frzE, thaw, callO, arsOf, arOf, iosOf, distinct, backOut, rvO, pick, bltV, cmpV, eqii, eqbb, eqstr, binV, negV, ixt, ixl, at0, at1, at2, at3, at4, at5, ix20, ix21, lk0, lk1, lk2, lk3, lk4, lk5, lk6, putv, slotOf, finF, rvOf, outsOf, runF, slOf, setAt, tyIs, isNon, seqV, Nat.blt, mulOk2, q]; rfl, by simp [frzd, pD, q]⟩)
theorem lb_map (h1 : 1 ≤ n) (h3 : n ≤ 3) (ha : a ∈ TT n) (hb : b ∈ TT n) : (ltn a (ltn b (vec0 n))).map (fun p => pD ((if p.1 < 0 then -p.1 else p.1) - 1, if p.1 > 0 then 1 else -1)) = (mulT a b).map pD := by
  obtain ⟨la, pa, _⟩ := okT_of (TT_ok h1 h3 ha)
  obtain ⟨lb, pb, _⟩ := okT_of (TT_ok h1 h3 hb)
  unfold mulT
  rw [show ltn a (ltn b (vec0 n)) = a.map fun p => (p.2 * (gx (ltn b (vec0 n)) p.1).1, (gx (ltn b (vec0 n)) p.1).2) from rfl, List.map_map, List.map_map]
  refine List.map_congr_left fun p hp => ?_
  obtain ⟨p0, p1, p2⟩ := pa p hp
  have hl : p.1.toNat < b.length := by omega
  have hq := pb _ (List.getElem_mem hl)
  have g1 : gx b p.1 = b[p.1.toNat] := by simp [gx, hl]
  have g2 : gx (ltn b (vec0 n)) p.1 = (b[p.1.toNat].2 * (b[p.1.toNat].1 + 1), 1) := by
    have := gx_vec0 (n := n) hq.1 hq.2.1
    have e : gx (ltn b (vec0 n)) p.1 = (b[p.1.toNat].2 * (gx (vec0 n) b[p.1.toNat].1).1, (gx (vec0 n) b[p.1.toNat].1).2) := by
      rw [gx, ltn, List.getElem?_map, List.getElem?_eq_getElem hl]; rfl
    rw [e, this]
  obtain ⟨z1, z2⟩ := sgn_mul p2 hq.2.2 hq.1
  simp only [Function.comp, g1, g2, z1, z2]
theorem lb_run (F : FT) {c d e : Tn} (c1 : evE F C0 e__law_behind_2 [.val (tnD a), .val (tnD b), .emp, .emp, .emp, .emp] = some (.fr (c.map pD), [.val (tnD a), .val (tnD b), .emp, .emp, .emp, .emp])) (t1 : F 0 [.pu (tnD b), .pu (tnD c)] = some (.pu (tnD d), [])) (t2 : F 0 [.pu (tnD a), .pu (tnD d)] = some (.pu (tnD e), []))
    {r : Tn} (c2 : evE F C0 e__law_behind_1 [.val (tnD a), .val (tnD b), .val (tnD e), .emp, .emp, .emp] = some (.fr (r.map pD), [.val (tnD a), .val (tnD b), .val (tnD e), .emp, .emp, .emp])) : runF F C0 ⟨2, 6, b__law_behind⟩ [.pu (tnD a), .pu (tnD b)] = some (.pu (tnD r), []) :=
  runP (as := [tnD a, tnD b]) rfl rfl ((ssC (sAsg (xC2 (rv := .pu (tnD e)) (xVar rfl) (xC2 (rv := .pu (tnD d)) (xVar rfl) (xTup1 c1) t1) t2) rfl rfl)).trans (ssRet (xTup1 c2)))
theorem lbehind_ok (h1 : 1 ≤ n) (h3 : n ≤ 3) (ha : a ∈ TT n) (hb : b ∈ TT n) : G (k + 2) i__law_behind [.pu (tnD a), .pu (tnD b)] = some (.pu (tnD (mulT a b)), []) := by
  obtain ⟨la, pa, _⟩ := okT_of (TT_ok h1 h3 ha)
  obtain ⟨lb, pb, _⟩ := okT_of (TT_ok h1 h3 hb)
  have lv : (vec0 n).length = n := by simp [vec0]
  have t1 := lturned_ok (k := k) (t := b) (v := vec0 n) (fun p hp => by rw [lv]; exact pb p hp) (by omega)
  have l1 : (ltn b (vec0 n)).length = n := by rw [ltn_len, lb]
  have t2 := lturned_ok (k := k) (t := a) (v := ltn b (vec0 n)) (fun p hp => by rw [l1]; exact pa p hp) (by omega)
  rw [one (fn := ⟨2, 6, b__law_behind⟩) rfl]
  have c2 := lb_c2 (a := a) (b := b) (G (k + 1)) (c := ltn a (ltn b (vec0 n))) (by rw [ltn_len]; omega)
  rw [lb_map h1 h3 ha hb] at c2
  exact lb_run _ (lb_c1 _ la h3) t1 t2 c2
theorem lu_body (F : FT) {x m i : Tn} (S : F 6 [.pu (.int (n : Int))] = some (.pu (tnD i), [])) (la : a.length = n) (bx : F 1 [.pu (tnD x), .pu (tnD a)] = some (.pu (tnD m), [])) : evSs F C0 l__law_undone_1 [.val (tnD a), .val (tnD x)] = some (if m = i then .rt (.pu (tnD x)) [.val (tnD a), .val (tnD x)] else .nx [.val (tnD a), .val (tnD x)]) := by
  have ln : bltV .len [tnD a] = some (.pu (.int (n : Int))) := by simp [tnD, bltV, la]
  have eq := eq_tD m i
  have t : evE F C0 (.cmp .eq (.call 1 (.cons (.var 1) (.cons (.var 0) (.nil)))) (.call 6 (.cons (.blt .len (.cons (.var 0) (.nil))) (.nil)))) [.val (tnD a), .val (tnD x)] = some (.pu (.bool (decide (m = i))), [.val (tnD a), .val (tnD x)]) :=
    xCmp (xC2 (rv := .pu (tnD m)) (xVar rfl) (xVar rfl) bx) (xC1 (rv := .pu (tnD i)) (xB1 (xVar rfl) ln) S) eq
  unfold l__law_undone_1
  by_cases h : m = i
  · rw [decide_eq_true h] at t
    rw [if_pos h]
    exact ssT t (ssRet (xVar rfl))
  · rw [decide_eq_false h] at t
    rw [if_neg h, ssF t, ssN]
theorem lundone_ok (h1 : 1 ≤ n) (h3 : n ≤ 3) (ha : a ∈ TT n) : G (k + 3) i__law_undone [.pu (tnD a)] = some (.pu (tnD (invT a)), []) := by
  obtain ⟨la, pa, _⟩ := okT_of (TT_ok h1 h3 ha)
  rw [one (fn := ⟨1, 2, b__law_undone⟩) rfl]
  have T := lturns_ok (k := k + 1) h1 h3
  have S := lsame_ok (k := k + 1) h1 h3
  have B : ∀ x ∈ TT n, G (k + 2) 1 [.pu (tnD x), .pu (tnD a)] = some (.pu (tnD (mulT x a)), []) := fun x hx => lbehind_ok h1 h3 hx ha
  generalize G (k + 2) = F at T S B ⊢
  obtain ⟨fl, q1, q2⟩ := foQ (F := F) (C := C0) (t := .nm 1) (it := .it (.call 5 (.cons (.blt .len (.cons (.var 0) (.nil))) (.nil)))) (b := l__law_undone_1) (env := [.val (tnD a), .emp]) (e1 := [.val (tnD a), .emp]) tnD (TT n)
    (fun d e => ∃ s, e = [.val (tnD a), s] ∧ ∀ x ∈ d, mulT x a ≠ idT n) (fun fl => ∃ s, fl = .rt (.pu (tnD (invT a))) [.val (tnD a), s]) rfl (by
      have ln : bltV .len [tnD a] = some (.pu (.int (n : Int))) := by simp [tnD, bltV, la]
      exact iFr (xC1 (C := C0) (rv := .fr ((TT n).map tnD)) (xB1 (a := .var 0) (env := [.val (tnD a), .emp]) (xVar rfl) ln) T)) ⟨_, rfl, by simp⟩ (fun d x r e hd ⟨s, he, hn⟩ => by
      subst he
      have hx : x ∈ TT n := by rw [hd]; simp
      refine ⟨[.val (tnD a), .val (tnD x)], _, by simp [evSs, evS, evE, evA, evP, evO, evD, evI, asgT, asgTs, rdp, rds, rdsAll, frzd, frzE, thaw, callO, arsOf, arOf, iosOf, distinct, backOut, rvO, pick, bltV, cmpV, eqii, eqbb, eqstr, binV, negV, ixt, ixl, at0, at1, at2, at3, at4, at5, ix20, ix21, lk0, lk1, lk2, lk3, lk4, lk5, lk6, putv, slotOf, finF, rvOf, outsOf, runF, slOf, setAt, tyIs, isNon, seqV, Nat.blt, mulOk2], lu_body F S la (B x hx), ?_⟩
      by_cases h : mulT x a = idT n
      · rw [if_pos h]
        exact ⟨_, by rw [inv_only h1 h3 hx ha h]⟩
      · rw [if_neg h]
        refine ⟨_, rfl, fun y hy => ?_⟩
        rcases List.mem_append.mp hy with hy | hy
        · exact hn y hy
        · simp at hy; subst hy; exact h) (fun e ⟨s, he, hn⟩ => by
      obtain ⟨i1, i2, i3, _⟩ := TT_iv h1 h3 ha
      exact absurd i3 (hn _ i1))
  obtain ⟨s, rfl⟩ := q2
  have hs : evS F C0 s__law_undone_2 [.val (tnD a), .emp] = some (.rt (.pu (tnD (invT a))) [.val (tnD a), s]) := q1
  exact runP (as := [tnD a]) rfl rfl (ssR hs)
end
end K84

set_option Elab.async false
set_option linter.all false
set_option maxRecDepth 100000
set_option maxHeartbeats 4000000
namespace K84
open PySem Rf
section
variable {k n : Nat} {S : D} {ls : List Leg} {lot : List Int} {st s : Int}
theorem all_legs_ok (N : Net S n ls) : G (k + 1) i_all_legs [.pu S] = some (.pu (.tuple ((iot ls.length).map .int)), []) := by
  rw [one (fn := ⟨1, 1, b_all_legs⟩) rfl]
  have hl := N.ln
  have r := rng_iot (n := (ls.length : Int)) (by omega) (by omega)
  rw [Int.toNat_natCast] at r
  have le : evE (G k) C0 (.blt .len (.cons (.idx (.var 0) (.cst (.int 3))) (.nil))) [.val S] = some (.pu (.int (ls.length : Int)), [.val S]) := by
    have := xLenT (F := G k) (C := C0) (xIdx (xVar (i := 0) (env := [.val S]) rfl) xCst N.s3)
    simpa using this
  exact runP (as := [S]) rfl rfl (ssRet (trgE xCst le r (lenOk_of (by rw [List.length_map, iot_len]; omega))))
theorem far_end_ok {d : D} {e : Int × Int} (h1 : idxV d (.int 1) = some (.int e.1)) (h2 : idxV d (.int 2) = some (.int e.2)) : G (k + 1) i_far_end [.pu d, .pu (.int st)] = some (.pu (.int (farE e st)), []) := by
  rw [one (fn := ⟨2, 2, b_far_end⟩) rfl]
  have c := xCmp (F := G k) (C := C0) (op := .eq) (xIdx (xVar (i := 0) (env := [.val d, .val (.int st)]) rfl) xCst h1) (xVar (i := 1) rfl) (eqii e.1 st)
  unfold farE
  by_cases h : e.1 = st
  · rw [decide_eq_true h] at c
    rw [if_pos h]
    exact runP (as := [d, .int st]) rfl rfl (ssRet (xIteT c (xIdx (xVar rfl) xCst h2)))
  · rw [decide_eq_false h] at c
    rw [if_neg h]
    exact runP (as := [d, .int st]) rfl rfl (ssRet (xIteF c (xIdx (xVar rfl) xCst h1)))
theorem legs_at_ok (N : Net S n ls) : G (k + 1) i_legs_at [.pu S, .pu (.int st)] = some (.fr ((legsAt st ls).map .int), []) := by
  rw [one (fn := ⟨2, 4, b_legs_at⟩) rfl]
  have hz := N.ln
  have c := lcT (F := G k) (C := C0) (elt := .var 2) (tg := .tp (.cons (.nm 2) (.cons (.nm 3) (.nil)))) (it := .enu (.idx (.var 0) (.cst (.int 3)))) (cd := .som (.cmp .mem (.var 1) (.slc (.var 3) (.som (.cst (.int 1))) (.som (.cst (.int 3)))))) (own := [2, 3])
    (env := [.val S, .val (.int st), .emp, .emp]) (e0 := [.val S, .val (.int st), .emp, .emp]) (e2 := [.val S, .val (.int st), .emp, .emp]) (fun p : Leg × Nat => .tuple [.int p.2, p.1.1]) ls.zipIdx (fun p => decide (st = p.1.2.1 ∨ st = p.1.2.2)) (fun p => .int p.2) (fun p => [.val S, .val (.int st), .val (.int p.2), .val p.1.1])
    (by
      have h := xEnu (xIdx (F := G k) (C := C0) (xVar (i := 0) (env := [.val S, .val (.int st), .emp, .emp]) rfl) xCst N.s3) rfl rfl
      rw [enu_map (fun p : Leg => p.1) ls 0] at h
      exact h)
    rfl (by simp [backE, wipeE, valOnly]) (by simp; omega) (fun p hp => by simp [evSs, evS, evE, evA, evP, evO, evD, evI, asgT, asgTs, rdp, rds, rdsAll, frzd, frzE, thaw, callO, arsOf, arOf, iosOf, distinct, backOut, rvO, pick, bltV, cmpV, eqii, eqbb, eqstr, binV, negV, ixt, ixl, at0, at1, at2, at3, at4, at5, ix20, ix21, lk0, lk1, lk2, lk3, lk4, lk5, lk6, putv, slotOf, finF, rvOf, outsOf, runF, slOf, setAt, tyIs, isNon, seqV, Nat.blt, mulOk2, wipeE]) (fun p hp => by simp [wipeE]) (fun p hp => by
      obtain ⟨q1, q2, q3⟩ := N.lg p.1 (List.fst_mem_of_mem_zipIdx hp)
      exact dSom (xCmp (xVar rfl) (slcE (xVar rfl) oCst oCst q3) (mem_t2 st p.1.2.1 p.1.2.2)))
    (fun p hp _ => ⟨_, xVar rfl, rfl⟩)
  have e : (ls.zipIdx.filter fun p => decide (st = p.1.2.1 ∨ st = p.1.2.2)).map (fun p => PyData.int p.2) = (legsAt st ls).map .int := by simp [legsAt, List.map_map, Function.comp_def]
  rw [e] at c
  exact runFr (as := [S, .int st]) rfl rfl (ssRet c)
theorem sense_ok (N : Net S n ls) {a : Int} {p : Leg} (h0 : 0 ≤ a) (hp : ls[a.toNat]? = some p) : G (k + 1) i_sense_from [.pu S, .pu (.int a), .pu (.int st)] = some (.pu (.int (if p.2.1 = st then 1 else -1)), []) := by
  have hl : a < ls.length := by have := (List.getElem?_eq_some_iff.mp hp).1; omega
  obtain ⟨p', hp', hat⟩ := at_map (fun p : Leg => p.1) h0 hl
  rw [hp] at hp'; cases hp'
  obtain ⟨q1, q2, q3⟩ := N.lg p (List.mem_of_getElem? hp)
  rw [one (fn := ⟨3, 3, b_sense_from⟩) rfl]
  have c := xCmp (F := G k) (C := C0) (op := .eq) (xIdx (xIdx (xIdx (xVar (i := 0) (env := [.val S, .val (.int a), .val (.int st)]) rfl) xCst N.s3) (xVar (i := 1) rfl) hat) xCst q1) (xVar (i := 2) rfl) (eqii p.2.1 st)
  by_cases h : p.2.1 = st
  · rw [decide_eq_true h] at c
    rw [if_pos h]
    exact runP (as := [S, .int a, .int st]) rfl rfl (ssRet (xIteT c xCst))
  · rw [decide_eq_false h] at c
    rw [if_neg h]
    exact runP (as := [S, .int a, .int st]) rfl rfl (ssRet (xIteF c xNeg1))
end
/-! ### what is reached -/
section
variable {k n : Nat} {S : D} {ls : List Leg} {lot : List Int} {s : Int}
def rEnv (S : D) (s : Int) (lot f l : List Int) (b5 b6 b7 : Sl) : Ev := [.val S, .val (.int s), .val (.tuple (lot.map .int)), .own 0 (f.map .int), .own 0 (l.map .int), b5, b6, b7]
theorem rb_body (F : FT) {f l : List Int} {here a : Int} {p : Leg} {b7 : Sl} (N : Net S n ls) (h0 : 0 ≤ a) (hp : ls[a.toNat]? = some p) (hf : F i_far_end [.pu p.1, .pu (.int here)] = some (.pu (.int (farE p.2 here)), [])) (z1 : f.length < 16777216) (z2 : l.length < 16777216) :
    evSs F C0 l_reached_by_1 (rEnv S s lot f l (.val (.int here)) (.val (.int a)) b7) = some (.nx (if a ∈ lot ∧ farE p.2 here ∉ f then rEnv S s lot (f ++ [farE p.2 here]) (l ++ [farE p.2 here]) (.val (.int here)) (.val (.int a)) (.val (.int (farE p.2 here))) else rEnv S s lot f l (.val (.int here)) (.val (.int a)) (.val (.int (farE p.2 here))))) := by
  have hl : a < ls.length := by have := (List.getElem?_eq_some_iff.mp hp).1; omega
  obtain ⟨p', hp', hat⟩ := at_map (fun p : Leg => p.1) h0 hl
  rw [hp] at hp'; cases hp'
  generalize farE p.2 here = th at hf ⊢
  have s1 : evS F C0 (.asg (.nm 7) (.call i_far_end (.cons (.idx (.idx (.var 0) (.cst (.int 3))) (.var 6)) (.cons (.var 5) (.nil))))) (rEnv S s lot f l (.val (.int here)) (.val (.int a)) b7) = some (.nx (rEnv S s lot f l (.val (.int here)) (.val (.int a)) (.val (.int th)))) :=
    sAsg (xC2 (rv := .pu (.int th)) (xIdx (xIdx (xVar rfl) xCst N.s3) (xVar rfl) hat) (xVar rfl) hf) rfl rfl
  have m1 := mem_ti a lot
  have m2 : cmpV .nmem (.int th) (.list (f.map .int)) = some (!decide (th ∈ f)) := by
    show (memD (.int th) (.list (f.map .int))).map not = _
    rw [mem_li]; rfl
  unfold l_reached_by_1
  rw [ssC s1]
  have c1 : evE F C0 (.cmp .mem (.var 6) (.var 2)) (rEnv S s lot f l (.val (.int here)) (.val (.int a)) (.val (.int th))) = some (.pu (.bool (decide (a ∈ lot))), _) := xCmp (xVar rfl) (xVar rfl) m1
  have c2 : evE F C0 (.cmp .nmem (.var 7) (.var 3)) (rEnv S s lot f l (.val (.int here)) (.val (.int a)) (.val (.int th))) = some (.pu (.bool (!decide (th ∈ f))), _) := xCmpR (xVar rfl) (xOwn rfl) rfl rfl m2
  by_cases q1 : a ∈ lot
  · rw [decide_eq_true q1] at c1
    by_cases q2 : th ∈ f
    · rw [decide_eq_true q2] at c2
      rw [if_neg (fun z => z.2 q2), ssF (xAndT c1 c2), ssN]
    · rw [decide_eq_false q2] at c2
      rw [if_pos ⟨q1, q2⟩, evSs, sIfT (xAndT c1 c2)]
      have b1 : f.length ≤ 16777215 := by omega
      have b2 : l.length ≤ 16777215 := by omega
      simp [evSs, evS, evE, evA, evP, evO, evD, evI, asgT, asgTs, rdp, rds, rdsAll, frzd, frzE, thaw, callO, arsOf, arOf, iosOf, distinct, backOut, rvO, pick, bltV, cmpV, eqii, eqbb, eqstr, binV, negV, ixt, ixl, at0, at1, at2, at3, at4, at5, ix20, ix21, lk0, lk1, lk2, lk3, lk4, lk5, lk6, putv, slotOf, finF, rvOf, outsOf, runF, slOf, setAt, tyIs, isNon, seqV, Nat.blt, mulOk2, rEnv, mthV, b1, b2]
  · rw [decide_eq_false q1] at c1
    rw [if_neg (fun z => q1 z.1), ssF (xAndF c1), ssN]
theorem rb_for (N : Net S n ls) (hl : ∀ a ∈ lot, 0 ≤ a ∧ a < ls.length) {here : Int} {f0 l0 : List Int} {a6 a7 : Sl} (hi : RInv (esL ls) n s lot f0 l0 (· = here)) (hh : here ∈ f0) (hlen : l0.length ≤ f0.length) :
    ∃ f l b6 b7, evS (G (k + 1)) C0 s_reached_by_2 (rEnv S s lot f0 l0 (.val (.int here)) a6 a7) = some (.nx (rEnv S s lot f l (.val (.int here)) b6 b7)) ∧ RInv (esL ls) n s lot f l (fun _ => False) ∧ l.length + 2 * f0.length ≤ l0.length + 2 * f.length ∧ l.length ≤ f.length := by
  obtain ⟨e2, h1, f, l, b6, b7, rfl, h2, h3, h4, h5, h6⟩ := foI (F := G (k + 1)) (C := C0) (t := .nm 6) (it := .it (.call i_legs_at (.cons (.var 0) (.cons (.var 5) (.nil))))) (b := l_reached_by_1) (env := rEnv S s lot f0 l0 (.val (.int here)) a6 a7) (e1 := rEnv S s lot f0 l0 (.val (.int here)) a6 a7) PyData.int (legsAt here ls)
    (fun d e => ∃ (f l : List Int) (b6 b7 : Sl), e = rEnv S s lot f l (.val (.int here)) b6 b7 ∧ RInv (esL ls) n s lot f l (· = here) ∧ here ∈ f ∧ (∀ a ∈ d, a ∈ lot → ∀ y, Jn (esL ls) a here y → y ∈ f) ∧ l.length + 2 * f0.length ≤ l0.length + 2 * f.length ∧ l.length ≤ f.length)
    rfl (iFr (xC2 (rv := .fr _) (xVar rfl) (xVar rfl) (legs_at_ok N))) ⟨f0, l0, a6, a7, rfl, hi, hh, by simp, by omega, hlen⟩
    (fun d a r e hd ⟨f, l, b6, b7, q1, q2, q3, q4, q5, q6⟩ => by
      subst q1
      have ha : a ∈ legsAt here ls := by rw [hd]; simp
      obtain ⟨h0, p, hp, hs⟩ := mem_legsAt.mp ha
      obtain ⟨g1, g2, g3⟩ := N.lg p (List.mem_of_getElem? hp)
      obtain ⟨j1, j2⟩ := jn_far (ls := ls) h0 hp hs
      have fl := q2.len
      have nn := N.nn
      have bd := rb_body (G (k + 1)) (s := s) (lot := lot) (f := f) (l := l) (here := here) (b7 := b7) N h0 hp (far_end_ok g1 g2) (by omega) (by omega)
      refine ⟨rEnv S s lot f l (.val (.int here)) (.val (.int a)) b7, _, rfl, .inl bd, ?_⟩
      by_cases c : a ∈ lot ∧ farE p.2 here ∉ f
      · rw [if_pos c]
        refine ⟨_, _, _, _, rfl, q2.add q3 c.1 j1 (N.jn_rg j1) c.2, List.mem_append_left _ q3, fun b hb hbl y hj => ?_, by simp; omega, by simp; omega⟩
        rcases List.mem_append.mp hb with hb | hb
        · exact List.mem_append_left _ (q4 b hb hbl y hj)
        · simp at hb; subst hb
          rw [j2 y hj]; simp
      · rw [if_neg c]
        refine ⟨_, _, _, _, rfl, q2, q3, fun b hb hbl y hj => ?_, q5, q6⟩
        rcases List.mem_append.mp hb with hb | hb
        · exact q4 b hb hbl y hj
        · simp at hb; subst hb
          rw [j2 y hj]
          exact Classical.byContradiction fun z => c ⟨hbl, z⟩)
  refine ⟨f, l, b6, b7, h1, ⟨h2.nd, h2.rg, h2.rc, h2.st, h2.sb, fun x hx hxl _ a y ha hj => ?_⟩, h5, h6⟩
  by_cases hxh : x = here
  · subst hxh; exact h4 a (jn_at hj) ha y hj
  · exact h2.cl x hx hxl hxh a y ha hj
theorem reached_by_ok (N : Net S n ls) (hl : ∀ a ∈ lot, 0 ≤ a ∧ a < ls.length) (hs : s ∈ iot n) : G (k + 2) i_reached_by [.pu S, .pu (.int s), .pu (.tuple (lot.map .int))] = some (.fr ((cmpN (esL ls) n lot s).map .int), []) := by
  obtain ⟨fl, h1, f, b5, b6, b7, rfl, h2⟩ := whE (F := G (k + 1)) (C := C0) (c := .cmp .ne (.var 4) (.lst (.nil))) (b := l_reached_by_3) (env := rEnv S s lot [s] [s] .emp .emp .emp)
    (fun m e => ∃ (f l : List Int) (b5 b6 b7 : Sl), e = rEnv S s lot f l b5 b6 b7 ∧ RInv (esL ls) n s lot f l (fun _ => False) ∧ l.length ≤ f.length ∧ l.length + 2 * 1000 ≤ m + 2 * f.length)
    (fun fl => ∃ (f : List Int) (b5 b6 b7 : Sl), fl = .nx (rEnv S s lot f [] b5 b6 b7) ∧ RInv (esL ls) n s lot f [] (fun _ => False))
    2000 (by decide) ⟨[s], [s], _, _, _, rfl, ⟨by simp, by simpa using hs, by simp; exact .refl, by simp, by simp, by simp⟩, by simp, by simp⟩
    (fun m e ⟨f, l, b5, b6, b7, q1, q2, q3, q4⟩ => by
      subst q1
      refine ⟨!decide (l = []), rEnv S s lot f l b5 b6 b7, by simp [evSs, evS, evE, evA, evP, evO, evD, evI, asgT, asgTs, rdp, rds, rdsAll, frzd, frzE, thaw, callO, arsOf, arOf, iosOf, distinct, backOut, rvO, pick, bltV, cmpV, eqii, eqbb, eqstr, binV, negV, ixt, ixl, at0, at1, at2, at3, at4, at5, ix20, ix21, lk0, lk1, lk2, lk3, lk4, lk5, lk6, putv, slotOf, finF, rvOf, outsOf, runF, slOf, setAt, tyIs, isNon, seqV, Nat.blt, mulOk2, rEnv, eq_nilI], fun hk => ?_, fun hk => ?_⟩
      · have : l = [] := by simpa using hk
        subst this
        exact ⟨f, b5, b6, b7, rfl, q2⟩
      · have ne : l ≠ [] := by simpa using hk
        obtain ⟨l', here, rfl⟩ : ∃ l' x, l = l' ++ [x] := ⟨l.dropLast, l.getLast ne, (List.dropLast_concat_getLast ne).symm⟩
        have hh : here ∈ f := q2.sb here (by simp)
        obtain ⟨f', l2, c6, c7, r1, r2, r3, r4⟩ := rb_for (k := k) (a6 := b6) (a7 := b7) N hl (f0 := f) (l0 := l') (here := here) ⟨q2.nd, q2.rg, q2.rc, q2.st, fun x hx => q2.sb x (List.mem_append_left _ hx), fun x hx hxl hxh => q2.cl x hx (fun z => by
          rcases List.mem_append.mp z with z | z
          · exact hxl z
          · simp at z; exact hxh z) id⟩ hh (by simp at q3; omega)
        have fl := r2.len
        have nn := N.nn
        refine ⟨.nx (rEnv S s lot f' l2 (.val (.int here)) c6 c7), ?_, m - 1, ?_, f', l2, .val (.int here), c6, c7, rfl, r2, r4, ?_⟩
        · have s1 : evS (G (k + 1)) C0 (.asg (.nm 5) (.mth .pop0 4 (.nil))) (rEnv S s lot f (l' ++ [here]) b5 b6 b7) = some (.nx (rEnv S s lot f l' (.val (.int here)) b6 b7)) := by
            simp [evSs, evS, evE, evA, evP, evO, evD, evI, asgT, asgTs, rdp, rds, rdsAll, frzd, frzE, thaw, callO, arsOf, arOf, iosOf, distinct, backOut, rvO, pick, bltV, cmpV, eqii, eqbb, eqstr, binV, negV, ixt, ixl, at0, at1, at2, at3, at4, at5, ix20, ix21, lk0, lk1, lk2, lk3, lk4, lk5, lk6, putv, slotOf, finF, rvOf, outsOf, runF, slOf, setAt, tyIs, isNon, seqV, Nat.blt, mulOk2, rEnv, mthV]
          unfold l_reached_by_3
          rw [ssC s1, ssC r1, ssN]
        · have := q2.len; simp at q4; omega
        · simp at q4; omega)
  have hw : evS (G (k + 1)) C0 s_reached_by_4 (rEnv S s lot [s] [s] .emp .emp .emp) = some (.nx (rEnv S s lot f [] b5 b6 b7)) := h1
  rw [one (fn := ⟨3, 8, b_reached_by⟩) rfl]
  have s1 : evS (G (k + 1)) C0 (.par2 3 4 true true (.lst (.cons (.var 1) (.nil))) (.lst (.cons (.var 1) (.nil)))) [.val S, .val (.int s), .val (.tuple (lot.map .int)), .emp, .emp, .emp, .emp, .emp] = some (.nx (rEnv S s lot [s] [s] .emp .emp .emp)) := by
    simp [evSs, evS, evE, evA, evP, evO, evD, evI, asgT, asgTs, rdp, rds, rdsAll, frzd, frzE, thaw, callO, arsOf, arOf, iosOf, distinct, backOut, rvO, pick, bltV, cmpV, eqii, eqbb, eqstr, binV, negV, ixt, ixl, at0, at1, at2, at3, at4, at5, ix20, ix21, lk0, lk1, lk2, lk3, lk4, lk5, lk6, putv, slotOf, finF, rvOf, outsOf, runF, slOf, setAt, tyIs, isNon, seqV, Nat.blt, mulOk2, rEnv]
  have sv := sortV_i f
  rw [cmpN_of h2] at sv
  have v : bltV .sorted1 [.list (f.map .int)] = some (.fr ((cmpN (esL ls) n lot s).map .int)) := by
    show (sortV (f.map .int)).map _ = _
    rw [sv]; rfl
  have r : evE (G (k + 1)) C0 (.blt .sorted1 (.cons (.var 3) (.nil))) (rEnv S s lot f [] b5 b6 b7) = some (.fr ((cmpN (esL ls) n lot s).map .int), rEnv S s lot f [] b5 b6 b7) := by
    rw [evE, evA, xOwn (t := 0) (xs := f.map .int) rfl]
    dsimp only
    rw [evA]
    show Option.map _ (bltV .sorted1 [.list (f.map .int)]) = _
    rw [v]; rfl
  exact runFr (as := [S, .int s, .tuple (lot.map .int)]) rfl rfl (((ssC s1).trans (ssC hw)).trans (ssRet r))
/-! ### pieces -/
def pD1 (p : List Int) : D := .list (p.map .int)
theorem pb_any (F : FT) {ps : List (List Int)} {c : Int} {b4 : Sl} (hb : b4 = .emp ∨ ∃ d, b4 = .val d) (hz : ps.length ≤ 1000) :
    ∃ b4', evE F C0 (.nt (.blt .any1 (.cons (e_pieces_by_1) (.nil)))) [.val S, .val (.tuple (lot.map .int)), .own 0 (ps.map pD1), .val (.int c), b4] = some (.pu (.bool (!ps.any fun p => decide (c ∈ p))), [.val S, .val (.tuple (lot.map .int)), .own 0 (ps.map pD1), .val (.int c), b4']) ∧ (b4' = .emp ∨ ∃ d, b4' = .val d) := by
  have L := lc_typed (st := fun d e => asgT F C0 (.nm 4) d e) (ts := fun e => evD F C0 .non e) (el := fun e => frzE (evE F C0 (.cmp .mem (.var 3) (.var 4)) e)) (own := [4]) (e := [.val S, .val (.tuple (lot.map .int)), .val (.list (ps.map pD1)), .val (.int c), .emp]) pD1 (fun _ => true) (fun p => .bool (decide (c ∈ p))) ps fun p hp =>
    ⟨[.val S, .val (.tuple (lot.map .int)), .val (.list (ps.map pD1)), .val (.int c), .val (pD1 p)], by simp [evSs, evS, evE, evA, evP, evO, evD, evI, asgT, asgTs, rdp, rds, rdsAll, frzd, frzE, thaw, callO, arsOf, arOf, iosOf, distinct, backOut, rvO, pick, bltV, cmpV, eqii, eqbb, eqstr, binV, negV, ixt, ixl, at0, at1, at2, at3, at4, at5, ix20, ix21, lk0, lk1, lk2, lk3, lk4, lk5, lk6, putv, slotOf, finF, rvOf, outsOf, runF, slOf, setAt, tyIs, isNon, seqV, Nat.blt, mulOk2], by rw [evD], by simp [wipeE], fun _ => by
      have m := mem_li c p
      have x : evE F C0 (.cmp .mem (.var 3) (.var 4)) [.val S, .val (.tuple (lot.map .int)), .val (.list (ps.map pD1)), .val (.int c), .val (pD1 p)] = some (.pu (.bool (decide (c ∈ p))), [.val S, .val (.tuple (lot.map .int)), .val (.list (ps.map pD1)), .val (.int c), .val (pD1 p)]) := xCmp (xVar rfl) (xVar rfl) m
      rw [x]; rfl⟩
  rw [List.filter_eq_self.mpr (by simp)] at L
  have sc : ∀ l : List (List Int), scls (l.map fun p => PyData.bool (decide (c ∈ p))) = true := by
    intro l
    induction l with
    | nil => rfl
    | cons a l ih => simp [scls, scl, ih]
  have lk : lenOk (ps.map fun p => PyData.bool (decide (c ∈ p))).length = true := lenOk_of (by simp; omega)
  have x : evE F C0 e_pieces_by_1 [.val S, .val (.tuple (lot.map .int)), .own 0 (ps.map pD1), .val (.int c), b4] = some (.fr (ps.map fun p => .bool (decide (c ∈ p))), [.val S, .val (.tuple (lot.map .int)), .own 0 (ps.map pD1), .val (.int c), valOnly (some b4)]) := by
    unfold e_pieces_by_1
    rw [evE]
    show lwV _ _ (lcLoop _ _ _ _ (ps.map pD1) (wipeE (mskE [.val S, .val (.tuple (lot.map .int)), .own 0 (ps.map pD1), .val (.int c), b4] 2 (ps.map pD1)) [4])) = _
    have e : wipeE (mskE [.val S, .val (.tuple (lot.map .int)), .own 0 (ps.map pD1), .val (.int c), b4] 2 (ps.map pD1)) [4] = [.val S, .val (.tuple (lot.map .int)), .val (.list (ps.map pD1)), .val (.int c), .emp] := by
      simp [wipeE, mskE, mskS]
    rw [e, L]
    simp only [lwV, lk, sc, Bool.and_self, if_true]
    simp [backE]
  refine ⟨valOnly (some b4), xNot (tAny x), ?_⟩
  rcases hb with rfl | ⟨d, rfl⟩
  · exact .inl rfl
  · exact .inr ⟨d, rfl⟩
theorem pieces_by_ok (N : Net S n ls) (hl : ∀ a ∈ lot, 0 ≤ a ∧ a < ls.length) : G (k + 3) i_pieces_by [.pu S, .pu (.tuple (lot.map .int))] = some (.fr ((pcsN (esL ls) n lot n).map pD1), []) := by
  have nn := N.nn
  have hr : rngV (.int 0) (.int (n : Int)) = some ((iot n).map .int) := by
    have := rng_iot (n := (n : Int)) (by omega) (by omega)
    simpa using this
  have hrg : ∀ s ∈ iot n, ∀ t, Rch (esL ls) (· ∈ lot) s t → t ∈ iot n := fun s hs t h => by
    induction h with
    | refl => exact hs
    | step _ _ hj _ => exact N.jn_rg hj
  have plen : ∀ m : Nat, (pcsN (esL ls) n lot m).length ≤ m := fun m => by
    unfold pcsN
    rw [List.length_map]
    refine Nat.le_trans (List.length_filter_le _ _) ?_
    rw [iot_len]
    exact Nat.le_refl _
  obtain ⟨e2, h1, b3, b4, rfl, _⟩ := foI (F := G (k + 2)) (C := C0) (t := .nm 3) (it := .rng (.cst (.int 0)) (.idx (.var 0) (.cst (.int 2)))) (b := l_pieces_by_2) (env := [.val S, .val (.tuple (lot.map .int)), .own 0 [], .emp, .emp]) (e1 := [.val S, .val (.tuple (lot.map .int)), .own 0 [], .emp, .emp]) PyData.int (iot n)
    (fun d e => ∃ (b3 b4 : Sl), e = [.val S, .val (.tuple (lot.map .int)), .own 0 ((pcsN (esL ls) n lot d.length).map pD1), b3, b4] ∧ (b4 = .emp ∨ ∃ d, b4 = .val d)) rfl
    (iRng xCst (xIdx (xVar rfl) xCst N.s2) hr) ⟨.emp, .emp, rfl, .inl rfl⟩ (fun d c r e hd ⟨b3, b4, he, hb⟩ => by
      subst he
      have hc : c = (d.length : Int) := by
        have h1 : (iot n)[d.length]? = some c := by rw [hd]; simp
        have hlt : d.length < n := by
          have := congrArg List.length hd
          simp [iot_len] at this; omega
        simp only [iot, List.getElem?_map, List.getElem?_range hlt, Option.map_some] at h1
        exact (Option.some.inj h1).symm
      have hin : (d.length : Int) ∈ iot n := by rw [← hc, hd]; simp
      have pl := plen d.length
      have dn := (mem_iot.mp hin).2
      subst hc
      obtain ⟨b4', x, hb'⟩ := pb_any (G (k + 2)) (S := S) (lot := lot) (ps := pcsN (esL ls) n lot d.length) (c := (d.length : Int)) hb (by omega)
      rw [any_pcs hrg hin] at x
      refine ⟨[.val S, .val (.tuple (lot.map .int)), .own 0 ((pcsN (esL ls) n lot d.length).map pD1), .val (.int d.length), b4], [.val S, .val (.tuple (lot.map .int)), .own 0 ((pcsN (esL ls) n lot (d.length + 1)).map pD1), .val (.int d.length), b4'], rfl, .inl ?_, .val (.int d.length), b4', by rw [List.length_append]; rfl, hb'⟩
      unfold l_pieces_by_2
      rw [pcs_succ]
      by_cases q : lstN (esL ls) n lot d.length
      · have x' : evE (G (k + 2)) C0 (.nt (.blt .any1 (.cons (e_pieces_by_1) (.nil)))) [.val S, .val (.tuple (lot.map .int)), .own 0 ((pcsN (esL ls) n lot d.length).map pD1), .val (.int d.length), b4] = some (.pu (.bool true), [.val S, .val (.tuple (lot.map .int)), .own 0 ((pcsN (esL ls) n lot d.length).map pD1), .val (.int d.length), b4']) := by
          rw [x]; simp [q]
        rw [if_pos q, evSs, sIfT x']
        have cl : evE (G (k + 2)) C0 (.call i_reached_by (.cons (.var 0) (.cons (.var 3) (.cons (.var 1) (.nil))))) [.val S, .val (.tuple (lot.map .int)), .own 0 ((pcsN (esL ls) n lot d.length).map pD1), .val (.int d.length), b4'] = some (.fr ((cmpN (esL ls) n lot d.length).map .int), [.val S, .val (.tuple (lot.map .int)), .own 0 ((pcsN (esL ls) n lot d.length).map pD1), .val (.int d.length), b4']) :=
          xC3 (rv := .fr _) (xVar rfl) (xVar rfl) (xVar rfl) (reached_by_ok N hl hin)
        have ap : evE (G (k + 2)) C0 (.mth .append 2 (.cons (.call i_reached_by (.cons (.var 0) (.cons (.var 3) (.cons (.var 1) (.nil))))) (.nil))) [.val S, .val (.tuple (lot.map .int)), .own 0 ((pcsN (esL ls) n lot d.length).map pD1), .val (.int d.length), b4'] = some (.pu .none, [.val S, .val (.tuple (lot.map .int)), .own 0 ((pcsN (esL ls) n lot d.length ++ [cmpN (esL ls) n lot d.length]).map pD1), .val (.int d.length), b4']) := by
          have bl : ((pcsN (esL ls) n lot d.length).map pD1).length ≤ 16777215 := by simp; omega
          generalize (IE.call i_reached_by (.cons (.var 0) (.cons (.var 3) (.cons (.var 1) (.nil))))) = ie at cl ⊢
          rw [evE]
          show (match evA (G (k + 2)) C0 (.cons ie .nil) _ with | none => none | some (os, e1) => mthV .append e1 2 os) = _
          rw [evA, cl]
          dsimp only
          rw [evA]
          generalize pcsN (esL ls) n lot d.length = pp at bl ⊢
          generalize cmpN (esL ls) n lot d.length = cc at ⊢
          simp [mthV, thaw, frzd, Nat.blt] at bl ⊢
          simp [bl, pD1]
        rw [ssC (sEx ap), ssN]
        rfl
      · have x' : evE (G (k + 2)) C0 (.nt (.blt .any1 (.cons (e_pieces_by_1) (.nil)))) [.val S, .val (.tuple (lot.map .int)), .own 0 ((pcsN (esL ls) n lot d.length).map pD1), .val (.int d.length), b4] = some (.pu (.bool false), [.val S, .val (.tuple (lot.map .int)), .own 0 ((pcsN (esL ls) n lot d.length).map pD1), .val (.int d.length), b4']) := by
          rw [x]; simp [q]
        rw [if_neg q, ssF x', ssN, List.append_nil])
  rw [iot_len] at h1
  have hs : evS (G (k + 2)) C0 s_pieces_by_3 [.val S, .val (.tuple (lot.map .int)), .own 0 [], .emp, .emp] = _ := h1
  rw [one (fn := ⟨2, 5, b_pieces_by⟩) rfl]
  exact runOw (as := [S, .tuple (lot.map .int)]) (i := 2) rfl rfl (((ssC (sOwn (xs := []) xNil rfl)).trans (ssC hs)).trans (ssRet (xOwn rfl))) rfl
end
end K84

set_option Elab.async false
set_option linter.all false
set_option maxRecDepth 100000
set_option maxHeartbeats 4000000
namespace K84
open PySem Rf
def wyD (w : List (Int × Int)) : D := .list (w.map pD)
def dkW (ks : List (Int × List (Int × Int))) : List (D × D) := dkG wyD ks
section
variable {k n : Nat} {S : D} {ls : List Leg} {lot : List Int} {s : Int}
def wEnv (S : D) (s : Int) (lot : List Int) (ks : List (Int × List (Int × Int))) (s4 s5 b6 b7 b8 : Sl) : Ev := [.val S, .val (.int s), .val (.tuple (lot.map .int)), .dic (dkW ks), s4, s5, b6, b7, b8]
/-- what each way is -/
def KInv (es : List (Int × Int)) (s : Int) (lot : List Int) (ks : List (Int × List (Int × Int))) : Prop := ∀ p ∈ ks, Pth es s p.1 p.2 ∧ (∀ q ∈ p.2, q.1 ∈ lot) ∧ p.2.length ≤ ks.length
theorem ways_body (N : Net S n ls) {ks : List (Int × List (Int × Int))} {l : List Int} {here a : Int} {p : Leg} {s4 b8 : Sl} (h0 : 0 ≤ a) (hp : ls[a.toNat]? = some p) (hs : here = p.2.1 ∨ here = p.2.2)
    (hi : RInv (esL ls) n s lot (ks.map (·.1)) l (fun _ => True)) (hK : KInv (esL ls) s lot ks) (hh : here ∈ ks.map (·.1)) (hz : l.length ≤ ks.length) :
    ∃ ks' l', evSs (G (k + 1)) C0 l_ways_by_1 (wEnv S s lot ks s4 (.own 0 (l.map .int)) (.val (.int here)) (.val (.int a)) b8) = some (.nx (wEnv S s lot ks' s4 (.own 0 (l'.map .int)) (.val (.int here)) (.val (.int a)) (.val (.int (farE p.2 here))))) ∧
      KInv (esL ls) s lot ks' ∧ ((a ∈ lot ∧ farE p.2 here ∉ ks.map (·.1) ∧ ks'.map (·.1) = ks.map (·.1) ++ [farE p.2 here] ∧ l' = l ++ [farE p.2 here]) ∨ (¬ (a ∈ lot ∧ farE p.2 here ∉ ks.map (·.1)) ∧ ks' = ks ∧ l' = l)) := by
  have hl : a < ls.length := by have := (List.getElem?_eq_some_iff.mp hp).1; omega
  obtain ⟨p', hp', hat⟩ := at_map (fun p : Leg => p.1) h0 hl
  rw [hp] at hp'; cases hp'
  obtain ⟨g1, g2, g3⟩ := N.lg p (List.mem_of_getElem? hp)
  have hf := far_end_ok (k := k) (d := p.1) (e := p.2) (st := here) g1 g2
  have hse := sense_ok (k := k) (st := here) N h0 hp
  have kl : ks.length ≤ 1000 := by have := hi.len; have := N.nn; simp at *; omega
  have s1 : evS (G (k + 1)) C0 (.asg (.nm 8) (.call i_far_end (.cons (.idx (.idx (.var 0) (.cst (.int 3))) (.var 7)) (.cons (.var 6) (.nil))))) (wEnv S s lot ks s4 (.own 0 (l.map .int)) (.val (.int here)) (.val (.int a)) b8) = some (.nx (wEnv S s lot ks s4 (.own 0 (l.map .int)) (.val (.int here)) (.val (.int a)) (.val (.int (farE p.2 here))))) :=
    sAsg (xC2 (rv := .pu (.int (farE p.2 here))) (xIdx (xIdx (xVar rfl) xCst N.s3) (xVar rfl) hat) (xVar rfl) hf) rfl rfl
  have c1 : evE (G (k + 1)) C0 (.cmp .mem (.var 7) (.var 2)) (wEnv S s lot ks s4 (.own 0 (l.map .int)) (.val (.int here)) (.val (.int a)) (.val (.int (farE p.2 here)))) = some (.pu (.bool (decide (a ∈ lot))), _) := xCmp (xVar rfl) (xVar rfl) (mem_ti a lot)
  have c2 : evE (G (k + 1)) C0 (.din true (.var 8) (.var 3)) (wEnv S s lot ks s4 (.own 0 (l.map .int)) (.val (.int here)) (.val (.int a)) (.val (.int (farE p.2 here)))) = some (.pu (.bool (khas (dkW ks) (.int (farE p.2 here)) != true)), _) := xDinB (xVar rfl) (xDic rfl) rfl rfl
  rw [show khas (dkW ks) (.int (farE p.2 here)) = decide (farE p.2 here ∈ ks.map (·.1)) from khas_dk wyD _ ks] at c2
  have key : Jn (esL ls) a here (farE p.2 here) ∧ _ := jn_far h0 hp hs
  generalize hth : farE p.2 here = th at s1 c1 c2 key ⊢
  by_cases q1 : a ∈ lot
  · rw [decide_eq_true q1] at c1
    by_cases q2 : th ∈ ks.map (·.1)
    · rw [decide_eq_true q2] at c2
      exact ⟨ks, l, by unfold l_ways_by_1; rw [ssC s1, ssF (xAndT c1 c2), ssN], hK, .inr ⟨fun z => z.2 q2, rfl, rfl⟩⟩
    · rw [decide_eq_false q2] at c2
      obtain ⟨v, hv, hvm⟩ := kget_in wyD hh
      obtain ⟨v1, v2, v3⟩ := hK _ hvm
      have v3 : v.length ≤ ks.length := v3
      have lk : lenOk (v.length + 1) = true := lenOk_of (by omega)
      have ad : evE (G (k + 1)) C0 (.bin .add (.dix (.var 3) (.var 6)) (.lst (.cons (.tup (.cons (.var 7) (.cons (.call i_sense_from (.cons (.var 0) (.cons (.var 7) (.cons (.var 6) (.nil))))) (.nil)))) (.nil)))) (wEnv S s lot ks s4 (.own 0 (l.map .int)) (.val (.int here)) (.val (.int a)) (.val (.int th))) =
          some (.fr ((v ++ [(a, if p.2.1 = here then 1 else -1)]).map pD), wEnv S s lot ks s4 (.own 0 (l.map .int)) (.val (.int here)) (.val (.int a)) (.val (.int th))) := by
        have x1 : evE (G (k + 1)) C0 (.dix (.var 3) (.var 6)) (wEnv S s lot ks s4 (.own 0 (l.map .int)) (.val (.int here)) (.val (.int a)) (.val (.int th))) = some (.pu (wyD v), wEnv S s lot ks s4 (.own 0 (l.map .int)) (.val (.int here)) (.val (.int a)) (.val (.int th))) := xDixB (xDic rfl) (xVar rfl) rfl rfl hv
        have x2 : evE (G (k + 1)) C0 (.call i_sense_from (.cons (.var 0) (.cons (.var 7) (.cons (.var 6) (.nil))))) (wEnv S s lot ks s4 (.own 0 (l.map .int)) (.val (.int here)) (.val (.int a)) (.val (.int th))) = some (.pu (.int (if p.2.1 = here then 1 else -1)), wEnv S s lot ks s4 (.own 0 (l.map .int)) (.val (.int here)) (.val (.int a)) (.val (.int th))) := xC3 (rv := .pu _) (xVar rfl) (xVar rfl) (xVar rfl) hse
        generalize (if p.2.1 = here then (1 : Int) else -1) = sg at x2 ⊢
        have x3 : evE (G (k + 1)) C0 (.lst (.cons (.tup (.cons (.var 7) (.cons (.call i_sense_from (.cons (.var 0) (.cons (.var 7) (.cons (.var 6) (.nil))))) (.nil)))) (.nil))) (wEnv S s lot ks s4 (.own 0 (l.map .int)) (.val (.int here)) (.val (.int a)) (.val (.int th))) = some (.fr [pD (a, sg)], wEnv S s lot ks s4 (.own 0 (l.map .int)) (.val (.int here)) (.val (.int a)) (.val (.int th))) := by
          generalize (IE.call i_sense_from (.cons (.var 0) (.cons (.var 7) (.cons (.var 6) (.nil))))) = ie at x2 ⊢
          have x4 : evE (G (k + 1)) C0 (.tup (.cons (.var 7) (.cons ie (.nil)))) (wEnv S s lot ks s4 (.own 0 (l.map .int)) (.val (.int here)) (.val (.int a)) (.val (.int th))) = some (.pu (pD (a, sg)), wEnv S s lot ks s4 (.own 0 (l.map .int)) (.val (.int here)) (.val (.int a)) (.val (.int th))) := by
            rw [evE, evP, xVar (x := .int a) rfl]; dsimp only; rw [frzd]; dsimp only; rw [evP, x2]; dsimp only; rw [frzd]; dsimp only; rw [evP]; rfl
          rw [evE, evP, x4]; dsimp only; rw [frzd]; dsimp only; rw [evP]; rfl
        rw [evE, x1]; dsimp only; rw [x3]; dsimp only
        show Option.map _ (binV .add (.list (v.map pD)) (.list [pD (a, sg)])) = _
        simp [binV, lk]
      have s2 : evS (G (k + 1)) C0 (.dpt 3 (.var 8) (.bin .add (.dix (.var 3) (.var 6)) (.lst (.cons (.tup (.cons (.var 7) (.cons (.call i_sense_from (.cons (.var 0) (.cons (.var 7) (.cons (.var 6) (.nil))))) (.nil)))) (.nil))))) (wEnv S s lot ks s4 (.own 0 (l.map .int)) (.val (.int here)) (.val (.int a)) (.val (.int th))) =
          some (.nx (wEnv S s lot (ks ++ [(th, v ++ [(a, if p.2.1 = here then 1 else -1)])]) s4 (.own 0 (l.map .int)) (.val (.int here)) (.val (.int a)) (.val (.int th)))) := by
        have kp := kput_dk wyD (v ++ [(a, if p.2.1 = here then 1 else -1)]) q2
        have q := sDpt (i := 3) (b := .var 8) (p := .int th) (kvs := dkG wyD ks) (d := wyD (v ++ [(a, if p.2.1 = here then 1 else -1)])) ad rfl rfl (xVar rfl) rfl (by simp [dkG]; omega)
        rw [kp] at q
        exact q
      have s3 : ∀ ks', evE (G (k + 1)) C0 (.mth .append 5 (.cons (.var 8) (.nil))) (wEnv S s lot ks' s4 (.own 0 (l.map .int)) (.val (.int here)) (.val (.int a)) (.val (.int th))) = some (.pu .none, wEnv S s lot ks' s4 (.own 0 ((l ++ [th]).map .int)) (.val (.int here)) (.val (.int a)) (.val (.int th))) := fun ks' => by
        have q := xApp (F := G (k + 1)) (C := C0) (a := .var 8) (env := wEnv S s lot ks' s4 (.own 0 (l.map .int)) (.val (.int here)) (.val (.int a)) (.val (.int th))) (i := 5) (t := 0) (xs := l.map .int) rfl (xVar rfl) rfl rfl (by simp; omega)
        rw [List.map_append]; exact q
      refine ⟨_, _, by unfold l_ways_by_1; rw [ssC s1, evSs, sIfT (xAndT c1 c2), ssC s2, ssC (sEx (s3 _)), ssN]; rfl, fun r hr => ?_, .inl ⟨q1, q2, by simp, rfl⟩⟩
      rcases List.mem_append.mp hr with hr | hr
      · obtain ⟨r1, r2, r3⟩ := hK r hr
        exact ⟨r1, r2, by simp; omega⟩
      · simp at hr; subst hr
        refine ⟨.snoc v1 h0 (e := p.2) (by simp [esL, hp]) ?_, fun u hu => ?_, by simp; omega⟩
        · subst hth
          unfold farE
          by_cases c : p.2.1 = here
          · rw [if_pos c, if_pos c]; exact .inl ⟨rfl, c, rfl⟩
          · rw [if_neg c, if_neg c]
            refine .inr ⟨rfl, ?_, rfl⟩
            rcases hs with z | z
            · exact absurd z.symm c
            · exact z.symm
        · rcases List.mem_append.mp hu with hu | hu
          · exact v2 u hu
          · simp at hu; subst hu; exact q1
  · rw [decide_eq_false q1] at c1
    exact ⟨ks, l, by unfold l_ways_by_1; rw [ssC s1, ssF (xAndF c1), ssN], hK, .inr ⟨fun z => q1 z.1, rfl, rfl⟩⟩
theorem ways_leg (N : Net S n ls) {here : Int} {ks0 : List (Int × List (Int × Int))} {l0 : List Int} {s4 a7 a8 : Sl} {rest : List Int} (hi : RInv (esL ls) n s lot (ks0.map (·.1)) l0 (fun x => x = here ∨ x ∈ rest)) (hh : here ∈ ks0.map (·.1)) (hK : KInv (esL ls) s lot ks0) (hlen : l0.length ≤ ks0.length) :
    ∃ ks l b7 b8, evS (G (k + 1)) C0 s_ways_by_2 (wEnv S s lot ks0 s4 (.own 0 (l0.map .int)) (.val (.int here)) a7 a8) = some (.nx (wEnv S s lot ks s4 (.own 0 (l.map .int)) (.val (.int here)) b7 b8)) ∧
      RInv (esL ls) n s lot (ks.map (·.1)) l (fun x => x ∈ rest) ∧ (∀ x ∈ ks0.map (·.1), x ∈ ks.map (·.1)) ∧ KInv (esL ls) s lot ks ∧ l.length ≤ ks.length ∧ ks.length + l0.length = ks0.length + l.length := by
  obtain ⟨e2, h1, ks, l, b7, b8, rfl, h2, h3, h4, h5, h6, h7, h8⟩ := foI (F := G (k + 1)) (C := C0) (t := .nm 7) (it := .it (.call i_legs_at (.cons (.var 0) (.cons (.var 6) (.nil))))) (b := l_ways_by_1) (env := wEnv S s lot ks0 s4 (.own 0 (l0.map .int)) (.val (.int here)) a7 a8) (e1 := wEnv S s lot ks0 s4 (.own 0 (l0.map .int)) (.val (.int here)) a7 a8) PyData.int (legsAt here ls)
    (fun d e => ∃ (ks : List (Int × List (Int × Int))) (l : List Int) (b7 b8 : Sl), e = wEnv S s lot ks s4 (.own 0 (l.map .int)) (.val (.int here)) b7 b8 ∧ RInv (esL ls) n s lot (ks.map (·.1)) l (fun x => x = here ∨ x ∈ rest) ∧ here ∈ ks.map (·.1) ∧ (∀ a ∈ d, a ∈ lot → ∀ y, Jn (esL ls) a here y → y ∈ ks.map (·.1)) ∧ (∀ x ∈ ks0.map (·.1), x ∈ ks.map (·.1)) ∧ KInv (esL ls) s lot ks ∧ l.length ≤ ks.length ∧ ks.length + l0.length = ks0.length + l.length)
    rfl (iFr (xC2 (rv := .fr _) (xVar rfl) (xVar rfl) (legs_at_ok N))) ⟨ks0, l0, a7, a8, rfl, hi, hh, by simp, fun _ z => z, hK, hlen, rfl⟩
    (fun d a r e hd ⟨ks, l, b7, b8, q1, q2, q3, q4, q5, q6, q7, q8⟩ => by
      subst q1
      have ha : a ∈ legsAt here ls := by rw [hd]; simp
      obtain ⟨h0, p, hp, hs⟩ := mem_legsAt.mp ha
      obtain ⟨j1, j2⟩ := jn_far (ls := ls) h0 hp hs
      obtain ⟨ks', l', bd, k1, k2⟩ := ways_body (k := k) (s4 := s4) (b8 := b8) N h0 hp hs ⟨q2.nd, q2.rg, q2.rc, q2.st, q2.sb, fun x _ _ z => absurd trivial z⟩ q6 q3 q7
      refine ⟨wEnv S s lot ks s4 (.own 0 (l.map .int)) (.val (.int here)) (.val (.int a)) b8, _, rfl, .inl bd, ks', l', _, _, rfl, ?_⟩
      rcases k2 with ⟨c1, c2, c3, c4⟩ | ⟨c1, c2, c3⟩
      · have kl : ks'.length = ks.length + 1 := by have := congrArg List.length c3; simpa using this
        subst c4
        rw [c3]
        refine ⟨q2.add q3 c1 j1 (N.jn_rg j1) c2, List.mem_append_left _ q3, fun b hb hbl y hj => ?_, fun x hx => List.mem_append_left _ (q5 x hx), k1, by simp; omega, by simp; omega⟩
        rcases List.mem_append.mp hb with hb | hb
        · exact List.mem_append_left _ (q4 b hb hbl y hj)
        · simp at hb; subst hb
          rw [j2 y hj]; simp
      · subst c2; subst c3
        refine ⟨q2, q3, fun b hb hbl y hj => ?_, q5, k1, q7, q8⟩
        rcases List.mem_append.mp hb with hb | hb
        · exact q4 b hb hbl y hj
        · simp at hb; subst hb
          rw [j2 y hj]
          exact Classical.byContradiction fun z => c1 ⟨hbl, z⟩)
  refine ⟨ks, l, b7, b8, h1, ⟨h2.nd, h2.rg, h2.rc, h2.st, h2.sb, fun x hx hxl hxr a y ha hj => ?_⟩, h5, h6, h7, h8⟩
  by_cases hxh : x = here
  · subst hxh; exact h4 a (jn_at hj) ha y hj
  · exact h2.cl x hx hxl (fun z => z.elim hxh hxr) a y ha hj
theorem ways_row (N : Net S n ls) {ks0 : List (Int × List (Int × Int))} {last : List Int} {a6 a7 a8 : Sl} (hi : RInv (esL ls) n s lot (ks0.map (·.1)) [] (fun x => x ∈ last)) (hsub : ∀ x ∈ last, x ∈ ks0.map (·.1)) (hK : KInv (esL ls) s lot ks0) :
    ∃ ks l b6 b7 b8, evS (G (k + 1)) C0 s_ways_by_4 (wEnv S s lot ks0 (.val (.list (last.map .int))) (.own 0 []) a6 a7 a8) = some (.nx (wEnv S s lot ks (.val (.list (last.map .int))) (.own 0 (l.map .int)) b6 b7 b8)) ∧
      RInv (esL ls) n s lot (ks.map (·.1)) l (fun _ => False) ∧ KInv (esL ls) s lot ks ∧ ks.length = ks0.length + l.length := by
  obtain ⟨e2, h1, ks, l, b6, b7, b8, rfl, h2, h3, h4, h5, h6⟩ := foI (F := G (k + 1)) (C := C0) (t := .nm 6) (it := .it (.var 4)) (b := l_ways_by_3) (env := wEnv S s lot ks0 (.val (.list (last.map .int))) (.own 0 []) a6 a7 a8) (e1 := wEnv S s lot ks0 (.val (.list (last.map .int))) (.own 0 []) a6 a7 a8) PyData.int last
    (fun d e => ∃ (ks : List (Int × List (Int × Int))) (l : List Int) (b6 b7 b8 : Sl), e = wEnv S s lot ks (.val (.list (last.map .int))) (.own 0 (l.map .int)) b6 b7 b8 ∧ RInv (esL ls) n s lot (ks.map (·.1)) l (fun x => x ∈ last.drop d.length) ∧ (∀ x ∈ ks0.map (·.1), x ∈ ks.map (·.1)) ∧ KInv (esL ls) s lot ks ∧ l.length ≤ ks.length ∧ ks.length = ks0.length + l.length)
    rfl (iPl (xVar rfl)) ⟨ks0, [], a6, a7, a8, rfl, by simpa using hi, fun _ z => z, hK, by simp, by simp⟩
    (fun d here r e hd ⟨ks, l, b6, b7, b8, q1, q2, q3, q4, q5, q6⟩ => by
      subst q1
      have hm : here ∈ last := by rw [hd]; simp
      have dr : last.drop d.length = here :: r := by rw [hd]; simp
      have dr2 : last.drop (d ++ [here]).length = r := by rw [hd]; simp
      rw [dr] at q2
      obtain ⟨ks', l', c7, c8, r1, r2, r3, r4, r5, r6⟩ := ways_leg (k := k) (here := here) (ks0 := ks) (l0 := l) (rest := r) (s4 := .val (.list (last.map .int))) (a7 := b7) (a8 := b8) N
        ⟨q2.nd, q2.rg, q2.rc, q2.st, q2.sb, fun x hx hxl hxr a y ha hj => q2.cl x hx hxl (fun z => hxr (by rcases List.mem_cons.mp z with z | z; exact .inl z; exact .inr z)) a y ha hj⟩ (q3 _ (hsub _ hm)) q4 q5
      refine ⟨wEnv S s lot ks (.val (.list (last.map .int))) (.own 0 (l.map .int)) (.val (.int here)) b7 b8, wEnv S s lot ks' (.val (.list (last.map .int))) (.own 0 (l'.map .int)) (.val (.int here)) c7 c8, rfl, .inl ?_, ks', l', _, c7, c8, rfl, by rw [dr2]; exact r2, fun x hx => r3 x (q3 x hx), r4, r5, by omega⟩
      unfold l_ways_by_3
      rw [ssC r1, ssN])
  have nil : last.drop last.length = [] := by simp
  exact ⟨ks, l, b6, b7, b8, h1, ⟨h2.nd, h2.rg, h2.rc, h2.st, h2.sb, fun x hx hxl _ a y ha hj => h2.cl x hx hxl (by rw [nil]; simp) a y ha hj⟩, h4, h6⟩
theorem ways_ok (N : Net S n ls) (hs : s ∈ iot n) :
    ∃ ks, G (k + 2) i_ways_by [.pu S, .pu (.int s), .pu (.tuple (lot.map .int))] = some (.pu (.dict (dkW ks)), []) ∧ (∀ t, t ∈ ks.map (·.1) ↔ Rch (esL ls) (· ∈ lot) s t) ∧ KInv (esL ls) s lot ks ∧ ks.length ≤ n := by
  have hn := N.nn
  obtain ⟨fl, h1, ks, b5, b6, b7, b8, rfl, h2, h3⟩ := whE (F := G (k + 1)) (C := C0) (c := .cmp .ne (.var 4) (.lst (.nil))) (b := l_ways_by_5) (env := wEnv S s lot [(s, [])] (.val (.list [.int s])) .emp .emp .emp .emp)
    (fun m e => ∃ (ks : List (Int × List (Int × Int))) (last : List Int) (b5 b6 b7 b8 : Sl), e = wEnv S s lot ks (.val (.list (last.map .int))) b5 b6 b7 b8 ∧ RInv (esL ls) n s lot (ks.map (·.1)) [] (fun x => x ∈ last) ∧ (∀ x ∈ last, x ∈ ks.map (·.1)) ∧ KInv (esL ls) s lot ks ∧ last.length ≤ ks.length ∧ last.length + 2 * 1000 ≤ m + 2 * ks.length)
    (fun fl => ∃ (ks : List (Int × List (Int × Int))) (b5 b6 b7 b8 : Sl), fl = .nx (wEnv S s lot ks (.val (.list [])) b5 b6 b7 b8) ∧ RInv (esL ls) n s lot (ks.map (·.1)) [] (fun _ => False) ∧ KInv (esL ls) s lot ks)
    2000 (by decide) ⟨[(s, [])], [s], _, _, _, _, rfl, ⟨by simp, by simpa using hs, by simp; exact .refl, by simp, by simp, by simp⟩, by simp, fun p hp => by
      simp at hp; subst hp; exact ⟨.nil, by simp, by simp⟩, by simp, by simp⟩
    (fun m e ⟨ks, last, b5, b6, b7, b8, q1, q2, q3, q4, q5, q6⟩ => by
      subst q1
      refine ⟨!decide (last = []), wEnv S s lot ks (.val (.list (last.map .int))) b5 b6 b7 b8, by simp [evSs, evS, evE, evA, evP, evO, evD, evI, asgT, asgTs, rdp, rds, rdsAll, frzd, frzE, thaw, callO, arsOf, arOf, iosOf, distinct, backOut, rvO, pick, bltV, cmpV, eqii, eqbb, eqstr, binV, negV, ixt, ixl, at0, at1, at2, at3, at4, at5, ix20, ix21, lk0, lk1, lk2, lk3, lk4, lk5, lk6, putv, slotOf, finF, rvOf, outsOf, runF, slOf, setAt, tyIs, isNon, seqV, Nat.blt, mulOk2, wEnv, eq_nilI], fun hk => ?_, fun hk => ?_⟩
      · have : last = [] := by simpa using hk
        subst this
        exact ⟨ks, b5, b6, b7, b8, rfl, ⟨q2.nd, q2.rg, q2.rc, q2.st, q2.sb, fun x hx hxl _ a y ha hj => q2.cl x hx hxl (by simp) a y ha hj⟩, q4⟩
      · have ne : last ≠ [] := by simpa using hk
        have hp : 0 < last.length := List.length_pos_iff.mpr ne
        obtain ⟨ks', l', c6, c7, c8, r1, r2, r3, r4⟩ := ways_row (k := k) (a6 := b6) (a7 := b7) (a8 := b8) N q2 q3 q4
        have hkl : ks'.length ≤ 1000 := by have := r2.len; simp at this; omega
        refine ⟨.nx (wEnv S s lot ks' (.val (.list (l'.map .int))) (.val (.list (l'.map .int))) c6 c7 c8), ?_, m - 1, by omega, ks', l', _, c6, c7, c8, rfl, ⟨r2.nd, r2.rg, r2.rc, r2.st, by simp, fun x hx _ hxl a y ha hj => r2.cl x hx hxl id a y ha hj⟩, r2.sb, r3, by omega, by omega⟩
        have e1 : evS (G (k + 1)) C0 (.own 5 (.lst (.nil))) (wEnv S s lot ks (.val (.list (last.map .int))) b5 b6 b7 b8) = some (.nx (wEnv S s lot ks (.val (.list (last.map .int))) (.own 0 []) b6 b7 b8)) := sOwn xNil rfl
        have e3 : evS (G (k + 1)) C0 (.asg (.nm 4) (.frz 5)) (wEnv S s lot ks' (.val (.list (last.map .int))) (.own 0 (l'.map .int)) c6 c7 c8) = some (.nx (wEnv S s lot ks' (.val (.list (l'.map .int))) (.val (.list (l'.map .int))) c6 c7 c8)) := by
          simp [evSs, evS, evE, evA, evP, evO, evD, evI, asgT, asgTs, rdp, rds, rdsAll, frzd, frzE, thaw, callO, arsOf, arOf, iosOf, distinct, backOut, rvO, pick, bltV, cmpV, eqii, eqbb, eqstr, binV, negV, ixt, ixl, at0, at1, at2, at3, at4, at5, ix20, ix21, lk0, lk1, lk2, lk3, lk4, lk5, lk6, putv, slotOf, finF, rvOf, outsOf, runF, slOf, setAt, tyIs, isNon, seqV, Nat.blt, mulOk2, wEnv]
        unfold l_ways_by_5
        rw [ssC e1, ssC r1, ssC e3, ssN])
  have hw : evS (G (k + 1)) C0 s_ways_by_6 (wEnv S s lot [(s, [])] (.val (.list [.int s])) .emp .emp .emp .emp) = some (.nx (wEnv S s lot ks (.val (.list [])) b5 b6 b7 b8)) := h1
  have hkl : ks.length ≤ n := by have := h2.len; simpa using this
  refine ⟨ks, ?_, h2.end_, h3, hkl⟩
  rw [one (fn := ⟨3, 9, b_ways_by⟩) rfl]
  have e1 : evS (G (k + 1)) C0 (.par2 3 4 true false (.ds1 (.var 1) (.lst (.nil))) (.lst (.cons (.var 1) (.nil)))) [.val S, .val (.int s), .val (.tuple (lot.map .int)), .emp, .emp, .emp, .emp, .emp, .emp] = some (.nx (wEnv S s lot [(s, [])] (.val (.list [.int s])) .emp .emp .emp .emp)) := by
    simp [evSs, evS, evE, evA, evP, evO, evD, evI, asgT, asgTs, rdp, rds, rdsAll, frzd, frzE, thaw, callO, arsOf, arOf, iosOf, distinct, backOut, rvO, pick, bltV, cmpV, eqii, eqbb, eqstr, binV, negV, ixt, ixl, at0, at1, at2, at3, at4, at5, ix20, ix21, lk0, lk1, lk2, lk3, lk4, lk5, lk6, putv, slotOf, finF, rvOf, outsOf, runF, slOf, setAt, tyIs, isNon, seqV, Nat.blt, mulOk2, wEnv, isKey_i, dkW, dkG, wyD]
  have e3 : evE (G (k + 1)) C0 (.frz 3) (wEnv S s lot ks (.val (.list [])) b5 b6 b7 b8) = some (.pu (.dict (dkW ks)), [.val S, .val (.int s), .val (.tuple (lot.map .int)), .val (.dict (dkW ks)), .val (.list []), b5, b6, b7, b8]) := by
    rw [evE]; rfl
  exact runP (as := [S, .int s, .tuple (lot.map .int)]) rfl rfl (((ssC e1).trans (ssC hw)).trans (ssRet e3))
end
end K84

set_option Elab.async false
set_option linter.all false
set_option maxRecDepth 100000
set_option maxHeartbeats 4000000
namespace K84
open PySem Rf
section
variable {k n : Nat} {S : D} {ls : List Leg} {lot : List Int} {s : Int}
def trE (S : D) (lot : List Int) (b2 : Sl) (ms fo : List Int) (b5 b6 b7 b8 : Sl) : Ev := [.val S, .val (.tuple (lot.map .int)), b2, .val (.list (ms.map .int)), .own 0 (fo.map .int), b5, b6, b7, b8]
def okb (b : Sl) : Prop := b = .emp ∨ ∃ d, b = .val d
theorem okb_val {b : Sl} (h : okb b) : valOnly (some b) = b := by rcases h with rfl | ⟨d, rfl⟩ <;> rfl
theorem tree_body (F : FT) (N : Net S n ls) {ms fo : List Int} {a : Int} {p : Leg} {b5 b6 b7 b8 : Sl} (h0 : 0 ≤ a) (hp : ls[a.toNat]? = some p) (hl : ms.length = n) (hz : fo.length ≤ 1000) (k7 : okb b7) (k8 : okb b8) :
    evSs F C0 l_tree_of_3 (trE S lot (.val (.int a)) ms fo b5 b6 b7 b8) = some (.nx (if gm ms p.2.1 = gm ms p.2.2 then trE S lot (.val (.int a)) ms fo (.val (.int (gm ms p.2.1))) (.val (.int (gm ms p.2.2))) b7 b8
      else trE S lot (.val (.int a)) (ms.map fun m => if m = gm ms p.2.2 then gm ms p.2.1 else m) (fo ++ [a]) (.val (.int (gm ms p.2.1))) (.val (.int (gm ms p.2.2))) b7 b8)) := by
  have hll : a < ls.length := by have := (List.getElem?_eq_some_iff.mp hp).1; omega
  have nn := N.nn
  obtain ⟨p', hp', hat⟩ := at_map (fun p : Leg => p.1) h0 hll
  rw [hp] at hp'; cases hp'
  obtain ⟨g1, g2, g3⟩ := N.lg p (List.mem_of_getElem? hp)
  obtain ⟨r1, r2, r3, r4⟩ := N.rg p (List.mem_of_getElem? hp)
  have i1 : p.2.1 ∈ iot n := mem_iot.mpr ⟨r1, r2⟩
  have i2 : p.2.2 ∈ iot n := mem_iot.mpr ⟨r3, r4⟩
  have x2 : ∀ b5 b6, evE F C0 e_tree_of_2 (trE S lot (.val (.int a)) ms fo b5 b6 b7 b8) = some (.fr [.int (gm ms p.2.1), .int (gm ms p.2.2)], trE S lot (.val (.int a)) ms fo b5 b6 b7 b8) := fun b5 b6 => by
    have c := lcA (F := F) (C := C0) (elt := .idx (.var 3) (.var 7)) (tg := .nm 7) (it := .it (.slc (.idx (.idx (.var 0) (.cst (.int 3))) (.var 2)) (.som (.cst (.int 1))) (.som (.cst (.int 3))))) (own := [7])
      (env := trE S lot (.val (.int a)) ms fo b5 b6 b7 b8) (e0 := trE S lot (.val (.int a)) ms fo b5 b6 .emp b8) (e2 := trE S lot (.val (.int a)) ms fo b5 b6 b7 b8) PyData.int [p.2.1, p.2.2] (fun x => .int (gm ms x)) (fun x => trE S lot (.val (.int a)) ms fo b5 b6 (.val (.int x)) b8)
      (iPt (slcE (xIdx (xIdx (xVar rfl) xCst N.s3) (xVar rfl) hat) oCst oCst g3)) rfl (by simp [backE, trE, okb_val k7]) (by simp) (fun x hx => rfl) (fun x hx => rfl) (fun x hx => by
        have xi : x ∈ iot n := by simp at hx; rcases hx with rfl | rfl <;> assumption
        exact ⟨_, xIdx (xVar rfl) (xVar rfl) (gm_at hl xi), rfl⟩)
    exact c
  have s1 : evS F C0 (.asg (.tp (.cons (.nm 5) (.cons (.nm 6) (.nil)))) (e_tree_of_2)) (trE S lot (.val (.int a)) ms fo b5 b6 b7 b8) = some (.nx (trE S lot (.val (.int a)) ms fo (.val (.int (gm ms p.2.1))) (.val (.int (gm ms p.2.2))) b7 b8)) := by
    rw [evS, x2]; dsimp only; rw [frzd]; dsimp only; rw [asgT, asgTs, asgT]; dsimp only [trE, putv, Nat.blt, Nat.ble, List.length_cons, List.length_nil]; rfl
  generalize gm ms p.2.1 = u at s1 ⊢
  generalize gm ms p.2.2 = v at s1 ⊢
  have c1 : evE F C0 (.cmp .ne (.var 5) (.var 6)) (trE S lot (.val (.int a)) ms fo (.val (.int u)) (.val (.int v)) b7 b8) = some (.pu (.bool (!decide (u = v))), trE S lot (.val (.int a)) ms fo (.val (.int u)) (.val (.int v)) b7 b8) := xCmp (xVar rfl) (xVar rfl) (by
    show (eqD (.int u) (.int v)).map not = _
    rw [eqii]; rfl)
  unfold l_tree_of_3
  rw [ssC s1]
  by_cases q : u = v
  · rw [decide_eq_true q] at c1
    rw [if_pos q, ssF c1, ssN]
  · rw [decide_eq_false q] at c1
    rw [if_neg q, evSs, sIfT c1]
    have ap := xApp (F := F) (C := C0) (a := .var 2) (env := trE S lot (.val (.int a)) ms fo (.val (.int u)) (.val (.int v)) b7 b8) (i := 4) (t := 0) (xs := fo.map .int) rfl (xVar (x := .int a) rfl) rfl rfl (by simp; omega)
    have e1 : fo.map PyData.int ++ [.int a] = (fo ++ [a]).map .int := by simp
    rw [e1] at ap
    have ap' : evE F C0 (.mth .append 4 (.cons (.var 2) (.nil))) (trE S lot (.val (.int a)) ms fo (.val (.int u)) (.val (.int v)) b7 b8) = some (.pu .none, trE S lot (.val (.int a)) ms (fo ++ [a]) (.val (.int u)) (.val (.int v)) b7 b8) := ap
    have c := lcA (F := F) (C := C0) (elt := .ite (.cmp .eq (.var 8) (.var 6)) (.var 5) (.var 8)) (tg := .nm 8) (it := .it (.var 3)) (own := [8])
      (env := trE S lot (.val (.int a)) ms (fo ++ [a]) (.val (.int u)) (.val (.int v)) b7 b8) (e0 := trE S lot (.val (.int a)) ms (fo ++ [a]) (.val (.int u)) (.val (.int v)) b7 .emp) (e2 := trE S lot (.val (.int a)) ms (fo ++ [a]) (.val (.int u)) (.val (.int v)) b7 b8) PyData.int ms (fun m => .int (if m = v then u else m)) (fun x => trE S lot (.val (.int a)) ms (fo ++ [a]) (.val (.int u)) (.val (.int v)) b7 (.val (.int x)))
      (iPl (xVar rfl)) rfl (by simp [backE, trE, okb_val k8]) (by omega) (fun x hx => rfl) (fun x hx => rfl) (fun x hx => by
        have cc : evE F C0 (.cmp .eq (.var 8) (.var 6)) (trE S lot (.val (.int a)) ms (fo ++ [a]) (.val (.int u)) (.val (.int v)) b7 (.val (.int x))) = some (.pu (.bool (decide (x = v))), trE S lot (.val (.int a)) ms (fo ++ [a]) (.val (.int u)) (.val (.int v)) b7 (.val (.int x))) := xCmp (xVar rfl) (xVar rfl) (eqii x v)
        by_cases z : x = v
        · rw [decide_eq_true z] at cc
          rw [if_pos z]
          exact ⟨_, xIteT cc (xVar rfl), rfl⟩
        · rw [decide_eq_false z] at cc
          rw [if_neg z]
          exact ⟨_, xIteF cc (xVar rfl), rfl⟩)
    have e2 : (ms.map fun m => PyData.int (if m = v then u else m)) = (ms.map fun m => if m = v then u else m).map .int := by simp [List.map_map, Function.comp_def]
    rw [e2] at c
    have c' : evE F C0 e_tree_of_1 (trE S lot (.val (.int a)) ms (fo ++ [a]) (.val (.int u)) (.val (.int v)) b7 b8) = some (.fr ((ms.map fun m => if m = v then u else m).map .int), trE S lot (.val (.int a)) ms (fo ++ [a]) (.val (.int u)) (.val (.int v)) b7 b8) := c
    rw [ssC (sEx ap'), ssC (sAsg c' rfl rfl), ssN]
    rfl
theorem tree_of_ok (N : Net S n ls) (hl : ∀ a ∈ lot, 0 ≤ a ∧ a < ls.length) (hz : lot.length ≤ 1000) :
    ∃ tr : List Int, G (k + 1) i_tree_of [.pu S, .pu (.tuple (lot.map .int))] = some (.pu (.tuple (tr.map .int)), []) ∧ (∀ a ∈ tr, a ∈ lot) ∧ ∀ x ∈ iot n, ∀ y ∈ iot n, (Rch (esL ls) (· ∈ tr) x y ↔ Rch (esL ls) (· ∈ lot) x y) := by
  have nn := N.nn
  have hrg : ∀ e ∈ esL ls, e.1 ∈ iot n ∧ e.2 ∈ iot n := fun e he => by
    simp only [esL, List.mem_map] at he
    obtain ⟨p, hp, rfl⟩ := he
    have := N.rg p hp
    exact ⟨mem_iot.mpr ⟨this.1, this.2.1⟩, mem_iot.mpr this.2.2⟩
  have hr : rngV (.int 0) (.int (n : Int)) = some ((iot n).map .int) := by
    have := rng_iot (n := (n : Int)) (by omega) (by omega)
    simpa using this
  obtain ⟨e2, h1, ms, fo, b2, b5, b6, b7, b8, rfl, k7, k8, h2, h3, h4, h5⟩ := foI (F := G k) (C := C0) (t := .nm 2) (it := .it (.var 1)) (b := l_tree_of_3) (env := trE S lot .emp (iot n) [] .emp .emp .emp .emp) (e1 := trE S lot .emp (iot n) [] .emp .emp .emp .emp) PyData.int lot
    (fun d e => ∃ (ms fo : List Int) (b2 b5 b6 b7 b8 : Sl), e = trE S lot b2 ms fo b5 b6 b7 b8 ∧ okb b7 ∧ okb b8 ∧ MInv (esL ls) n ms fo ∧ (∀ a ∈ fo, a ∈ d) ∧ fo.length ≤ d.length ∧ ∀ a ∈ d, ∀ e, (esL ls)[a.toNat]? = some e → gm ms e.1 = gm ms e.2)
    rfl (iPt (xVar rfl)) ⟨iot n, [], .emp, .emp, .emp, .emp, .emp, rfl, .inl rfl, .inl rfl, minv_start, by simp, by simp, by simp⟩ (fun d a r e hd ⟨ms, fo, b2, b5, b6, b7, b8, he, k7, k8, q1, q2, q3, q4⟩ => by
      subst he
      obtain ⟨h0, hal⟩ := hl a (by rw [hd]; simp)
      have hlt : a.toNat < ls.length := by omega
      have hp : ls[a.toNat]? = some ls[a.toNat] := List.getElem?_eq_getElem hlt
      have hpe : (esL ls)[a.toNat]? = some ls[a.toNat].2 := by simp [esL, hlt]
      have dl : d.length ≤ 1000 := by have := congrArg List.length hd; simp at this; omega
      have bd := tree_body (lot := lot) (G k) N (ms := ms) (fo := fo) (b5 := b5) (b6 := b6) h0 hp q1.ln (by omega) k7 k8
      obtain ⟨r1, r2⟩ := hrg _ (List.mem_of_getElem? hpe)
      refine ⟨trE S lot (.val (.int a)) ms fo b5 b6 b7 b8, _, rfl, .inl bd, ?_⟩
      by_cases c : gm ms ls[a.toNat].2.1 = gm ms ls[a.toNat].2.2
      · rw [if_pos c]
        refine ⟨_, _, _, _, _, _, _, rfl, k7, k8, q1, fun b hb => List.mem_append_left _ (q2 b hb), by simp; omega, fun b hb e he => ?_⟩
        rcases List.mem_append.mp hb with hb | hb
        · exact q4 b hb e he
        · simp at hb; subst hb
          rw [hpe] at he; cases he; exact c
      · rw [if_neg c]
        have q1' := minv_add hrg q1 h0 hpe c
        refine ⟨_, _, _, _, _, _, _, rfl, k7, k8, q1', fun b hb => ?_, by simp; omega, fun b hb e he => ?_⟩
        · rcases List.mem_append.mp hb with hb | hb
          · exact List.mem_append_left _ (q2 b hb)
          · exact List.mem_append_right _ hb
        · obtain ⟨s1, s2⟩ := hrg e (List.mem_of_getElem? he)
          rcases List.mem_append.mp hb with hb | hb
          · have := q4 b hb e he
            rw [gm_map _ q1.ln s1, gm_map _ q1.ln s2, this]
          · simp at hb; subst hb
            rw [hpe] at he; cases he
            rw [gm_map _ q1.ln s1, gm_map _ q1.ln s2, if_neg c, if_pos rfl])
  refine ⟨fo, ?_, h3, fun x hx y hy => ⟨fun q => q.mono h3, fun q => (h2.eq x hx y hy).mp ?_⟩⟩
  · rw [one (fn := ⟨2, 9, b_tree_of⟩) rfl]
    have hs : evS (G k) C0 s_tree_of_4 (trE S lot .emp (iot n) [] .emp .emp .emp .emp) = _ := h1
    have x0 : evE (G k) C0 (.lrg (.cst (.int 0)) (.idx (.var 0) (.cst (.int 2)))) [.val S, .val (.tuple (lot.map .int)), .emp, .emp, .emp, .emp, .emp, .emp, .emp] = some (.fr ((iot n).map .int), [.val S, .val (.tuple (lot.map .int)), .emp, .emp, .emp, .emp, .emp, .emp, .emp]) :=
      lrgE xCst (xIdx (xVar rfl) xCst N.s2) hr (lenOk_of (by rw [List.length_map, iot_len]; omega))
    have s1 : evS (G k) C0 (.par2 3 4 false true (.lrg (.cst (.int 0)) (.idx (.var 0) (.cst (.int 2)))) (.lst (.nil))) [.val S, .val (.tuple (lot.map .int)), .emp, .emp, .emp, .emp, .emp, .emp, .emp] = some (.nx (trE S lot .emp (iot n) [] .emp .emp .emp .emp)) := by
      generalize (IE.lrg (.cst (.int 0)) (.idx (.var 0) (.cst (.int 2)))) = ie at x0 ⊢
      rw [evS, x0]; dsimp only; rw [slotOf]; dsimp only; rw [xNil]; rfl
    have rt : evE (G k) C0 (.blt .tuple1 (.cons (.var 4) (.nil))) (trE S lot b2 ms fo b5 b6 b7 b8) = some (.pu (.tuple (fo.map .int)), trE S lot b2 ms fo b5 b6 b7 b8) := by
      rw [evE, evA, xOwn (t := 0) (xs := fo.map .int) rfl]; dsimp only; rw [evA]; rfl
    exact runP (as := [S, .tuple (lot.map .int)]) rfl rfl (((ssC s1).trans (ssC hs)).trans (ssRet rt))
  · have key : ∀ z, Rch (esL ls) (· ∈ lot) x z → z ∈ iot n ∧ gm ms x = gm ms z := fun z r => by
      induction r with
      | refl => exact ⟨hx, rfl⟩
      | step _ hp hj ih =>
        obtain ⟨ip, ie⟩ := ih
        refine ⟨N.jn_rg hj, ie.trans ?_⟩
        obtain ⟨u, hb0, hu, hd⟩ := hj
        have := h5 _ hp u hu
        rcases hd with ⟨rfl, rfl⟩ | ⟨rfl, rfl⟩
        · exact this
        · exact this.symm
    exact (key y q).2
end
/-! ### nets of ties -/
section
variable {k n m : Nat} {ts : List Tie}
def nlD (t : Tie) : D := .tuple [.int 0, .int t.1, .int t.2.1]
noncomputable def nt (m : Nat) (ts : List Tie) : D := hid (.tuple [.str "survey", .int 1, .int m, .tuple (ts.map nlD)])
def nlL (ts : List Tie) : List Leg := ts.map fun t => (nlD t, (t.1, t.2.1))
theorem esL_nl : esL (nlL ts) = esT ts := by simp [esL, nlL, esT, List.map_map, Function.comp_def]
theorem nlL_len : (nlL ts).length = ts.length := by simp [nlL]
theorem net_nt (h : okTs n m ts) : Net (nt m ts) m (nlL ts) := by
  have e : nt m ts = .tuple [.str "survey", .int 1, .int m, .tuple (ts.map nlD)] := hid_eq _
  refine ⟨by rw [e, ixt]; exact at2, ?_, fun p hp => ?_, fun p hp => ?_, by rw [nlL_len]; have := h.ln; omega, by have := h.m8; omega⟩
  · rw [e, ixt, at3]
    simp [nlL, List.map_map, Function.comp_def]
  · simp only [nlL, List.mem_map] at hp
    obtain ⟨t, ht, rfl⟩ := hp
    refine ⟨by rw [nlD, ixt]; exact at1, by rw [nlD, ixt]; exact at2, rfl⟩
  · simp only [nlL, List.mem_map] at hp
    obtain ⟨t, ht, rfl⟩ := hp
    obtain ⟨q1, q2, q3, q4, _⟩ := h.tie t ht
    exact ⟨q1, q2, q3, q4⟩
theorem net_of_ok {td : D} (hq : seqV td = some (ts.map tieD)) (hz : ts.length ≤ 1000) : G (k + 1) i_net_of [.pu (.int m), .pu td] = some (.pu (nt m ts), []) := by
  rw [one (fn := ⟨2, 5, b_net_of⟩) rfl]
  have c := lcA (F := G k) (C := C0) (elt := .tup (.cons (.cst (.int 0)) (.cons (.var 2) (.cons (.var 3) (.nil))))) (tg := .tp (.cons (.nm 2) (.cons (.nm 3) (.cons (.nm 4) (.nil))))) (it := .it (.var 1)) (own := [2, 3, 4])
    (env := [.val (.int m), .val td, .emp, .emp, .emp]) (e0 := [.val (.int m), .val td, .emp, .emp, .emp]) (e2 := [.val (.int m), .val td, .emp, .emp, .emp]) tieD ts nlD (fun t => [.val (.int m), .val td, .val (.int t.1), .val (.int t.2.1), .val (tnD t.2.2)])
    (iIt (xVar rfl) rfl hq) rfl rfl (by omega) (fun t ht => by simp [evSs, evS, evE, evA, evP, evO, evD, evI, asgT, asgTs, rdp, rds, rdsAll, frzd, frzE, thaw, callO, arsOf, arOf, iosOf, distinct, backOut, rvO, pick, bltV, cmpV, eqii, eqbb, eqstr, binV, negV, ixt, ixl, at0, at1, at2, at3, at4, at5, ix20, ix21, lk0, lk1, lk2, lk3, lk4, lk5, lk6, putv, slotOf, finF, rvOf, outsOf, runF, slOf, setAt, tyIs, isNon, seqV, Nat.blt, mulOk2, tieD]) (fun t ht => rfl) (fun t ht => ⟨_, by simp [evSs, evS, evE, evA, evP, evO, evD, evI, asgT, asgTs, rdp, rds, rdsAll, frzd, frzE, thaw, callO, arsOf, arOf, iosOf, distinct, backOut, rvO, pick, bltV, cmpV, eqii, eqbb, eqstr, binV, negV, ixt, ixl, at0, at1, at2, at3, at4, at5, ix20, ix21, lk0, lk1, lk2, lk3, lk4, lk5, lk6, putv, slotOf, finF, rvOf, outsOf, runF, slOf, setAt, tyIs, isNon, seqV, Nat.blt, mulOk2]; rfl, by simp [frzd, nlD]⟩)
  have c' : evE (G k) C0 e_net_of_1 [.val (.int m), .val td, .emp, .emp, .emp] = some (.fr (ts.map nlD), [.val (.int m), .val td, .emp, .emp, .emp]) := c
  have x1 := xTup1 c'
  have x2 : evE (G k) C0 (.tup (.cons (.cst (.str "survey")) (.cons (.cst (.int 1)) (.cons (.var 0) (.cons (.blt .tuple1 (.cons (e_net_of_1) (.nil))) (.nil)))))) [.val (.int m), .val td, .emp, .emp, .emp] = some (.pu (nt m ts), [.val (.int m), .val td, .emp, .emp, .emp]) := by
    have e : nt m ts = .tuple [.str "survey", .int 1, .int m, .tuple (ts.map nlD)] := hid_eq _
    rw [e]
    generalize (IE.blt .tuple1 (.cons (e_net_of_1) (.nil))) = ie at x1 ⊢
    rw [evE, evP, xCst]; dsimp only; rw [frzd]; dsimp only; rw [evP, xCst]; dsimp only; rw [frzd]; dsimp only; rw [evP, xVar (x := .int m) rfl]; dsimp only; rw [frzd]; dsimp only; rw [evP, x1]; dsimp only; rw [frzd]; dsimp only; rw [evP]; rfl
  exact runP (as := [.int m, td]) rfl rfl (ssRet x2)
end
end K84

set_option Elab.async false
set_option linter.all false
set_option maxRecDepth 100000
set_option maxHeartbeats 4000000
namespace K84
open PySem Rf
/-! ### ties and turns handed in: a list or a tuple -/
def Seq (d : D) (xs : List D) : Prop := d = .list xs ∨ d = .tuple xs
theorem Seq.seq {d : D} {xs : List D} (h : Seq d xs) : seqV d = some xs := by rcases h with rfl | rfl <;> rfl
theorem Seq.ix {d : D} {xs : List D} (h : Seq d xs) (i : Int) : idxV d (.int i) = L2.atI xs i := by
  rcases h with rfl | rfl
  · exact ixl xs i
  · exact ixt xs i
theorem Seq.len {d : D} {xs : List D} (h : Seq d xs) : bltV .len [d] = some (.pu (.int xs.length)) := by rcases h with rfl | rfl <;> rfl
theorem Seq.lst1 {d : D} {xs : List D} (h : Seq d xs) : bltV .list1 [d] = some (.fr xs) := by rcases h with rfl | rfl <;> rfl
theorem Seq.isL {d : D} {xs : List D} (h : Seq d xs) : isLst d = true := by rcases h with rfl | rfl <;> rfl
section
variable {k n m : Nat} {ts : List Tie} {td : D}
theorem along_ok (h : okTs n m ts) (hd : Seq td (ts.map tieD)) {w : List (Int × Int)} (hw : ∀ p ∈ w, 0 ≤ p.1 ∧ p.1 < ts.length) : G (k + 2) i_turn_along [.pu (.int n), .pu td, .pu (wyD w)] = some (.pu (tnD (prW n ts w)), []) := by
  obtain ⟨e2, h1, hf, b4, b5, b6, rfl⟩ := foR (F := G (k + 1)) (C := C0) (t := .tp (.cons (.nm 4) (.cons (.nm 5) (.nil)))) (it := .it (.var 2)) (b := l_turn_along_1) (env := [.val (.int n), .val td, .val (wyD w), .val (tnD (idT n)), .emp, .emp, .emp]) (e1 := [.val (.int n), .val td, .val (wyD w), .val (tnD (idT n)), .emp, .emp, .emp]) pD w (fun f p => mulT f (stpT ts p))
    (fun f e => f ∈ TT n ∧ ∃ b4 b5 b6, e = [.val (.int n), .val td, .val (wyD w), .val (tnD f), b4, b5, b6]) (idT n) rfl (iPl (xVar rfl)) ⟨TT_id h.n1 h.n3, _, _, _, rfl⟩ (fun p hp f e ⟨hf, b4, b5, b6, he⟩ => by
      subst he
      obtain ⟨p0, p1⟩ := hw p hp
      obtain ⟨t, ht, hat⟩ := at_map tieD p0 p1
      have htt := (h.tie t (List.mem_of_getElem? ht)).2.2.2.2.2
      have hi := (TT_iv h.n1 h.n3 htt).1
      have st : stpT ts p = if p.2 = 1 then t.2.2 else invT t.2.2 := by simp [stpT, ht]
      have stm : stpT ts p ∈ TT n := by rw [st]; split <;> assumption
      have x1 : idxV td (.int p.1) = some (tieD t) := by rw [hd.ix]; exact hat
      have x2 : idxV (tieD t) (.int 2) = some (tnD t.2.2) := by rw [tieD, ixt]; exact at2
      have s1 : evS (G (k + 1)) C0 (.asg (.nm 6) (.idx (.idx (.var 1) (.var 4)) (.cst (.int 2)))) [.val (.int n), .val td, .val (wyD w), .val (tnD f), .val (.int p.1), .val (.int p.2), b6] = some (.nx [.val (.int n), .val td, .val (wyD w), .val (tnD f), .val (.int p.1), .val (.int p.2), .val (tnD t.2.2)]) :=
        sAsg (xIdx (xIdx (xVar rfl) (xVar rfl) x1) xCst x2) rfl rfl
      have c1 : evE (G (k + 1)) C0 (.cmp .eq (.var 5) (.cst (.int 1))) [.val (.int n), .val td, .val (wyD w), .val (tnD f), .val (.int p.1), .val (.int p.2), .val (tnD t.2.2)] = some (.pu (.bool (decide (p.2 = 1))), _) := xCmp (xVar rfl) xCst (eqii p.2 1)
      have x3 : evE (G (k + 1)) C0 (.ite (.cmp .eq (.var 5) (.cst (.int 1))) (.var 6) (.call i_undone_of (.cons (.var 6) (.nil)))) [.val (.int n), .val td, .val (wyD w), .val (tnD f), .val (.int p.1), .val (.int p.2), .val (tnD t.2.2)] = some (.pu (tnD (stpT ts p)), [.val (.int n), .val td, .val (wyD w), .val (tnD f), .val (.int p.1), .val (.int p.2), .val (tnD t.2.2)]) := by
        rw [st]
        by_cases c : p.2 = 1
        · rw [decide_eq_true c] at c1
          rw [if_pos c]
          exact xIteT c1 (xVar rfl)
        · rw [decide_eq_false c] at c1
          rw [if_neg c]
          exact xIteF c1 (xC1 (rv := .pu (tnD (invT t.2.2))) (xVar rfl) (undone_of_ok h.n1 h.n3 htt))
      have s2 : evS (G (k + 1)) C0 (.asg (.nm 3) (.call i_behind_of (.cons (.var 3) (.cons (.ite (.cmp .eq (.var 5) (.cst (.int 1))) (.var 6) (.call i_undone_of (.cons (.var 6) (.nil)))) (.nil))))) [.val (.int n), .val td, .val (wyD w), .val (tnD f), .val (.int p.1), .val (.int p.2), .val (tnD t.2.2)] = some (.nx [.val (.int n), .val td, .val (wyD w), .val (tnD (mulT f (stpT ts p))), .val (.int p.1), .val (.int p.2), .val (tnD t.2.2)]) :=
        sAsg (xC2 (rv := .pu (tnD (mulT f (stpT ts p)))) (xVar rfl) x3 (behind_of_ok h.n1 h.n3 hf stm)) rfl rfl
      exact ⟨[.val (.int n), .val td, .val (wyD w), .val (tnD f), .val (.int p.1), .val (.int p.2), b6], _, rfl, .inl (by unfold l_turn_along_1; rw [ssC s1, ssC s2, ssN]), TT_mul h.n1 h.n3 hf stm, _, _, _, rfl⟩)
  have hs : evS (G (k + 1)) C0 s_turn_along_2 [.val (.int n), .val td, .val (wyD w), .val (tnD (idT n)), .emp, .emp, .emp] = _ := h1
  rw [one (fn := ⟨3, 7, b_turn_along⟩) rfl]
  have s0 : evS (G (k + 1)) C0 (.asg (.nm 3) (.call i_same_turn (.cons (.var 0) (.nil)))) [.val (.int n), .val td, .val (wyD w), .emp, .emp, .emp, .emp] = some (.nx [.val (.int n), .val td, .val (wyD w), .val (tnD (idT n)), .emp, .emp, .emp]) :=
    sAsg (xC1 (rv := .pu (tnD (idT n))) (xVar rfl) (same_turn_ok h.n1 h.n3)) rfl rfl
  exact runP (as := [.int n, td, wyD w]) rfl rfl (((ssC s0).trans (ssC hs)).trans (ssRet (xVar rfl)))
/-! ### the turns along a tree -/
def opD : Option Tn → D
  | none => .none
  | some t => tnD t
def Gd (n m : Nat) (ts : List Tie) (fo : List (Option Tn)) (x : Int) : Prop := ∃ t, fo[x.toNat]? = some (some t) ∧ t ∈ TT n ∧ ∀ f, Led n m ts f → t = f x
theorem Gd.set {fo : List (Option Tn)} {x y : Int} {t : Tn} (hx : x ∈ iot m) (hl : fo.length = m) (ht : t ∈ TT n) (hf : ∀ f, Led n m ts f → t = f x) (hy : y = x ∨ Gd n m ts fo y) (hy' : y ∈ iot m) : Gd n m ts (fo.set x.toNat (some t)) y := by
  obtain ⟨x0, x1⟩ := mem_iot.mp hx
  obtain ⟨y0, y1⟩ := mem_iot.mp hy'
  by_cases e : y = x
  · subst e
    exact ⟨t, by rw [List.getElem?_set_self (by omega)], ht, hf⟩
  · rcases hy with rfl | ⟨u, u1, u2⟩
    · exact absurd rfl e
    · exact ⟨u, by rw [List.getElem?_set_ne (by omega)]; exact u1, u2⟩
theorem gd_all {fo : List (Option Tn)} (hl : fo.length = m) (h : ∀ x ∈ iot m, Gd n m ts fo x) : ∃ fs : List Tn, fo = fs.map some ∧ fs.length = m ∧ (∀ t ∈ fs, t ∈ TT n) ∧ ∀ f, Led n m ts f → fs = (iot m).map f := by
  have get : ∀ i, i < m → ∃ t, fo[i]? = some (some t) ∧ t ∈ TT n ∧ ∀ f, Led n m ts f → t = f i := fun i hi => by
    have := h (i : Int) (mem_iot.mpr (by omega))
    exact this
  refine ⟨(List.range m).map fun i => ((fo[i]?).getD none).getD [], ?_, by simp, fun t ht => ?_, fun f hf => ?_⟩
  · apply List.ext_getElem?
    intro i
    by_cases hi : i < m
    · obtain ⟨t, h1, _⟩ := get i hi
      simp [h1, hi]
    · have z : fo[i]? = none := List.getElem?_eq_none_iff.mpr (by omega)
      rw [z]
      exact (List.getElem?_eq_none_iff.mpr (by simp; omega)).symm
  · simp only [List.mem_map, List.mem_range] at ht
    obtain ⟨i, hi, rfl⟩ := ht
    obtain ⟨t, h1, h2, _⟩ := get i hi
    simpa [h1] using h2
  · simp only [iot, List.map_map]
    refine List.map_congr_left fun i hi => ?_
    obtain ⟨t, h1, _, h3⟩ := get i (List.mem_range.mp hi)
    simp [h1, h3 f hf]
theorem pcs_eq : pcsN (esL (nlL ts)) m (iot (nlL ts).length) m = pcsT m ts := by rw [esL_nl, nlL_len]; rfl
theorem piece_at {p : List Int} (hp : p ∈ pcsT m ts) : ∃ s r, p = s :: r ∧ s ∈ iot m ∧ lstT m ts s ∧ p = compT m ts s := by
  simp only [pcsT, List.mem_map, List.mem_filter, decide_eq_true_eq] at hp
  obtain ⟨s, ⟨hs, hl⟩, rfl⟩ := hp
  obtain ⟨r, l, e, er⟩ := comp_cons (ts := ts) hs
  rw [(lst_root hs).mp hl] at er
  exact ⟨s, l, by rw [e, er], hs, hl, rfl⟩
theorem in_piece {x : Int} (hx : x ∈ iot m) : ∃ p ∈ pcsT m ts, x ∈ p := by
  obtain ⟨r1, r2, _⟩ := root_ok (ts := ts) hx
  refine ⟨compT m ts (rootT m ts x), ?_, mem_compT.mpr ⟨hx, r2.symm⟩⟩
  simp only [pcsT, List.mem_map, List.mem_filter, decide_eq_true_eq]
  exact ⟨_, ⟨r1, root_lst hx⟩, rfl⟩
def ttE (n m : Nat) (td tr : D) (b4 : Sl) (net : D) (fo : List (Option Tn)) (b7 b8 : Sl) : Ev := [.val (.int n), .val (.int m), .val td, .val tr, b4, .val net, .own 0 (fo.map opD), b7, b8]
theorem tt_in (h : okTs n m ts) (hd : Seq td (ts.map tieD)) {tr : List Int} (htr : ∀ a ∈ tr, a ∈ iot ts.length) {s : Int} {p : List Int} (hs : s ∈ iot m) (hl : lstT m ts s) (hp : ∀ x ∈ p, x ∈ iot m) {ks : List (Int × List (Int × Int))} (hk : ∀ x ∈ p, x ∈ ks.map (·.1)) (hK : KInv (esT ts) s tr ks) {net : D} {trD : D} {fo : List (Option Tn)} {b8 : Sl} (hz : fo.length = m) {dn : Int → Prop} (hdn : ∀ x, dn x → x ∈ iot m ∧ Gd n m ts fo x) :
    ∃ fo' b8', evS (G (k + 3)) C0 s_tree_turns_2 (ttE n m td trD (.val (pD1 p)) net fo (.val (.dict (dkW ks))) b8) = some (.nx (ttE n m td trD (.val (pD1 p)) net fo' (.val (.dict (dkW ks))) b8')) ∧ fo'.length = m ∧ ∀ x, (dn x ∨ x ∈ p) → Gd n m ts fo' x := by
  obtain ⟨e2, h1, fo', b8', rfl, h2, h3⟩ := foI (F := G (k + 3)) (C := C0) (t := .nm 8) (it := .it (.var 4)) (b := l_tree_turns_1) (env := ttE n m td trD (.val (pD1 p)) net fo (.val (.dict (dkW ks))) b8) (e1 := ttE n m td trD (.val (pD1 p)) net fo (.val (.dict (dkW ks))) b8) PyData.int p
    (fun d e => ∃ (fo' : List (Option Tn)) (b8' : Sl), e = ttE n m td trD (.val (pD1 p)) net fo' (.val (.dict (dkW ks))) b8' ∧ fo'.length = m ∧ ∀ x, (dn x ∨ x ∈ d) → Gd n m ts fo' x) rfl (iPl (xVar rfl)) ⟨fo, b8, rfl, hz, fun x hx => by
      rcases hx with hx | hx
      · exact (hdn x hx).2
      · cases hx⟩ (fun d x r e hdd ⟨fo1, b81, he, q1, q2⟩ => by
      subst he
      have hxp : x ∈ p := by rw [hdd]; simp
      have hxm := hp x hxp
      obtain ⟨x0, x1⟩ := mem_iot.mp hxm
      obtain ⟨w, hw, hwm⟩ := kget_in wyD (hk x hxp)
      obtain ⟨w1, w2, _⟩ := hK _ hwm
      have wr : ∀ q ∈ w, 0 ≤ q.1 ∧ q.1 < (ts.length : Int) := fun q hq => mem_iot.mp (htr _ (w2 q hq))
      have al := along_ok (k := k + 1) h hd wr
      have ix : L2.ixN (fo1.map opD).length x = some x.toNat := by
        rw [List.length_map]; exact ixN_ok x0 (by omega)
      have s1 : evS (G (k + 3)) C0 (.asg (.sub 6 (.var 8)) (.call i_turn_along (.cons (.var 0) (.cons (.var 2) (.cons (.dix (.var 7) (.var 8)) (.nil)))))) (ttE n m td trD (.val (pD1 p)) net fo1 (.val (.dict (dkW ks))) (.val (.int x))) = some (.nx ((ttE n m td trD (.val (pD1 p)) net fo1 (.val (.dict (dkW ks))) (.val (.int x))).set 6 (.own 0 ((fo1.map opD).set x.toNat (tnD (prW n ts w)))))) :=
        sSub (xC3 (rv := .pu (tnD (prW n ts w))) (xVar rfl) (xVar rfl) (xDixV (xVar rfl) (xVar rfl) rfl hw) al) rfl rfl (xVar rfl) ix
      have e1 : (fo1.map opD).set x.toNat (tnD (prW n ts w)) = (fo1.set x.toNat (some (prW n ts w))).map opD := by rw [List.map_set]; rfl
      rw [e1] at s1
      refine ⟨ttE n m td trD (.val (pD1 p)) net fo1 (.val (.dict (dkW ks))) (.val (.int x)), ttE n m td trD (.val (pD1 p)) net (fo1.set x.toNat (some (prW n ts w))) (.val (.dict (dkW ks))) (.val (.int x)), rfl, .inl (by unfold l_tree_turns_1; rw [ssC s1, ssN]; rfl), _, _, rfl, by rw [List.length_set]; exact q1, fun y hy => ?_⟩
      have hym : y ∈ iot m := by
        rcases hy with hy | hy
        · exact (hdn y hy).1
        · refine hp y ?_
          rw [hdd]
          rcases List.mem_append.mp hy with hy | hy
          · simp [hy]
          · simp at hy; simp [hy]
      refine Gd.set hxm q1 (prW_mem h wr) (fun f hf => (prW_ok h hf.ag hf.vl (hf.rt s hs hl) w1 hs).1) ?_ hym
      rcases hy with hy | hy
      · exact .inr (q2 y (.inl hy))
      · rcases List.mem_append.mp hy with hy | hy
        · exact .inr (q2 y (.inr hy))
        · simp at hy; exact .inl hy)
  exact ⟨fo', b8', h1, h2, h3⟩
theorem tree_turns_ok (h : okTs n m ts) (hd : Seq td (ts.map tieD)) : ∃ fs : List Tn, G (k + 4) i_tree_turns [.pu (.int n), .pu (.int m), .pu td] = some (.fr (fs.map tnD), []) ∧ fs.length = m ∧ (∀ t ∈ fs, t ∈ TT n) ∧ ∀ f, Led n m ts f → fs = (iot m).map f := by
  have N := net_nt h
  have lz := h.ln
  have m8 := h.m8
  have nl : (nlL ts).length = ts.length := nlL_len
  have hl : ∀ a ∈ iot (nlL ts).length, 0 ≤ a ∧ a < ((nlL ts).length : Int) := fun a ha => mem_iot.mp ha
  have AL := all_legs_ok (k := k + 2) N
  have NO := net_of_ok (k := k + 2) (m := m) hd.seq (by omega)
  obtain ⟨tr, T1, T2, T3⟩ := tree_of_ok (k := k + 2) N hl (by rw [iot_len]; omega)
  have P := pieces_by_ok (k := k) N hl
  rw [pcs_eq] at P
  rw [esL_nl] at T3
  have T2' : ∀ a ∈ tr, a ∈ iot ts.length := fun a ha => by have := T2 a ha; rwa [nl] at this
  obtain ⟨e2, h1, fo, b4, b7, b8, rfl, h2, h3⟩ := foI (F := G (k + 3)) (C := C0) (t := .nm 4) (it := .it (.call i_pieces_by (.cons (.var 5) (.cons (.call i_all_legs (.cons (.var 5) (.nil))) (.nil))))) (b := l_tree_turns_3) (env := ttE n m td (.tuple (tr.map .int)) .emp (nt m ts) (List.replicate m none) .emp .emp) (e1 := ttE n m td (.tuple (tr.map .int)) .emp (nt m ts) (List.replicate m none) .emp .emp) pD1 (pcsT m ts)
    (fun d e => ∃ (fo : List (Option Tn)) (b4 b7 b8 : Sl), e = ttE n m td (.tuple (tr.map .int)) b4 (nt m ts) fo b7 b8 ∧ fo.length = m ∧ ∀ p ∈ d, ∀ x ∈ p, Gd n m ts fo x) rfl
    (iFr (xC2 (rv := .fr _) (xVar rfl) (xC1 (rv := .pu _) (xVar rfl) AL) P)) ⟨_, _, _, _, rfl, by simp, by simp⟩ (fun d p r e hdd ⟨fo, b4, b7, b8, he, q1, q2⟩ => by
      subst he
      have hpm : p ∈ pcsT m ts := by rw [hdd]; simp
      obtain ⟨s, l, pe, hs, hls, pc⟩ := piece_at hpm
      obtain ⟨ks, w1, w2, w3, w4⟩ := ways_ok (k := k + 1) (lot := tr) N hs
      rw [esL_nl] at w2 w3
      have pin : ∀ x ∈ p, x ∈ iot m := fun x hx => by rw [pc] at hx; exact (mem_compT.mp hx).1
      have hk : ∀ x ∈ p, x ∈ ks.map (·.1) := fun x hx => by
        have hx' := hx
        rw [pc] at hx'
        obtain ⟨c1, c2⟩ := mem_compT.mp hx'
        refine (w2 x).mpr ((T3 s hs x c1).mpr ?_)
        rw [nl]; exact c2
      have i0 : idxV (pD1 p) (.int 0) = some (.int s) := by
        rw [pe, pD1, ixl]; exact at0
      have s1 : evS (G (k + 3)) C0 (.asg (.nm 7) (.call i_ways_by (.cons (.var 5) (.cons (.idx (.var 4) (.cst (.int 0))) (.cons (.var 3) (.nil)))))) (ttE n m td (.tuple (tr.map .int)) (.val (pD1 p)) (nt m ts) fo b7 b8) = some (.nx (ttE n m td (.tuple (tr.map .int)) (.val (pD1 p)) (nt m ts) fo (.val (.dict (dkW ks))) b8)) :=
        sAsg (xC3 (rv := .pu (.dict (dkW ks))) (xVar rfl) (xIdx (xVar rfl) xCst i0) (xVar rfl) w1) rfl rfl
      obtain ⟨fo', b8', r1, r2, r3⟩ := tt_in (k := k) h hd T2' hs hls pin hk w3 (net := nt m ts) (trD := .tuple (tr.map .int)) (fo := fo) (b8 := b8) q1 (dn := fun x => ∃ p' ∈ d, x ∈ p') (fun x ⟨p', hp', hx⟩ => by
        refine ⟨?_, q2 p' hp' x hx⟩
        have : p' ∈ pcsT m ts := by rw [hdd]; simp [hp']
        obtain ⟨_, _, _, _, _, pc'⟩ := piece_at this
        rw [pc'] at hx
        exact (mem_compT.mp hx).1)
      refine ⟨ttE n m td (.tuple (tr.map .int)) (.val (pD1 p)) (nt m ts) fo b7 b8, _, rfl, .inl (by unfold l_tree_turns_3; rw [ssC s1, ssC r1, ssN]), fo', _, _, _, rfl, r2, fun p' hp' x hx => ?_⟩
      rcases List.mem_append.mp hp' with hp' | hp'
      · exact r3 x (.inl ⟨p', hp', hx⟩)
      · simp at hp'; subst hp'
        exact r3 x (.inr hx))
  obtain ⟨fs, f1, f2, f3, f4⟩ := gd_all h2 fun x hx => by
    obtain ⟨p, hp, hxp⟩ := in_piece (ts := ts) hx
    exact h3 p hp x hxp
  refine ⟨fs, ?_, f2, f3, f4⟩
  have hs : evS (G (k + 3)) C0 s_tree_turns_4 (ttE n m td (.tuple (tr.map .int)) .emp (nt m ts) (List.replicate m none) .emp .emp) = _ := h1
  rw [one (fn := ⟨3, 9, b_tree_turns⟩) rfl]
  have nv : binV .mul (.list [.none]) (.int m) = some (.fr ((List.replicate m (none : Option Tn)).map opD)) := by
    have rp : ∀ j : Nat, repL j [PyData.none] = List.replicate j PyData.none := by
      intro j
      induction j with
      | zero => rfl
      | succ j ih => simp [repL, ih, List.replicate_succ]
    have z1 : small64 (m : Int) = true := sm (by omega) (by omega)
    have z2 : lenOk (1 * (m : Int).toNat) = true := lenOk_of (by simp; omega)
    have z3 : (-9223372036854775808 : Int) ≤ m := by omega
    have z4 : (m : Int) < 9223372036854775808 := by omega
    show (if (small64 (m : Int) && decide ((-9223372036854775808 : Int) ≤ m) && decide ((m : Int) < 9223372036854775808) && lenOk (1 * (m : Int).toNat)) = true then some (Opd.fr (repL (m : Int).toNat [.none])) else none) = _
    rw [z1, z2, decide_eq_true z3, decide_eq_true z4]
    rw [Int.toNat_natCast, rp]
    simp [opD]
  have s1 : evS (G (k + 3)) C0 (.par2 5 6 false true (.call i_net_of (.cons (.var 1) (.cons (.var 2) (.nil)))) (.bin .mul (.lst (.cons (.cst .none) (.nil))) (.var 1))) [.val (.int n), .val (.int m), .val td, .emp, .emp, .emp, .emp, .emp, .emp] = some (.nx [.val (.int n), .val (.int m), .val td, .emp, .emp, .val (nt m ts), .own 0 ((List.replicate m (none : Option Tn)).map opD), .emp, .emp]) := by
    have x1 : evE (G (k + 3)) C0 (.call i_net_of (.cons (.var 1) (.cons (.var 2) (.nil)))) [.val (.int n), .val (.int m), .val td, .emp, .emp, .emp, .emp, .emp, .emp] = some (.pu (nt m ts), [.val (.int n), .val (.int m), .val td, .emp, .emp, .emp, .emp, .emp, .emp]) := xC2 (rv := .pu _) (xVar rfl) (xVar rfl) NO
    have x2 : evE (G (k + 3)) C0 (.bin .mul (.lst (.cons (.cst .none) (.nil))) (.var 1)) [.val (.int n), .val (.int m), .val td, .emp, .emp, .emp, .emp, .emp, .emp] = some (.fr ((List.replicate m (none : Option Tn)).map opD), [.val (.int n), .val (.int m), .val td, .emp, .emp, .emp, .emp, .emp, .emp]) := by
      have x3 : evE (G (k + 3)) C0 (.lst (.cons (.cst .none) (.nil))) [.val (.int n), .val (.int m), .val td, .emp, .emp, .emp, .emp, .emp, .emp] = some (.fr [.none], [.val (.int n), .val (.int m), .val td, .emp, .emp, .emp, .emp, .emp, .emp]) := by
        rw [evE, evP, xCst]; dsimp only; rw [frzd]; dsimp only; rw [evP]; rfl
      rw [evE, x3]; dsimp only; rw [xVar (x := .int m) rfl]; dsimp only; rw [rdp, rdp]; dsimp only; rw [nv]; rfl
    exact sPar2 x1 rfl x2 rfl rfl rfl
  have s2 : evS (G (k + 3)) C0 (.asg (.nm 3) (.call i_tree_of (.cons (.var 5) (.cons (.call i_all_legs (.cons (.var 5) (.nil))) (.nil))))) [.val (.int n), .val (.int m), .val td, .emp, .emp, .val (nt m ts), .own 0 ((List.replicate m (none : Option Tn)).map opD), .emp, .emp] = some (.nx (ttE n m td (.tuple (tr.map .int)) .emp (nt m ts) (List.replicate m none) .emp .emp)) :=
    sAsg (xC2 (rv := .pu (.tuple (tr.map .int))) (xVar rfl) (xC1 (rv := .pu _) (xVar rfl) AL) T1) rfl rfl
  have fe : fo.map opD = fs.map tnD := by rw [f1, List.map_map]; rfl
  refine runOw (as := [.int n, .int m, td]) (i := 6) rfl rfl ((((ssC s1).trans (ssC s2)).trans (ssC hs)).trans (ssRet (xOwn rfl))) ?_
  show some (Sl.own 0 (fo.map opD)) = _
  rw [fe]
end
end K84

set_option Elab.async false
set_option linter.all false
set_option maxRecDepth 100000
set_option maxHeartbeats 4000000
namespace K84
open PySem Rf
section
variable {k n m : Nat} {ts : List Tie} {td ud : D} {fs : List Tn} {t : Tie}
/-! ### what is asked of parameters -/
theorem want_dims_ok (h1 : 1 ≤ n) (h3 : n ≤ 3) : G (k + 3) i_want_dims [.pu (.int n)] = some (.pu .none, []) := by
  have w := is_within_ok (k := k) (d := .int (n : Int)) (lo := 1) (hi := 3)
  have e : inRg 1 3 (.int (n : Int)) = true := by simp [inRg]; omega
  rw [e] at w
  rw [one (fn := ⟨1, 1, b_want_dims⟩) rfl]
  exact runNx (as := [.int n]) rfl rfl ((ssF (xNot (xC3 (rv := .pu (.bool true)) (xVar (i := 0) rfl) xCst (xGlo rfl) w))).trans ssN)
theorem want_many_ok (h1 : 1 ≤ m) (h8 : m ≤ 8) : G (k + 3) i_want_many [.pu (.int m)] = some (.pu .none, []) := by
  have w := is_within_ok (k := k) (d := .int (m : Int)) (lo := 1) (hi := 8)
  have e : inRg 1 8 (.int (m : Int)) = true := by simp [inRg]; omega
  rw [e] at w
  rw [one (fn := ⟨1, 1, b_want_many⟩) rfl]
  exact runNx (as := [.int m]) rfl rfl ((ssF (xNot (xC3 (rv := .pu (.bool true)) (xVar (i := 0) rfl) xCst (xGlo rfl) w))).trans ssN)
theorem is_tie_ok (h : okTs n m ts) (ht : t ∈ ts) : G (k + 4) i_is_tie [.pu (.int n), .pu (.int m), .pu (tieD t)] = some (.pu (.bool true), []) := by
  obtain ⟨q1, q2, q3, q4, q5, q6⟩ := h.tie t ht
  have w := is_tuple_ok (k := k + 2) (d := tieD t) (n := 3)
  have e : isTup 3 (tieD t) = true := rfl
  rw [e] at w
  rw [one (fn := ⟨3, 4, b_is_tie⟩) rfl]
  have c := lcA (F := G (k + 3)) (C := C0) (elt := .call i_is_within (.cons (.var 3) (.cons (.cst (.int 0)) (.cons (.bin .sub (.var 1) (.cst (.int 1))) (.nil))))) (tg := .nm 3) (it := .it (.slc (.var 2) (.non) (.som (.cst (.int 2))))) (own := [3])
    (env := [.val (.int n), .val (.int m), .val (tieD t), .emp]) (e0 := [.val (.int n), .val (.int m), .val (tieD t), .emp]) (e2 := [.val (.int n), .val (.int m), .val (tieD t), .emp]) PyData.int [t.1, t.2.1] (fun _ => .bool true) (fun x => [.val (.int n), .val (.int m), .val (tieD t), .val (.int x)])
    (iPt (slcE (xVar rfl) oNon oCst rfl)) rfl rfl (by simp) (fun x hx => rfl) (fun x hx => rfl) (fun x hx => by
      have w := is_within_ok (k := k + 1) (d := .int x) (lo := 0) (hi := (m : Int) - 1)
      have e : inRg 0 ((m : Int) - 1) (.int x) = true := by
        simp at hx
        simp [inRg]; omega
      rw [e] at w
      exact ⟨_, xC3 (rv := .pu (.bool true)) (xVar rfl) xCst (xBin (xVar rfl) xCst rfl) w, rfl⟩)
  have c' : evE (G (k + 3)) C0 e_is_tie_1 [.val (.int n), .val (.int m), .val (tieD t), .emp] = some (.fr ([t.1, t.2.1].map fun _ => .bool true), [.val (.int n), .val (.int m), .val (tieD t), .emp]) := c
  have a := tAll (g := fun _ => true) c'
  have ne : cmpV .ne (.int t.1) (.int t.2.1) = some true := by
    show (eqD (.int t.1) (.int t.2.1)).map not = _
    rw [eqii, decide_eq_false q5]; rfl
  have i0 : idxV (tieD t) (.int 0) = some (.int t.1) := by rw [tieD, ixt]; exact at0
  have i1 : idxV (tieD t) (.int 1) = some (.int t.2.1) := by rw [tieD, ixt]; exact at1
  have i2 : idxV (tieD t) (.int 2) = some (tnD t.2.2) := by rw [tieD, ixt]; exact at2
  refine runP (as := [.int n, .int m, tieD t]) rfl rfl ((ssF (xOrF (xNot (xC2 (rv := .pu (.bool true)) (xVar (i := 2) rfl) xCst w)) (xNot a))).trans (ssRet (xAndT (xCmp (xIdx (xVar (i := 2) rfl) xCst i0) (xIdx (xVar (i := 2) rfl) xCst i1) ne) (xC2 (rv := .pu (.bool true)) (xVar rfl) (xIdx (xVar rfl) xCst i2) (is_turn_ok (k := k) h.n1 h.n3 q6)))))
theorem want_ties_ok (h : okTs n m ts) (hd : Seq td (ts.map tieD)) : G (k + 5) i_want_ties [.pu (.int n), .pu (.int m), .pu td] = some (.pu .none, []) := by
  have w := is_list_ok (k := k + 3) (d := td)
  rw [hd.isL] at w
  have lz := h.ln
  rw [one (fn := ⟨3, 4, b_want_ties⟩) rfl]
  have c := lcA (F := G (k + 4)) (C := C0) (elt := .call i_is_tie (.cons (.var 0) (.cons (.var 1) (.cons (.var 3) (.nil))))) (tg := .nm 3) (it := .it (.var 2)) (own := [3])
    (env := [.val (.int n), .val (.int m), .val td, .emp]) (e0 := [.val (.int n), .val (.int m), .val td, .emp]) (e2 := [.val (.int n), .val (.int m), .val td, .emp]) tieD ts (fun _ => .bool true) (fun x => [.val (.int n), .val (.int m), .val td, .val (tieD x)])
    (iIt (xVar rfl) rfl hd.seq) rfl rfl (by omega) (fun x hx => rfl) (fun x hx => rfl) (fun x hx => ⟨_, xC3 (rv := .pu (.bool true)) (xVar rfl) (xVar rfl) (xVar rfl) (is_tie_ok h hx), rfl⟩)
  have c' : evE (G (k + 4)) C0 e_want_ties_1 [.val (.int n), .val (.int m), .val td, .emp] = some (.fr (ts.map fun _ => .bool true), [.val (.int n), .val (.int m), .val td, .emp]) := c
  have a := tAll (g := fun _ => true) c'
  rw [show ts.all (fun _ => true) = true by simp] at a
  have gt : cmpV .gt (.int ((ts.map tieD).length : Int)) (.int 24) = some false := by
    show some (decide ((24 : Int) < ((ts.map tieD).length : Int))) = _
    rw [decide_eq_false (by rw [List.length_map]; omega)]
  exact runNx (as := [.int n, .int m, td]) rfl rfl ((ssF (xOrF (xNot (xC1 (rv := .pu (.bool true)) (xVar (i := 2) rfl) w)) (xOrF (xCmp (xB1 (xVar (i := 2) rfl) hd.len) (xGlo rfl) gt) (xNot a)))).trans ssN)
theorem want_tied_ok (h : okTs n m ts) (hd : Seq td (ts.map tieD)) : G (k + 6) i_want_tied [.pu (.int n), .pu (.int m), .pu td] = some (.pu .none, []) := by
  rw [one (fn := ⟨3, 3, b_want_tied⟩) rfl]
  exact runNx (as := [.int n, .int m, td]) rfl rfl (((ssC (sEx (xC1 (rv := .pu .none) (xVar (i := 0) rfl) (want_dims_ok (k := k + 2) h.n1 h.n3)))).trans (ssC (sEx (xC1 (rv := .pu .none) (xVar (i := 1) rfl) (want_many_ok (k := k + 2) h.m1 h.m8))))).trans ((ssC (sEx (xC3 (rv := .pu .none) (xVar (i := 0) rfl) (xVar (i := 1) rfl) (xVar (i := 2) rfl) (want_ties_ok (k := k) h hd)))).trans ssN))
theorem want_turns_ok (h1 : 1 ≤ n) (h3 : n ≤ 3) (hm : m ≤ 1000) (hu : Seq ud (fs.map tnD)) (hl : fs.length = m) (hv : ∀ t ∈ fs, t ∈ TT n) : G (k + 4) i_want_turns [.pu (.int n), .pu (.int m), .pu ud] = some (.pu .none, []) := by
  have w := is_list_ok (k := k + 2) (d := ud)
  rw [hu.isL] at w
  rw [one (fn := ⟨3, 4, b_want_turns⟩) rfl]
  have c := lcA (F := G (k + 3)) (C := C0) (elt := .call i_is_turn_of (.cons (.var 0) (.cons (.var 3) (.nil)))) (tg := .nm 3) (it := .it (.var 2)) (own := [3])
    (env := [.val (.int n), .val (.int m), .val ud, .emp]) (e0 := [.val (.int n), .val (.int m), .val ud, .emp]) (e2 := [.val (.int n), .val (.int m), .val ud, .emp]) tnD fs (fun _ => .bool true) (fun x => [.val (.int n), .val (.int m), .val ud, .val (tnD x)])
    (iIt (xVar rfl) rfl hu.seq) rfl rfl (by omega) (fun x hx => rfl) (fun x hx => rfl) (fun x hx => ⟨_, xC2 (rv := .pu (.bool true)) (xVar rfl) (xVar rfl) (is_turn_ok h1 h3 (hv x hx)), rfl⟩)
  have c' : evE (G (k + 3)) C0 e_want_turns_1 [.val (.int n), .val (.int m), .val ud, .emp] = some (.fr (fs.map fun _ => .bool true), [.val (.int n), .val (.int m), .val ud, .emp]) := c
  have a := tAll (g := fun _ => true) c'
  rw [show fs.all (fun _ => true) = true by simp] at a
  have ne : cmpV .ne (.int ((fs.map tnD).length : Int)) (.int m) = some false := by
    show (eqD (.int ((fs.map tnD).length : Int)) (.int m)).map not = _
    rw [eqii, decide_eq_true (by rw [List.length_map, hl])]; rfl
  exact runNx (as := [.int n, .int m, ud]) rfl rfl ((ssF (xOrF (xNot (xC1 (rv := .pu (.bool true)) (xVar (i := 2) rfl) w)) (xOrF (xCmp (xB1 (xVar (i := 2) rfl) hu.len) (xVar (i := 1) rfl) ne) (xNot a)))).trans ssN)
/-! ### do ties fit turns -/
theorem turn_at (hu : Seq ud (fs.map tnD)) (hl : fs.length = m) {x : Int} (hx : x ∈ iot m) : idxV ud (.int x) = some (tnD (gTn fs x)) := by
  obtain ⟨h0, h1⟩ := mem_iot.mp hx
  obtain ⟨y, hy, ha⟩ := at_map tnD h0 (by omega : x < fs.length)
  rw [hu.ix, ha]
  simp [gTn, hy]
def fitB (fs : List Tn) (t : Tie) : Bool := gTn fs t.2.1 == mulT (gTn fs t.1) t.2.2
theorem does_fit_ok (h : okTs n m ts) (ht : t ∈ ts) (hu : Seq ud (fs.map tnD)) (hl : fs.length = m) (hv : ∀ t ∈ fs, t ∈ TT n) : G (k + 2) i_does_fit [.pu (tieD t), .pu ud] = some (.pu (.bool (fitB fs t)), []) := by
  obtain ⟨q1, q2, q3, q4, q5, q6⟩ := h.tie t ht
  have x1 : t.1 ∈ iot m := mem_iot.mpr ⟨q1, q2⟩
  have x2 : t.2.1 ∈ iot m := mem_iot.mpr ⟨q3, q4⟩
  have s1 : evS (G (k + 1)) C0 (.asg (.tp (.cons (.nm 2) (.cons (.nm 3) (.cons (.nm 4) (.nil))))) (.var 0)) [.val (tieD t), .val ud, .emp, .emp, .emp] = some (.nx [.val (tieD t), .val ud, .val (.int t.1), .val (.int t.2.1), .val (tnD t.2.2)]) := sTup3 (xVar rfl) rfl rfl rfl
  have eq := eq_tD (gTn fs t.2.1) (mulT (gTn fs t.1) t.2.2)
  have e : decide (gTn fs t.2.1 = mulT (gTn fs t.1) t.2.2) = fitB fs t := by unfold fitB; rw [Bool.eq_iff_iff]; simp
  rw [e] at eq
  rw [one (fn := ⟨2, 5, b_does_fit⟩) rfl]
  exact runP (as := [tieD t, ud]) rfl rfl ((ssC s1).trans (ssRet (xCmp (xIdx (xVar rfl) (xVar rfl) (turn_at hu hl x2)) (xC2 (rv := .pu (tnD (mulT (gTn fs t.1) t.2.2))) (xIdx (xVar rfl) (xVar rfl) (turn_at hu hl x1)) (xVar rfl) (behind_of_ok h.n1 h.n3 (hv _ (gT_mem hl x1)) q6)) eq)))
theorem do_agree_ok (h : okTs n m ts) (hd : Seq td (ts.map tieD)) (hu : Seq ud (fs.map tnD)) (hl : fs.length = m) (hv : ∀ t ∈ fs, t ∈ TT n) : G (k + 7) i_do_agree [.pu (.int n), .pu (.int m), .pu td, .pu ud] = some (.pu (.bool (agB ts fs)), []) := by
  have lz := h.ln
  rw [one (fn := ⟨4, 5, b_do_agree⟩) rfl]
  have c := lcA (F := G (k + 6)) (C := C0) (elt := .call i_does_fit (.cons (.var 4) (.cons (.var 3) (.nil)))) (tg := .nm 4) (it := .it (.var 2)) (own := [4])
    (env := [.val (.int n), .val (.int m), .val td, .val ud, .emp]) (e0 := [.val (.int n), .val (.int m), .val td, .val ud, .emp]) (e2 := [.val (.int n), .val (.int m), .val td, .val ud, .emp]) tieD ts (fun t => .bool (fitB fs t)) (fun x => [.val (.int n), .val (.int m), .val td, .val ud, .val (tieD x)])
    (iIt (xVar rfl) rfl hd.seq) rfl rfl (by omega) (fun x hx => rfl) (fun x hx => rfl) (fun x hx => ⟨_, xC2 (rv := .pu (.bool (fitB fs x))) (xVar rfl) (xVar rfl) (does_fit_ok (k := k + 4) h hx hu hl hv), rfl⟩)
  have c' : evE (G (k + 6)) C0 e_do_agree_1 [.val (.int n), .val (.int m), .val td, .val ud, .emp] = some (.fr (ts.map fun t => .bool (fitB fs t)), [.val (.int n), .val (.int m), .val td, .val ud, .emp]) := c
  have a := tAll (g := fitB fs) c'
  exact runP (as := [.int n, .int m, td, ud]) rfl rfl (((ssC (sEx (xC3 (rv := .pu .none) (xVar (i := 0) rfl) (xVar (i := 1) rfl) (xVar (i := 2) rfl) (want_tied_ok h hd)))).trans (ssC (sEx (xC3 (rv := .pu .none) (xVar (i := 0) rfl) (xVar (i := 1) rfl) (xVar (i := 3) rfl) (want_turns_ok (k := k + 2) h.n1 h.n3 (by have := h.m8; omega) hu hl hv))))).trans (ssRet a))
/-! ### open ties, told turns -/
theorem open_ties_ok (h : okTs n m ts) (hd : Seq td (ts.map tieD)) : ∃ l : List Int, G (k + 5) i_open_ties [.pu (.int n), .pu (.int m), .pu td] = some (.fr (l.map .int), []) ∧ (l = [] ↔ (ledO n m ts).isSome = true) := by
  obtain ⟨fs, T1, T2, T3, T4⟩ := tree_turns_ok (k := k) h hd
  have lz := h.ln
  refine ⟨(ts.zipIdx.filter fun p => !fitB fs p.1).map fun p => (p.2 : Int), ?_, ?_⟩
  · rw [one (fn := ⟨3, 6, b_open_ties⟩) rfl]
    have hu : Seq (.list (fs.map tnD)) (fs.map tnD) := .inl rfl
    have s1 : evS (G (k + 4)) C0 (.asg (.nm 3) (.call i_tree_turns (.cons (.var 0) (.cons (.var 1) (.cons (.var 2) (.nil)))))) [.val (.int n), .val (.int m), .val td, .emp, .emp, .emp] = some (.nx [.val (.int n), .val (.int m), .val td, .val (.list (fs.map tnD)), .emp, .emp]) :=
      sAsg (xC3 (rv := .fr _) (xVar rfl) (xVar rfl) (xVar rfl) T1) rfl rfl
    have c := lcT (F := G (k + 4)) (C := C0) (elt := .var 4) (tg := .tp (.cons (.nm 4) (.cons (.nm 5) (.nil)))) (it := .enu (.var 2)) (cd := .som (.nt (.call i_does_fit (.cons (.var 5) (.cons (.var 3) (.nil)))))) (own := [4, 5])
      (env := [.val (.int n), .val (.int m), .val td, .val (.list (fs.map tnD)), .emp, .emp]) (e0 := [.val (.int n), .val (.int m), .val td, .val (.list (fs.map tnD)), .emp, .emp]) (e2 := [.val (.int n), .val (.int m), .val td, .val (.list (fs.map tnD)), .emp, .emp])
      (fun p : Tie × Nat => .tuple [.int p.2, tieD p.1]) ts.zipIdx (fun p => !fitB fs p.1) (fun p => .int p.2) (fun p => [.val (.int n), .val (.int m), .val td, .val (.list (fs.map tnD)), .val (.int p.2), .val (tieD p.1)])
      (by
        have q := xEnu (F := G (k + 4)) (C := C0) (xVar (i := 2) (env := [.val (.int n), .val (.int m), .val td, .val (.list (fs.map tnD)), .emp, .emp]) rfl) rfl hd.seq
        rw [enu_map tieD ts 0] at q
        exact q) rfl rfl (by simp; omega) (fun p hp => rfl) (fun p hp => rfl)
      (fun p hp => dSom (xNot (xC2 (rv := .pu (.bool (fitB fs p.1))) (xVar rfl) (xVar rfl) (does_fit_ok (k := k + 2) h (List.fst_mem_of_mem_zipIdx hp) hu T2 T3))))
      (fun p hp _ => ⟨_, xVar rfl, rfl⟩)
    have e : (ts.zipIdx.filter fun p => !fitB fs p.1).map (fun p => PyData.int p.2) = ((ts.zipIdx.filter fun p => !fitB fs p.1).map fun p => (p.2 : Int)).map .int := by simp [List.map_map, Function.comp_def]
    rw [e] at c
    exact runFr (as := [.int n, .int m, td]) rfl rfl ((ssC s1).trans (ssRet c))
  · rw [← told_ok h T2 T3 T4]
    rw [List.map_eq_nil_iff, List.filter_eq_nil_iff]
    constructor
    · intro q
      rw [if_pos]
      · rfl
      · refine List.all_eq_true.mpr fun t ht => ?_
        obtain ⟨i, hi⟩ := List.mem_iff_getElem?.mp ht
        have := q (t, i) (List.mem_zipIdx_iff_getElem?.mpr hi)
        simpa [fitB] using this
    · intro q p hp
      have hp' := List.fst_mem_of_mem_zipIdx hp
      by_cases c : agB ts fs = true
      · have := List.all_eq_true.mp c _ hp'
        simpa [fitB] using this
      · rw [if_neg c] at q; cases q
def toldR : Option (List Tn) → Rv
  | some fs => .fr (fs.map tnD)
  | none => .pu .none
theorem told_turns_ok (h : okTs n m ts) (hd : Seq td (ts.map tieD)) : G (k + 6) i_told_turns [.pu (.int n), .pu (.int m), .pu td] = some (toldR (ledO n m ts), []) := by
  obtain ⟨l, L1, L2⟩ := open_ties_ok (k := k) h hd
  obtain ⟨fs, T1, T2, T3, T4⟩ := tree_turns_ok (k := k + 1) h hd
  have tk := told_ok h T2 T3 T4
  rw [one (fn := ⟨3, 3, b_told_turns⟩) rfl]
  have c := xCmpR (F := G (k + 5)) (C := C0) (op := .eq) (env := [.val (.int n), .val (.int m), .val td]) (xC3 (rv := .fr (l.map .int)) (xVar (i := 0) rfl) (xVar (i := 1) rfl) (xVar (i := 2) rfl) L1) xNil rfl rfl (eq_nilI l)
  by_cases q : l = []
  · rw [decide_eq_true q] at c
    have hs := L2.mp q
    have e : ledO n m ts = some fs := by
      rw [← tk] at hs ⊢
      by_cases z : agB ts fs = true
      · rw [if_pos z]
      · rw [if_neg z] at hs; cases hs
    rw [e]
    exact runFr (as := [.int n, .int m, td]) rfl rfl (ssRet (xIteT c (xC3 (rv := .fr (fs.map tnD)) (xVar (i := 0) rfl) (xVar (i := 1) rfl) (xVar (i := 2) rfl) T1)))
  · rw [decide_eq_false q] at c
    have e : ledO n m ts = none := by
      cases z : ledO n m ts with
      | none => rfl
      | some gs => exact absurd (L2.mpr (by rw [z]; rfl)) q
    rw [e]
    exact runP (as := [.int n, .int m, td]) rfl rfl (ssRet (xIteF c xCst))
theorem turns_for_ok (h : okTs n m ts) (hd : Seq td (ts.map tieD)) : G (k + 7) i_turns_for [.pu (.int n), .pu (.int m), .pu td] = some (toldR (ledO n m ts), []) := by
  have T := told_turns_ok (k := k) h hd
  rw [one (fn := ⟨3, 3, b_turns_for⟩) rfl]
  have w := want_tied_ok (k := k) h hd
  cases e : ledO n m ts with
  | none =>
    rw [e] at T
    exact runP (as := [.int n, .int m, td]) rfl rfl ((ssC (sEx (xC3 (rv := .pu .none) (xVar (i := 0) rfl) (xVar (i := 1) rfl) (xVar (i := 2) rfl) w))).trans (ssRet (xC3 (rv := .pu .none) (xVar (i := 0) rfl) (xVar (i := 1) rfl) (xVar (i := 2) rfl) T)))
  | some fs =>
    rw [e] at T
    exact runFr (as := [.int n, .int m, td]) rfl rfl ((ssC (sEx (xC3 (rv := .pu .none) (xVar (i := 0) rfl) (xVar (i := 1) rfl) (xVar (i := 2) rfl) w))).trans (ssRet (xC3 (rv := .fr (fs.map tnD)) (xVar (i := 0) rfl) (xVar (i := 1) rfl) (xVar (i := 2) rfl) T)))
end
end K84

set_option Elab.async false
set_option linter.all false
set_option maxRecDepth 100000
set_option maxHeartbeats 4000000
namespace K84
open PySem Rf
section
variable {k n m c : Nat} {ts : List Tie} {td : D}
theorem pow_small (h1 : 1 ≤ n) (h3 : n ≤ 3) {i : Nat} (hi : i ≤ 8) : (TT n).length ^ i ≤ 28179280429056 := by
  have l : (TT n).length ≤ 48 := by rcases TT_len h1 h3 with e | e | e <;> omega
  calc (TT n).length ^ i ≤ 48 ^ i := Nat.pow_le_pow_left l i
    _ ≤ 48 ^ 8 := Nat.pow_le_pow_right (by decide) hi
    _ = 28179280429056 := by decide
theorem pow_step (h1 : 1 ≤ n) (h3 : n ≤ 3) {i : Nat} (hi : i ≤ 8) : binV .mul (.int (((TT n).length ^ i : Nat) : Int)) (.int ((TT n).length : Int)) = some (.pu (.int (((TT n).length ^ (i + 1) : Nat) : Int))) := by
  have b := pow_small h1 h3 hi
  have mo : mulOk (((TT n).length ^ i : Nat) : Int) ((TT n).length : Int) = true := by
    unfold mulOk
    rw [sm (by omega) (by omega)]; rfl
  show (if mulOk (((TT n).length ^ i : Nat) : Int) ((TT n).length : Int) then some (Opd.pu (.int ((((TT n).length ^ i : Nat) : Int) * ((TT n).length : Int)))) else none) = _
  rw [if_pos mo, Nat.pow_succ]
  simp
theorem turn_lists_ok (h1 : 1 ≤ n) (h3 : n ≤ 3) (hc : c ≤ 8) : G (k + 2) i_turn_lists [.pu (.int n), .pu (.int c)] = some (.pu (.int (((TT n).length ^ c : Nat) : Int)), []) := by
  have hr : rngV (.int 0) (.int (c : Int)) = some ((iot c).map .int) := by
    have := rng_iot (n := (c : Int)) (by omega) (by omega)
    simpa using this
  obtain ⟨e2, q1, b3, rfl⟩ := foI (F := G (k + 1)) (C := C0) (t := .nm 3) (it := .rng (.cst (.int 0)) (.var 1)) (b := l_turn_lists_1) (env := [.val (.int n), .val (.int c), .val (.int 1), .emp]) (e1 := [.val (.int n), .val (.int c), .val (.int 1), .emp]) PyData.int (iot c)
    (fun d e => ∃ b3, e = [.val (.int n), .val (.int c), .val (.int (((TT n).length ^ d.length : Nat) : Int)), b3]) rfl (iRng xCst (xVar rfl) hr) ⟨.emp, rfl⟩ (fun d x r e hd ⟨b3, he⟩ => by
      subst he
      have dl : d.length ≤ 8 := by have := congrArg List.length hd; simp [iot_len] at this; omega
      have ln := xLenF (xC1 (F := G (k + 1)) (C := C0) (rv := .fr ((TT n).map tnD)) (xVar (i := 0) (env := [.val (.int n), .val (.int c), .val (.int (((TT n).length ^ d.length : Nat) : Int)), .val (.int x)]) rfl) (turns_of_ok h1 h3))
      rw [List.length_map] at ln
      refine ⟨[.val (.int n), .val (.int c), .val (.int (((TT n).length ^ d.length : Nat) : Int)), .val (.int x)], [.val (.int n), .val (.int c), .val (.int (((TT n).length ^ (d ++ [x]).length : Nat) : Int)), .val (.int x)], rfl, .inl ?_, _, rfl⟩
      unfold l_turn_lists_1
      rw [ssC (sAsg (xBin (xVar rfl) ln (pow_step h1 h3 dl)) rfl rfl), ssN, List.length_append]
      rfl)
  rw [iot_len] at q1
  have hs : evS (G (k + 1)) C0 s_turn_lists_2 [.val (.int n), .val (.int c), .val (.int 1), .emp] = _ := q1
  rw [one (fn := ⟨2, 4, b_turn_lists⟩) rfl]
  exact runP (as := [.int n, .int c]) rfl rfl (((ssC (sAsg (x := .int 1) xCst rfl rfl)).trans (ssC hs)).trans (ssRet (xVar rfl)))
theorem pcs_len (h : okTs n m ts) : (pcsT m ts).length ≤ 8 := by
  unfold pcsT
  rw [List.length_map]
  refine Nat.le_trans (List.length_filter_le _ _) ?_
  rw [iot_len]
  exact h.m8
theorem piece_count_ok (h : okTs n m ts) (hd : Seq td (ts.map tieD)) : G (k + 4) i_piece_count [.pu (.int m), .pu td] = some (.pu (.int ((pcsT m ts).length : Int)), []) := by
  have N := net_nt h
  have lz := h.ln
  have hl : ∀ a ∈ iot (nlL ts).length, 0 ≤ a ∧ a < ((nlL ts).length : Int) := fun a ha => mem_iot.mp ha
  have AL := all_legs_ok (k := k + 2) N
  have NO := net_of_ok (k := k + 2) (m := m) hd.seq (by omega)
  have P := pieces_by_ok (k := k) N hl
  rw [pcs_eq] at P
  rw [one (fn := ⟨2, 3, b_piece_count⟩) rfl]
  have s1 : evS (G (k + 3)) C0 (.asg (.nm 2) (.call i_net_of (.cons (.var 0) (.cons (.var 1) (.nil))))) [.val (.int m), .val td, .emp] = some (.nx [.val (.int m), .val td, .val (nt m ts)]) := sAsg (xC2 (rv := .pu (nt m ts)) (xVar rfl) (xVar rfl) NO) rfl rfl
  have ln := xLenF (xC2 (F := G (k + 3)) (C := C0) (rv := .fr ((pcsT m ts).map pD1)) (xVar (i := 2) (env := [.val (.int m), .val td, .val (nt m ts)]) rfl) (xC1 (rv := .pu _) (xVar (i := 2) rfl) AL) P)
  rw [List.length_map] at ln
  exact runP (as := [.int m, td]) rfl rfl ((ssC s1).trans (ssRet ln))
theorem many_turns_ok (h : okTs n m ts) (hd : Seq td (ts.map tieD)) : G (k + 7) i_many_turns [.pu (.int n), .pu (.int m), .pu td] = some (.pu (.int (if (ledO n m ts).isSome = true then (((TT n).length ^ (pcsT m ts).length : Nat) : Int) else 0)), []) := by
  obtain ⟨l, L1, L2⟩ := open_ties_ok (k := k + 1) h hd
  have w := want_tied_ok (k := k) h hd
  have pc := piece_count_ok (k := k + 2) h hd
  have tl := turn_lists_ok (k := k + 4) (c := (pcsT m ts).length) h.n1 h.n3 (pcs_len h)
  rw [one (fn := ⟨3, 3, b_many_turns⟩) rfl]
  have s0 := ssC (ss := .cons (.ite (.cmp .ne (.call i_open_ties (.cons (.var 0) (.cons (.var 1) (.cons (.var 2) (.nil))))) (.lst (.nil))) (.cons (.ret (.cst (.int 0))) (.nil)) (.nil)) (.cons (.ret (.call i_turn_lists (.cons (.var 0) (.cons (.call i_piece_count (.cons (.var 1) (.cons (.var 2) (.nil)))) (.nil))))) (.nil))) (sEx (xC3 (F := G (k + 6)) (C := C0) (rv := .pu .none) (xVar (i := 0) (env := [.val (.int n), .val (.int m), .val td]) rfl) (xVar (i := 1) rfl) (xVar (i := 2) rfl) w))
  have cm : cmpV .ne (.list (l.map .int)) (.list []) = some (!decide (l = [])) := by
    show (eqD (.list (l.map .int)) (.list [])).map not = _
    rw [eq_nilI]; rfl
  have ct := xCmpR (F := G (k + 6)) (C := C0) (op := .ne) (env := [.val (.int n), .val (.int m), .val td]) (xC3 (rv := .fr (l.map .int)) (xVar (i := 0) rfl) (xVar (i := 1) rfl) (xVar (i := 2) rfl) L1) xNil rfl rfl cm
  by_cases q : l = []
  · rw [decide_eq_true q] at ct
    rw [if_pos (L2.mp q)]
    exact runP (as := [.int n, .int m, td]) rfl rfl (s0.trans ((ssF ct).trans (ssRet (xC2 (rv := .pu _) (xVar rfl) (xC2 (rv := .pu (.int ((pcsT m ts).length : Int))) (xVar (i := 1) rfl) (xVar (i := 2) rfl) pc) tl))))
  · rw [decide_eq_false q] at ct
    rw [if_neg fun z => q (L2.mpr z)]
    exact runP (as := [.int n, .int m, td]) rfl rfl (s0.trans (ssT ct (ssRet xCst)))
theorem okTs_erase (h : okTs n m ts) (i : Nat) : okTs n m (ts.eraseIdx i) := by
  refine ⟨h.n1, h.n3, h.m1, h.m8, ?_, fun t ht => h.tie t (List.mem_of_mem_eraseIdx ht)⟩
  have := List.length_eraseIdx_le ts i
  have := h.ln
  omega
/-- the suspects -/
noncomputable def susT (n m : Nat) (ts : List Tie) : List Int := if (ledO n m ts).isSome = true then [] else (iot ts.length).filter fun a => (ledO n m (ts.eraseIdx a.toNat)).isSome
theorem suspects_ok (h : okTs n m ts) (hd : Seq td (ts.map tieD)) : G (k + 7) i_suspects [.pu (.int n), .pu (.int m), .pu td] = some (.fr ((susT n m ts).map .int), []) := by
  obtain ⟨l, L1, L2⟩ := open_ties_ok (k := k + 1) h hd
  have w := want_tied_ok (k := k) h hd
  have lz := h.ln
  rw [one (fn := ⟨3, 5, b_suspects⟩) rfl]
  have s0 : evS (G (k + 6)) C0 (.ex (.call i_want_tied (.cons (.var 0) (.cons (.var 1) (.cons (.var 2) (.nil)))))) [.val (.int n), .val (.int m), .val td, .emp, .emp] = some (.nx [.val (.int n), .val (.int m), .val td, .emp, .emp]) := sEx (xC3 (rv := .pu .none) (xVar (i := 0) rfl) (xVar (i := 1) rfl) (xVar (i := 2) rfl) w)
  have ct := xCmpR (F := G (k + 6)) (C := C0) (op := .eq) (env := [.val (.int n), .val (.int m), .val td, .emp, .emp]) (xC3 (rv := .fr (l.map .int)) (xVar (i := 0) rfl) (xVar (i := 1) rfl) (xVar (i := 2) rfl) L1) xNil rfl rfl (eq_nilI l)
  by_cases q : l = []
  · rw [decide_eq_true q] at ct
    have e : susT n m ts = [] := by unfold susT; rw [if_pos (L2.mp q)]
    rw [e]
    exact runFr (as := [.int n, .int m, td]) rfl rfl ((ssC s0).trans (ssT ct (ssRet xNil)))
  · rw [decide_eq_false q] at ct
    have e : susT n m ts = (iot ts.length).filter fun a => (ledO n m (ts.eraseIdx a.toNat)).isSome := by unfold susT; rw [if_neg fun z => q (L2.mpr z)]
    rw [e]
    have s1 : evS (G (k + 6)) C0 (.asg (.nm 3) (.blt .list1 (.cons (.var 2) (.nil)))) [.val (.int n), .val (.int m), .val td, .emp, .emp] = some (.nx [.val (.int n), .val (.int m), .val td, .val (.list (ts.map tieD)), .emp]) := sAsg (xB1 (xVar rfl) hd.lst1) rfl rfl
    have hr : rngV (.int 0) (.int ((ts.map tieD).length : Int)) = some ((iot ts.length).map .int) := by
      have := rng_iot (n := (ts.length : Int)) (by omega) (by omega)
      rw [List.length_map]
      simpa using this
    have c := lcT (F := G (k + 6)) (C := C0) (elt := .var 4) (tg := .nm 4) (it := .rng (.cst (.int 0)) (.blt .len (.cons (.var 3) (.nil)))) (cd := .som (.cmp .eq (.call i_open_ties (.cons (.var 0) (.cons (.var 1) (.cons (.bin .add (.slc (.var 3) (.non) (.som (.var 4))) (.slc (.var 3) (.som (.bin .add (.var 4) (.cst (.int 1)))) (.non))) (.nil))))) (.lst (.nil)))) (own := [4])
      (env := [.val (.int n), .val (.int m), .val td, .val (.list (ts.map tieD)), .emp]) (e0 := [.val (.int n), .val (.int m), .val td, .val (.list (ts.map tieD)), .emp]) (e2 := [.val (.int n), .val (.int m), .val td, .val (.list (ts.map tieD)), .emp]) PyData.int (iot ts.length) (fun a => (ledO n m (ts.eraseIdx a.toNat)).isSome) PyData.int
      (fun x => [.val (.int n), .val (.int m), .val td, .val (.list (ts.map tieD)), .val (.int x)])
      (iRng xCst (xLenL (xVar rfl)) hr) rfl rfl (by rw [iot_len]; omega) (fun x hx => rfl) (fun x hx => rfl) (fun x hx => by
        obtain ⟨x0, x1⟩ := mem_iot.mp hx
        have xl : x.toNat < ts.length := by omega
        obtain ⟨l', L1', L2'⟩ := open_ties_ok (k := k + 1) (okTs_erase h x.toNat) (td := .list ((ts.eraseIdx x.toNat).map tieD)) (.inl rfl)
        have ex : ((x.toNat : Nat) : Int) = x := by omega
        have co := xCutOut (F := G (k + 6)) (C := C0) (p := 3) (q := 4) (env := [.val (.int n), .val (.int m), .val td, .val (.list (ts.map tieD)), .val (.int x)]) tieD (l := ts) (i := x.toNat) rfl (by rw [ex]; rfl) xl (by omega)
        have cc := xCmpR (F := G (k + 6)) (C := C0) (op := .eq) (xC3f (rv := .fr (l'.map .int)) (xVar (i := 0) rfl) (xVar (i := 1) rfl) co L1') xNil rfl rfl (eq_nilI l')
        have ee : decide (l' = []) = (ledO n m (ts.eraseIdx x.toNat)).isSome := by
          by_cases z : l' = []
          · rw [decide_eq_true z, L2'.mp z]
          · rw [decide_eq_false z]
            cases zz : (ledO n m (ts.eraseIdx x.toNat)).isSome with
            | false => rfl
            | true => exact absurd (L2'.mpr zz) z
        rw [ee] at cc
        exact dSom cc) (fun x hx _ => ⟨_, xVar rfl, rfl⟩)
    exact runFr (as := [.int n, .int m, td]) rfl rfl ((ssC s0).trans ((ssF ct).trans ((ssC s1).trans (ssRet c))))
end
/-! ### the law's own pieces -/
section
variable {k n m : Nat} {ts : List Tie} {td : D}
def mkE (m : Nat) (td : D) (ms : List Int) (b3 b4 b5 b6 b7 : Sl) : Ev := [.val (.int m), .val td, .own 0 (ms.map .int), b3, b4, b5, b6, b7, .emp, .emp]
theorem min_v (a b : Int) : bltV .min2 [.int a, .int b] = some (.pu (.int (min a b))) := by
  show some (Opd.pu (.int (if b < a then b else a))) = _
  congr 3
  split <;> omega
theorem lp_step (F : FT) {ms : List Int} {t : Tie} {b3 b7 : Sl} (hl : ms.length = m) (h1 : t.1 ∈ iot m) (h2 : t.2.1 ∈ iot m) : evSs F C0 l__law_pieces_3 (mkE m td ms b3 (.val (.int t.1)) (.val (.int t.2.1)) (.val (tnD t.2.2)) b7) = some (.nx (mkE m td (stpM ms t) b3 (.val (.int t.1)) (.val (.int t.2.1)) (.val (tnD t.2.2)) (.val (.int (min (gm ms t.1) (gm ms t.2.1)))))) := by
  obtain ⟨x0, x1⟩ := mem_iot.mp h1
  obtain ⟨y0, y1⟩ := mem_iot.mp h2
  have g1 : idxV (.list (ms.map .int)) (.int t.1) = some (.int (gm ms t.1)) := by rw [ixl]; exact gm_at hl h1
  have g2 : idxV (.list (ms.map .int)) (.int t.2.1) = some (.int (gm ms t.2.1)) := by rw [ixl]; exact gm_at hl h2
  have r1 : ∀ {b7}, evE F C0 (.idx (.var 2) (.var 4)) (mkE m td ms b3 (.val (.int t.1)) (.val (.int t.2.1)) (.val (tnD t.2.2)) b7) = some (.pu (.int (gm ms t.1)), mkE m td ms b3 (.val (.int t.1)) (.val (.int t.2.1)) (.val (tnD t.2.2)) b7) := fun {b7} => xIdxO (t := 0) (xs := ms.map .int) rfl (xVar rfl) rfl g1
  have r2 : ∀ {b7}, evE F C0 (.idx (.var 2) (.var 5)) (mkE m td ms b3 (.val (.int t.1)) (.val (.int t.2.1)) (.val (tnD t.2.2)) b7) = some (.pu (.int (gm ms t.2.1)), mkE m td ms b3 (.val (.int t.1)) (.val (.int t.2.1)) (.val (tnD t.2.2)) b7) := fun {b7} => xIdxO (t := 0) (xs := ms.map .int) rfl (xVar rfl) rfl g2
  have s1 : evS F C0 (.asg (.nm 7) (.blt .min2 (.cons (.idx (.var 2) (.var 4)) (.cons (.idx (.var 2) (.var 5)) (.nil))))) (mkE m td ms b3 (.val (.int t.1)) (.val (.int t.2.1)) (.val (tnD t.2.2)) b7) = some (.nx (mkE m td ms b3 (.val (.int t.1)) (.val (.int t.2.1)) (.val (tnD t.2.2)) (.val (.int (min (gm ms t.1) (gm ms t.2.1)))))) := sAsg (xB2 r1 r2 (min_v _ _)) rfl rfl
  unfold l__law_pieces_3
  rw [ssC s1]
  unfold stpM
  generalize min (gm ms t.1) (gm ms t.2.1) = v
  have i1 : L2.ixN (ms.map PyData.int).length t.1 = some t.1.toNat := by rw [List.length_map]; exact ixN_ok x0 (by omega)
  have i2 : L2.ixN ((ms.map PyData.int).set t.1.toNat (.int v)).length t.2.1 = some t.2.1.toNat := by rw [List.length_set, List.length_map]; exact ixN_ok y0 (by omega)
  have tu : evE F C0 (.tup (.cons (.var 7) (.cons (.var 7) (.nil)))) (mkE m td ms b3 (.val (.int t.1)) (.val (.int t.2.1)) (.val (tnD t.2.2)) (.val (.int v))) = some (.pu (.tuple [.int v, .int v]), mkE m td ms b3 (.val (.int t.1)) (.val (.int t.2.1)) (.val (tnD t.2.2)) (.val (.int v))) := by
    rw [evE, evP, xVar (x := .int v) rfl]; dsimp only; rw [frzd]; dsimp only; rw [evP, xVar (x := .int v) rfl]; dsimp only; rw [frzd]; dsimp only; rw [evP]; rfl
  have s2 : evS F C0 (.asg (.tp (.cons (.sub 2 (.var 4)) (.cons (.sub 2 (.var 5)) (.nil)))) (.tup (.cons (.var 7) (.cons (.var 7) (.nil))))) (mkE m td ms b3 (.val (.int t.1)) (.val (.int t.2.1)) (.val (tnD t.2.2)) (.val (.int v))) = some (.nx (mkE m td ((ms.set t.1.toNat v).set t.2.1.toNat v) b3 (.val (.int t.1)) (.val (.int t.2.1)) (.val (tnD t.2.2)) (.val (.int v)))) := by
    have a1 : asgT F C0 (.sub 2 (.var 4)) (.int v) (mkE m td ms b3 (.val (.int t.1)) (.val (.int t.2.1)) (.val (tnD t.2.2)) (.val (.int v))) = some (mkE m td (ms.set t.1.toNat v) b3 (.val (.int t.1)) (.val (.int t.2.1)) (.val (tnD t.2.2)) (.val (.int v))) := by
      have q := tSub (F := F) (C := C0) (b := .var 4) (d := .int v) (env := mkE m td ms b3 (.val (.int t.1)) (.val (.int t.2.1)) (.val (tnD t.2.2)) (.val (.int v))) (i := 2) (t := 0) (xs := ms.map .int) rfl (xVar rfl) i1
      rw [← List.map_set] at q
      exact q
    have a2 : asgT F C0 (.sub 2 (.var 5)) (.int v) (mkE m td (ms.set t.1.toNat v) b3 (.val (.int t.1)) (.val (.int t.2.1)) (.val (tnD t.2.2)) (.val (.int v))) = some (mkE m td ((ms.set t.1.toNat v).set t.2.1.toNat v) b3 (.val (.int t.1)) (.val (.int t.2.1)) (.val (tnD t.2.2)) (.val (.int v))) := by
      have i2' : L2.ixN ((ms.set t.1.toNat v).map PyData.int).length t.2.1 = some t.2.1.toNat := by rw [List.length_map, List.length_set]; exact ixN_ok y0 (by omega)
      have q := tSub (F := F) (C := C0) (b := .var 5) (d := .int v) (env := mkE m td (ms.set t.1.toNat v) b3 (.val (.int t.1)) (.val (.int t.2.1)) (.val (tnD t.2.2)) (.val (.int v))) (i := 2) (t := 0) (xs := (ms.set t.1.toNat v).map .int) rfl (xVar rfl) i2'
      rw [← List.map_set] at q
      exact q
    rw [evS, tu]; dsimp only; rw [frzd]; dsimp only; rw [asgT, asgTs, a1]; dsimp only; rw [asgTs, a2]; dsimp only; rw [asgTs]; rfl
  rw [ssC s2, ssN]
theorem lp_pass (F : FT) (h : okTs n m ts) (hd : Seq td (ts.map tieD)) {ms : List Int} {b3 b4 b5 b6 b7 : Sl} (I : InvM m ts ms) : ∃ c4 c5 c6 c7, evS F C0 s__law_pieces_4 (mkE m td ms b3 b4 b5 b6 b7) = some (.nx (mkE m td (ts.foldl stpM ms) b3 c4 c5 c6 c7)) := by
  obtain ⟨e2, q1, _, c4, c5, c6, c7, rfl⟩ := foR (F := F) (C := C0) (t := .tp (.cons (.nm 4) (.cons (.nm 5) (.cons (.nm 6) (.nil))))) (it := .it (.var 1)) (b := l__law_pieces_3) (env := mkE m td ms b3 b4 b5 b6 b7) (e1 := mkE m td ms b3 b4 b5 b6 b7) tieD ts stpM
    (fun ms e => ms.length = m ∧ ∃ c4 c5 c6 c7, e = mkE m td ms b3 c4 c5 c6 c7) ms rfl (iIt (xVar rfl) rfl hd.seq) ⟨I.ln, _, _, _, _, rfl⟩ (fun t ht ms e ⟨hl, c4, c5, c6, c7, he⟩ => by
      subst he
      obtain ⟨q1, q2, q3, q4, _⟩ := h.tie t ht
      exact ⟨mkE m td ms b3 (.val (.int t.1)) (.val (.int t.2.1)) (.val (tnD t.2.2)) c7, _, rfl, .inl (lp_step F hl (mem_iot.mpr ⟨q1, q2⟩) (mem_iot.mpr ⟨q3, q4⟩)), by simpa [stpM] using hl, _, _, _, _, rfl⟩)
  exact ⟨c4, c5, c6, c7, q1⟩
theorem law_pieces_ok (h : okTs n m ts) (hd : Seq td (ts.map tieD)) : G (k + 1) i__law_pieces [.pu (.int m), .pu td] = some (.fr ((pcsT m ts).map pD1), []) := by
  have m8 := h.m8
  have hr : rngV (.int 0) (.int (m : Int)) = some ((iot m).map .int) := by
    have := rng_iot (n := (m : Int)) (by omega) (by omega)
    simpa using this
  obtain ⟨e2, q1, ms, b3, b4, b5, b6, b7, rfl, I, hb⟩ := foI (F := G k) (C := C0) (t := .nm 3) (it := .rng (.cst (.int 0)) (.var 0)) (b := l__law_pieces_5) (env := mkE m td (iot m) .emp .emp .emp .emp .emp) (e1 := mkE m td (iot m) .emp .emp .emp .emp .emp) PyData.int (iot m)
    (fun d e => ∃ (ms : List Int) (b3 b4 b5 b6 b7 : Sl), e = mkE m td ms b3 b4 b5 b6 b7 ∧ InvM m ts ms ∧ (badN (fun ms x => x ∈ iot m ∧ goodM m ts ms x) (iot m) ms + d.length ≤ m ∨ badN (fun ms x => x ∈ iot m ∧ goodM m ts ms x) (iot m) ms = 0)) rfl (iRng xCst (xVar rfl) hr)
    ⟨_, _, _, _, _, _, rfl, marks_start, .inl (by have := badN_le (good := fun ms x => x ∈ iot m ∧ goodM m ts ms x) (iot m) (iot m); rw [iot_len] at this; simpa using this)⟩ (fun d x r e hd' ⟨ms, b3, b4, b5, b6, b7, he, I, hb⟩ => by
      subst he
      obtain ⟨I', hb'⟩ := marks_pass h I
      obtain ⟨c4, c5, c6, c7, p⟩ := lp_pass (G k) h hd (b3 := .val (.int x)) (b4 := b4) (b5 := b5) (b6 := b6) (b7 := b7) I
      refine ⟨mkE m td ms (.val (.int x)) b4 b5 b6 b7, _, rfl, .inl (by unfold l__law_pieces_5; rw [ssC p, ssN]), _, _, _, _, _, _, rfl, I', ?_⟩
      rw [List.length_append]
      simp only [List.length_cons, List.length_nil]
      omega)
  have hb0 : badN (fun ms x => x ∈ iot m ∧ goodM m ts ms x) (iot m) ms = 0 := by
    rw [iot_len] at hb
    omega
  have me : ms = (iot m).map (rootT m ts) := by
    refine marks_end I ?_
    have : ∀ x ∈ iot m, x ∈ iot m ∧ goodM m ts ms x := bad0 hb0
    exact hb0
  subst me
  have hs : evS (G k) C0 s__law_pieces_6 (mkE m td (iot m) .emp .emp .emp .emp .emp) = _ := q1
  rw [one (fn := ⟨2, 10, b__law_pieces⟩) rfl]
  generalize hms : (iot m).map (rootT m ts) = ms at hs I
  have x0 : evE (G k) C0 (.lrg (.cst (.int 0)) (.var 0)) [.val (.int m), .val td, .emp, .emp, .emp, .emp, .emp, .emp, .emp, .emp] = some (.fr ((iot m).map .int), [.val (.int m), .val td, .emp, .emp, .emp, .emp, .emp, .emp, .emp, .emp]) :=
    lrgE xCst (xVar rfl) hr (lenOk_of (by rw [List.length_map, iot_len]; omega))
  have in1 : intsOf (ms.map PyData.int) = some ms := ints_map ms
  have st : evE (G k) C0 (.sset (.var 2)) (mkE m td ms b3 b4 b5 b6 b7) = some (.fr ((lstsT m ts).map .int), mkE m td ms b3 b4 b5 b6 b7) := by
    rw [evE, xOwn (t := 0) (xs := ms.map .int) rfl]
    dsimp only
    show (match intsOf (ms.map PyData.int) with | some ns => if Nat.ble ns.length 60 then some (Opd.fr ((isort (fun a b : Int => decide (a ≤ b)) (dedup [] ns)).map .int), mkE m td ms b3 b4 b5 b6 b7) else none | none => none) = _
    rw [in1]
    have bl : Nat.ble ms.length 60 = true := Nat.ble_eq_true_of_le (by rw [I.ln]; omega)
    dsimp only
    have se := marks_set (m := m) (ts := ts)
    rw [hms] at se
    rw [if_pos bl, se]
  have c := lcA (F := G k) (C := C0) (elt := e__law_pieces_1) (tg := .nm 8) (it := .it (.sset (.var 2))) (own := [8])
    (env := mkE m td ms b3 b4 b5 b6 b7) (e0 := mkE m td ms b3 b4 b5 b6 b7) (e2 := mkE m td ms b3 b4 b5 b6 b7) PyData.int (lstsT m ts) (fun s => pD1 (compT m ts s)) (fun s => [.val (.int m), .val td, .own 0 (ms.map .int), b3, b4, b5, b6, b7, .val (.int s), .emp])
    (iFr st) rfl rfl (Nat.le_trans lsts_len (by omega)) (fun s hs => rfl) (fun s hs => rfl) (fun s hs => by
      have hs := mem_lsts.mp hs
      have c2 := lcT (F := G k) (C := C0) (elt := .var 9) (tg := .nm 9) (it := .rng (.cst (.int 0)) (.var 0)) (cd := .som (.cmp .eq (.idx (.var 2) (.var 9)) (.var 8))) (own := [9])
        (env := [.val (.int m), .val td, .own 0 (ms.map .int), b3, b4, b5, b6, b7, .val (.int s), .emp]) (e0 := [.val (.int m), .val td, .own 0 (ms.map .int), b3, b4, b5, b6, b7, .val (.int s), .emp]) (e2 := [.val (.int m), .val td, .own 0 (ms.map .int), b3, b4, b5, b6, b7, .val (.int s), .emp])
        PyData.int (iot m) (fun x => decide (gm ms x = s)) PyData.int (fun x => [.val (.int m), .val td, .own 0 (ms.map .int), b3, b4, b5, b6, b7, .val (.int s), .val (.int x)])
        (iRng xCst (xVar rfl) hr) rfl rfl (by rw [iot_len]; omega) (fun x hx => rfl) (fun x hx => rfl) (fun x hx => by
          have g : idxV (.list (ms.map .int)) (.int x) = some (.int (gm ms x)) := by rw [ixl]; exact gm_at I.ln hx
          exact dSom (xCmp (xIdxO (t := 0) (xs := ms.map .int) rfl (xVar rfl) rfl g) (xVar rfl) (eqii _ _))) (fun x hx _ => ⟨_, xVar rfl, rfl⟩)
      have e : (iot m).filter (fun x => decide (gm ms x = s)) = compT m ts s := by rw [← hms]; exact marks_piece hs.1 hs.2
      rw [e] at c2
      exact ⟨_, c2, rfl⟩)
  have e : (lstsT m ts).map (fun s => pD1 (compT m ts s)) = (pcsT m ts).map pD1 := by rw [lsts_pcs, List.map_map]; rfl
  rw [e] at c
  exact runFr (as := [.int m, td]) rfl rfl (((ssC (sOwn x0 rfl)).trans (ssC hs)).trans (ssRet c))
end
end K84

set_option Elab.async false
set_option linter.all false
set_option maxRecDepth 100000
set_option maxHeartbeats 4000000
namespace K84
open PySem Rf
section
variable {k n m : Nat} {ts : List Tie} {td ud : D} {fs : List Tn}
theorem law_agree_ok (h : okTs n m ts) (hd : Seq td (ts.map tieD)) (hu : Seq ud (fs.map tnD)) (hl : fs.length = m) (hv : ∀ t ∈ fs, t ∈ TT n) : G (k + 3) i__law_does_agree [.pu td, .pu ud] = some (.pu (.bool (agB ts fs)), []) := by
  have lz := h.ln
  rw [one (fn := ⟨2, 5, b__law_does_agree⟩) rfl]
  have c := lcA (F := G (k + 2)) (C := C0) (elt := .cmp .eq (.idx (.var 1) (.var 3)) (.call i__law_behind (.cons (.idx (.var 1) (.var 2)) (.cons (.var 4) (.nil))))) (tg := .tp (.cons (.nm 2) (.cons (.nm 3) (.cons (.nm 4) (.nil))))) (it := .it (.var 0)) (own := [2, 3, 4])
    (env := [.val td, .val ud, .emp, .emp, .emp]) (e0 := [.val td, .val ud, .emp, .emp, .emp]) (e2 := [.val td, .val ud, .emp, .emp, .emp]) tieD ts (fun t => .bool (fitB fs t)) (fun t => [.val td, .val ud, .val (.int t.1), .val (.int t.2.1), .val (tnD t.2.2)])
    (iIt (xVar rfl) rfl hd.seq) rfl rfl (by omega) (fun t ht => rfl) (fun t ht => rfl) (fun t ht => by
      obtain ⟨q1, q2, q3, q4, q5, q6⟩ := h.tie t ht
      have x1 : t.1 ∈ iot m := mem_iot.mpr ⟨q1, q2⟩
      have x2 : t.2.1 ∈ iot m := mem_iot.mpr ⟨q3, q4⟩
      have eq := eq_tD (gTn fs t.2.1) (mulT (gTn fs t.1) t.2.2)
      have e : decide (gTn fs t.2.1 = mulT (gTn fs t.1) t.2.2) = fitB fs t := by unfold fitB; rw [Bool.eq_iff_iff]; simp
      rw [e] at eq
      exact ⟨_, xCmp (xIdx (xVar rfl) (xVar rfl) (turn_at hu hl x2)) (xC2 (rv := .pu (tnD (mulT (gTn fs t.1) t.2.2))) (xIdx (xVar rfl) (xVar rfl) (turn_at hu hl x1)) (xVar rfl) (lbehind_ok h.n1 h.n3 (hv _ (gT_mem hl x1)) q6)) eq, rfl⟩)
  have c' : evE (G (k + 2)) C0 e__law_does_agree_1 [.val td, .val ud, .emp, .emp, .emp] = some (.fr (ts.map fun t => .bool (fitB fs t)), [.val td, .val ud, .emp, .emp, .emp]) := c
  exact runP (as := [td, ud]) rfl rfl (ssRet (tAll (g := fitB fs) c'))
/-! ### turns led on -/
def ldE (n m : Nat) (td : D) (fo : Fo) (b4 b5 b6 b7 b8 : Sl) : Ev := [.val (.int n), .val (.int m), .val td, .own 0 (fo.map opD), b4, b5, b6, b7, b8]
theorem fo_at {fo : Fo} {x : Int} (hl : fo.length = m) (hx : x ∈ iot m) : idxV (.list (fo.map opD)) (.int x) = some (opD (gf fo x)) := by
  obtain ⟨h0, h1⟩ := mem_iot.mp hx
  obtain ⟨y, hy, ha⟩ := at_map opD h0 (by omega : x < fo.length)
  rw [ixl, ha]
  simp [gf, hy]
theorem isNon_op (o : Option Tn) : isNon (opD o) = o.isNone := by cases o <;> rfl
theorem ld_step (h : okTs n m ts) {t : Tie} (ht : t ∈ ts) {fo : Fo} {b4 b5 : Sl} (I : InvL n m ts fo) : evSs (G (k + 4)) C0 l__law_led_1 (ldE n m td fo b4 b5 (.val (.int t.1)) (.val (.int t.2.1)) (.val (tnD t.2.2))) = some (.nx (ldE n m td (stpL fo t) b4 b5 (.val (.int t.1)) (.val (.int t.2.1)) (.val (tnD t.2.2)))) := by
  obtain ⟨q1, q2, q3, q4, q5, q6⟩ := h.tie t ht
  have x1 : t.1 ∈ iot m := mem_iot.mpr ⟨q1, q2⟩
  have x2 : t.2.1 ∈ iot m := mem_iot.mpr ⟨q3, q4⟩
  have rd1 : ∀ {fo : Fo}, fo.length = m → evE (G (k + 4)) C0 (.idx (.var 3) (.var 6)) (ldE n m td fo b4 b5 (.val (.int t.1)) (.val (.int t.2.1)) (.val (tnD t.2.2))) = some (.pu (opD (gf fo t.1)), ldE n m td fo b4 b5 (.val (.int t.1)) (.val (.int t.2.1)) (.val (tnD t.2.2))) := fun {fo} hl => xIdxO (t := 0) (xs := fo.map opD) rfl (xVar rfl) rfl (fo_at hl x1)
  have rd2 : ∀ {fo : Fo}, fo.length = m → evE (G (k + 4)) C0 (.idx (.var 3) (.var 7)) (ldE n m td fo b4 b5 (.val (.int t.1)) (.val (.int t.2.1)) (.val (tnD t.2.2))) = some (.pu (opD (gf fo t.2.1)), ldE n m td fo b4 b5 (.val (.int t.1)) (.val (.int t.2.1)) (.val (tnD t.2.2))) := fun {fo} hl => xIdxO (t := 0) (xs := fo.map opD) rfl (xVar rfl) rfl (fo_at hl x2)
  have nN : ∀ o : Option Tn, cmpV .notN (opD o) .none = some (!o.isNone) := fun o => by show some (!isNon (opD o)) = _; rw [isNon_op]
  have iN : ∀ o : Option Tn, cmpV .isN (opD o) .none = some o.isNone := fun o => by show some (isNon (opD o)) = _; rw [isNon_op]
  have c1 : ∀ {fo : Fo}, fo.length = m → evE (G (k + 4)) C0 (.cmp .notN (.idx (.var 3) (.var 6)) (.cst .none)) (ldE n m td fo b4 b5 (.val (.int t.1)) (.val (.int t.2.1)) (.val (tnD t.2.2))) = some (.pu (.bool (!(gf fo t.1).isNone)), ldE n m td fo b4 b5 (.val (.int t.1)) (.val (.int t.2.1)) (.val (tnD t.2.2))) := fun {fo} hl => xCmp (rd1 hl) xCst (nN _)
  have c2 : ∀ {fo : Fo}, fo.length = m → evE (G (k + 4)) C0 (.cmp .isN (.idx (.var 3) (.var 7)) (.cst .none)) (ldE n m td fo b4 b5 (.val (.int t.1)) (.val (.int t.2.1)) (.val (tnD t.2.2))) = some (.pu (.bool (gf fo t.2.1).isNone), ldE n m td fo b4 b5 (.val (.int t.1)) (.val (.int t.2.1)) (.val (tnD t.2.2))) := fun {fo} hl => xCmp (rd2 hl) xCst (iN _)
  have c3 : ∀ {fo : Fo}, fo.length = m → evE (G (k + 4)) C0 (.cmp .notN (.idx (.var 3) (.var 7)) (.cst .none)) (ldE n m td fo b4 b5 (.val (.int t.1)) (.val (.int t.2.1)) (.val (tnD t.2.2))) = some (.pu (.bool (!(gf fo t.2.1).isNone)), ldE n m td fo b4 b5 (.val (.int t.1)) (.val (.int t.2.1)) (.val (tnD t.2.2))) := fun {fo} hl => xCmp (rd2 hl) xCst (nN _)
  have c4 : ∀ {fo : Fo}, fo.length = m → evE (G (k + 4)) C0 (.cmp .isN (.idx (.var 3) (.var 6)) (.cst .none)) (ldE n m td fo b4 b5 (.val (.int t.1)) (.val (.int t.2.1)) (.val (tnD t.2.2))) = some (.pu (.bool (gf fo t.1).isNone), ldE n m td fo b4 b5 (.val (.int t.1)) (.val (.int t.2.1)) (.val (tnD t.2.2))) := fun {fo} hl => xCmp (rd1 hl) xCst (iN _)
  have hl := I.ln
  unfold l__law_led_1
  cases g1 : gf fo t.1 with
  | none =>
    have d1 := c1 hl
    rw [g1] at d1
    rw [ssF (xAndF d1)]
    have d3 := c3 hl
    have d4 := c4 hl
    rw [g1] at d4
    cases g2 : gf fo t.2.1 with
    | none =>
      rw [g2] at d3
      have e : stpL fo t = fo := by unfold stpL; rw [g1, g2]
      rw [e, ssF (xAndF d3), ssN]
    | some b =>
      rw [g2] at d3
      obtain ⟨b1, b2⟩ := I.vl _ x2 b g2
      have e : stpL fo t = fo.set t.1.toNat (some (mulT b (invT t.2.2))) := by unfold stpL; rw [g1, g2]
      have r2 := rd2 hl
      rw [g2] at r2
      have hi := (TT_iv h.n1 h.n3 q6).1
      have cl := xC2 (f := i__law_behind) (rv := .pu (tnD (mulT b (invT t.2.2)))) r2 (xC1 (f := i__law_undone) (rv := .pu (tnD (invT t.2.2))) (xVar (i := 8) rfl) (lundone_ok (k := k + 1) h.n1 h.n3 q6)) (lbehind_ok (k := k + 2) h.n1 h.n3 b1 hi)
      have ix : L2.ixN (fo.map opD).length t.1 = some t.1.toNat := by rw [List.length_map]; exact ixN_ok q1 (by omega)
      have s := sSub (i := 3) (b := .var 6) (t := 0) (xs := fo.map opD) cl rfl rfl (xVar rfl) ix
      have e1 : (fo.map opD).set t.1.toNat (tnD (mulT b (invT t.2.2))) = (stpL fo t).map opD := by rw [e, List.map_set]; rfl
      rw [e1] at s
      rw [evSs, sIfT (xAndT d3 d4), ssC s, ssN]
      dsimp only
      rw [evSs]; rfl
  | some a =>
    have d1 := c1 hl
    rw [g1] at d1
    have d2 := c2 hl
    cases g2 : gf fo t.2.1 with
    | none =>
      rw [g2] at d2
      obtain ⟨a1, a2⟩ := I.vl _ x1 a g1
      have e : stpL fo t = fo.set t.2.1.toNat (some (mulT a t.2.2)) := by unfold stpL; rw [g1, g2]
      have r1 := rd1 hl
      rw [g1] at r1
      have cl := xC2 (f := i__law_behind) (rv := .pu (tnD (mulT a t.2.2))) r1 (xVar (i := 8) rfl) (lbehind_ok (k := k + 2) h.n1 h.n3 a1 q6)
      have ix : L2.ixN (fo.map opD).length t.2.1 = some t.2.1.toNat := by rw [List.length_map]; exact ixN_ok q3 (by omega)
      have s := sSub (i := 3) (b := .var 7) (t := 0) (xs := fo.map opD) cl rfl rfl (xVar rfl) ix
      have e1 : (fo.map opD).set t.2.1.toNat (tnD (mulT a t.2.2)) = (stpL fo t).map opD := by rw [e, List.map_set]; rfl
      rw [e1] at s
      have s' : evS (G (k + 4)) C0 (.asg (.sub 3 (.var 7)) (.call i__law_behind (.cons (.idx (.var 3) (.var 6)) (.cons (.var 8) (.nil))))) (ldE n m td fo b4 b5 (.val (.int t.1)) (.val (.int t.2.1)) (.val (tnD t.2.2))) = some (.nx (ldE n m td (stpL fo t) b4 b5 (.val (.int t.1)) (.val (.int t.2.1)) (.val (tnD t.2.2)))) := s
      have hl' : (stpL fo t).length = m := by rw [e, List.length_set]; exact hl
      have d3 := c3 hl'
      have d4 := c4 hl'
      have z1 : gf (stpL fo t) t.1 = some a := by rw [e, gf_set hl x2 x1, if_neg q5]; exact g1
      have z2 : gf (stpL fo t) t.2.1 = some (mulT a t.2.2) := by rw [e, gf_set hl x2 x2, if_pos rfl]
      rw [z2] at d3
      rw [z1] at d4
      rw [evSs, sIfT (xAndT d1 d2), ssC s', ssN]
      dsimp only
      rw [ssF (xAndT d3 d4), ssN]
    | some b =>
      rw [g2] at d2
      have d3 := c3 hl
      have d4 := c4 hl
      rw [g2] at d3
      rw [g1] at d4
      have e : stpL fo t = fo := by unfold stpL; rw [g1, g2]
      rw [e, ssF (xAndT d1 d2), ssF (xAndT d3 d4), ssN]
theorem ld_pass (h : okTs n m ts) (hd : Seq td (ts.map tieD)) {fo : Fo} {b4 b5 b6 b7 b8 : Sl} (I : InvL n m ts fo) : ∃ c6 c7 c8, evS (G (k + 4)) C0 s__law_led_2 (ldE n m td fo b4 b5 b6 b7 b8) = some (.nx (ldE n m td (ts.foldl stpL fo) b4 b5 c6 c7 c8)) := by
  have S := satL h
  obtain ⟨e2, q1, _, c6, c7, c8, rfl⟩ := foR (F := G (k + 4)) (C := C0) (t := .tp (.cons (.nm 6) (.cons (.nm 7) (.cons (.nm 8) (.nil))))) (it := .it (.var 2)) (b := l__law_led_1) (env := ldE n m td fo b4 b5 b6 b7 b8) (e1 := ldE n m td fo b4 b5 b6 b7 b8) tieD ts stpL
    (fun fo e => InvL n m ts fo ∧ ∃ c6 c7 c8, e = ldE n m td fo b4 b5 c6 c7 c8) fo rfl (iIt (xVar rfl) rfl hd.seq) ⟨I, _, _, _, rfl⟩ (fun t ht fo e ⟨I, c6, c7, c8, he⟩ => by
      subst he
      exact ⟨ldE n m td fo b4 b5 (.val (.int t.1)) (.val (.int t.2.1)) (.val (tnD t.2.2)), _, rfl, .inl (ld_step h ht I), S.inv fo t ht I, _, _, _, rfl⟩)
  exact ⟨c6, c7, c8, q1⟩
theorem ld_piece (h : okTs n m ts) (hd : Seq td (ts.map tieD)) {s : Int} {p l : List Int} (hs : s ∈ iot m) (hls : lstT m ts s) (hp : p = compT m ts s) (hc : p = s :: l) {fo : Fo} {b5 b6 b7 b8 : Sl} (I : InvL n m ts fo) :
    ∃ fo' c5 c6 c7 c8, evSs (G (k + 4)) C0 l__law_led_5 (ldE n m td fo (.val (pD1 p)) b5 b6 b7 b8) = some (.nx (ldE n m td fo' (.val (pD1 p)) c5 c6 c7 c8)) ∧ InvL n m ts fo' ∧ (∀ x ∈ iot m, gf fo x ≠ none → gf fo' x ≠ none) ∧ ∀ x ∈ p, gf fo' x ≠ none := by
  obtain ⟨s0, s1⟩ := mem_iot.mp hs
  have I1 := I.set hs (TT_id h.n1 h.n3) fun f hf => (hf.rt s hs hls).symm
  have ix : L2.ixN (fo.map opD).length s = some s.toNat := by rw [List.length_map]; exact ixN_ok s0 (by have := I.ln; omega)
  have i0 : idxV (pD1 p) (.int 0) = some (.int s) := by rw [hc, pD1, ixl]; exact at0
  have st := sSub (F := G (k + 4)) (C := C0) (i := 3) (b := .idx (.var 4) (.cst (.int 0))) (t := 0) (xs := fo.map opD) (xC1 (f := i__law_same) (rv := .pu (tnD (idT n))) (xVar (i := 0) (env := ldE n m td fo (.val (pD1 p)) b5 b6 b7 b8) rfl) (lsame_ok (k := k + 3) h.n1 h.n3)) rfl rfl (xIdx (xVar rfl) xCst i0) ix
  have e1 : (fo.map opD).set s.toNat (tnD (idT n)) = (fo.set s.toNat (some (idT n))).map opD := by rw [List.map_set]; rfl
  rw [e1] at st
  have g0 : gf (fo.set s.toNat (some (idT n))) s ≠ none := by rw [gf_set I.ln hs hs, if_pos rfl]; simp
  have mono0 : ∀ x ∈ iot m, gf fo x ≠ none → gf (fo.set s.toNat (some (idT n))) x ≠ none := fun x hx q => by
    rw [gf_set I.ln hs hx]
    split
    · simp
    · exact q
  obtain ⟨e2, q1, fo', c5, c6, c7, c8, rfl, I', g', mono, hb⟩ := foI (F := G (k + 4)) (C := C0) (t := .nm 5) (it := .it (.var 4)) (b := l__law_led_3) (env := ldE n m td (fo.set s.toNat (some (idT n))) (.val (pD1 p)) b5 b6 b7 b8) (e1 := ldE n m td (fo.set s.toNat (some (idT n))) (.val (pD1 p)) b5 b6 b7 b8) PyData.int p
    (fun d e => ∃ (fo' : Fo) (c5 c6 c7 c8 : Sl), e = ldE n m td fo' (.val (pD1 p)) c5 c6 c7 c8 ∧ InvL n m ts fo' ∧ gf fo' s ≠ none ∧ (∀ x ∈ iot m, gf (fo.set s.toNat (some (idT n))) x ≠ none → gf fo' x ≠ none) ∧ (badN (fun fo x => x ∈ iot m ∧ gf fo x ≠ none) (compT m ts s) fo' + d.length ≤ p.length ∨ badN (fun fo x => x ∈ iot m ∧ gf fo x ≠ none) (compT m ts s) fo' = 0)) rfl (iPl (xVar rfl))
    ⟨_, _, _, _, _, rfl, I1, g0, fun _ _ z => z, .inl (by have := badN_le (good := fun fo x => x ∈ iot m ∧ gf fo x ≠ none) (compT m ts s) (fo.set s.toNat (some (idT n))); rw [← hp] at this ⊢; simpa using this)⟩ (fun d x r e hdd ⟨fo1, c5, c6, c7, c8, he, I1, g1, mo, hb⟩ => by
      subst he
      obtain ⟨l1, l2, l3⟩ := led_pass h hs I1 g1
      obtain ⟨d6, d7, d8, pp⟩ := ld_pass (k := k) h hd (b4 := .val (pD1 p)) (b5 := .val (.int x)) (b6 := c6) (b7 := c7) (b8 := c8) I1
      refine ⟨ldE n m td fo1 (.val (pD1 p)) (.val (.int x)) c6 c7 c8, _, rfl, .inl (by unfold l__law_led_3; rw [ssC pp, ssN]), _, _, _, _, _, rfl, l1, l2 s hs g1, fun y hy z => l2 y hy (mo y hy z), ?_⟩
      rw [List.length_append]
      simp only [List.length_cons, List.length_nil]
      omega)
  have hb0 : badN (fun fo x => x ∈ iot m ∧ gf fo x ≠ none) (compT m ts s) fo' = 0 := by omega
  have all := bad0 hb0
  have q1' : evS (G (k + 4)) C0 s__law_led_4 (ldE n m td (fo.set s.toNat (some (idT n))) (.val (pD1 p)) b5 b6 b7 b8) = some (.nx (ldE n m td fo' (.val (pD1 p)) c5 c6 c7 c8)) := q1
  have st' : evS (G (k + 4)) C0 (.asg (.sub 3 (.idx (.var 4) (.cst (.int 0)))) (.call i__law_same (.cons (.var 0) (.nil)))) (ldE n m td fo (.val (pD1 p)) b5 b6 b7 b8) = some (.nx (ldE n m td (fo.set s.toNat (some (idT n))) (.val (pD1 p)) b5 b6 b7 b8)) := st
  exact ⟨fo', c5, c6, c7, c8, by unfold l__law_led_5; rw [ssC st', ssC q1', ssN], I', fun x hx z => mono x hx (mono0 x hx z), fun x hx => (all x (by rw [← hp]; exact hx)).2⟩
def dueD : Option (List Tn) → D
  | some fs => .list (fs.map tnD)
  | none => .none
theorem none_mul (hm : m ≤ 8) : binV .mul (.list [.none]) (.int m) = some (.fr ((List.replicate m (none : Option Tn)).map opD)) := by
  have rp : ∀ j : Nat, repL j [PyData.none] = List.replicate j PyData.none := by
    intro j
    induction j with
    | zero => rfl
    | succ j ih => simp [repL, ih, List.replicate_succ]
  have z1 : small64 (m : Int) = true := sm (by omega) (by omega)
  have z2 : lenOk (1 * (m : Int).toNat) = true := lenOk_of (by simp; omega)
  have z3 : (-9223372036854775808 : Int) ≤ m := by omega
  have z4 : (m : Int) < 9223372036854775808 := by omega
  show (if (small64 (m : Int) && decide ((-9223372036854775808 : Int) ≤ m) && decide ((m : Int) < 9223372036854775808) && lenOk (1 * (m : Int).toNat)) = true then some (Opd.fr (repL (m : Int).toNat [.none])) else none) = _
  rw [z1, z2, decide_eq_true z3, decide_eq_true z4]
  rw [Int.toNat_natCast, rp]
  simp [opD]
theorem law_led_ok (h : okTs n m ts) (hd : Seq td (ts.map tieD)) : G (k + 5) i__law_led [.pu (.int n), .pu (.int m), .pu td] = some (.pu (dueD (ledO n m ts)), []) := by
  have m8 := h.m8
  have P := law_pieces_ok (k := k + 3) h hd
  have I0 : InvL n m ts (List.replicate m none) := ⟨by simp, fun x hx t ht => by
    simp only [gf, List.getElem?_replicate] at ht
    split at ht <;> cases ht⟩
  obtain ⟨e2, q1, fo, b4, b5, b6, b7, b8, rfl, I, hall⟩ := foI (F := G (k + 4)) (C := C0) (t := .nm 4) (it := .it (.call i__law_pieces (.cons (.var 1) (.cons (.var 2) (.nil))))) (b := l__law_led_5) (env := ldE n m td (List.replicate m none) .emp .emp .emp .emp .emp) (e1 := ldE n m td (List.replicate m none) .emp .emp .emp .emp .emp) pD1 (pcsT m ts)
    (fun d e => ∃ (fo : Fo) (b4 b5 b6 b7 b8 : Sl), e = ldE n m td fo b4 b5 b6 b7 b8 ∧ InvL n m ts fo ∧ ∀ p ∈ d, ∀ x ∈ p, gf fo x ≠ none) rfl (iFr (xC2 (rv := .fr _) (xVar rfl) (xVar rfl) P)) ⟨_, _, _, _, _, _, rfl, I0, by simp⟩ (fun d p r e hdd ⟨fo, b4, b5, b6, b7, b8, he, I, ha⟩ => by
      subst he
      have hpm : p ∈ pcsT m ts := by rw [hdd]; simp
      obtain ⟨s, l, pe, hs, hls, pc⟩ := piece_at hpm
      obtain ⟨fo', c5, c6, c7, c8, r1, r2, r3, r4⟩ := ld_piece (k := k) h hd hs hls pc pe (b5 := b5) (b6 := b6) (b7 := b7) (b8 := b8) I
      refine ⟨ldE n m td fo (.val (pD1 p)) b5 b6 b7 b8, _, rfl, .inl r1, fo', _, _, _, _, _, rfl, r2, fun p' hp' x hx => ?_⟩
      rcases List.mem_append.mp hp' with hp' | hp'
      · have pm : p' ∈ pcsT m ts := by rw [hdd]; simp [hp']
        obtain ⟨_, _, _, _, _, pc'⟩ := piece_at pm
        have xm : x ∈ iot m := by rw [pc'] at hx; exact (mem_compT.mp hx).1
        exact r3 x xm (ha p' hp' x hx)
      · simp at hp'; subst hp'
        exact r4 x hx)
  obtain ⟨fs, f1, f2, f3, f4⟩ := gd_all I.ln (ts := ts) (n := n) fun x hx => by
    obtain ⟨p, hp, hxp⟩ := in_piece (ts := ts) hx
    have := hall p hp x hxp
    obtain ⟨x0, x1⟩ := mem_iot.mp hx
    cases g : gf fo x with
    | none => exact absurd g this
    | some t =>
      obtain ⟨v1, v2⟩ := I.vl x hx t g
      refine ⟨t, ?_, v1, v2⟩
      have lt : x.toNat < fo.length := by have := I.ln; omega
      unfold gf at g
      rw [List.getElem?_eq_getElem lt] at g ⊢
      simp only [Option.getD_some] at g
      rw [g]
  have fe : fo.map opD = fs.map tnD := by rw [f1, List.map_map]; rfl
  have hs : evS (G (k + 4)) C0 s__law_led_6 (ldE n m td (List.replicate m none) .emp .emp .emp .emp .emp) = some (.nx (ldE n m td fo b4 b5 b6 b7 b8)) := q1
  have x1 : evE (G (k + 4)) C0 (.bin .mul (.lst (.cons (.cst .none) (.nil))) (.var 1)) [.val (.int n), .val (.int m), .val td, .emp, .emp, .emp, .emp, .emp, .emp] = some (.fr ((List.replicate m (none : Option Tn)).map opD), [.val (.int n), .val (.int m), .val td, .emp, .emp, .emp, .emp, .emp, .emp]) := by
    have x3 : evE (G (k + 4)) C0 (.lst (.cons (.cst .none) (.nil))) [.val (.int n), .val (.int m), .val td, .emp, .emp, .emp, .emp, .emp, .emp] = some (.fr [.none], [.val (.int n), .val (.int m), .val td, .emp, .emp, .emp, .emp, .emp, .emp]) := by
      rw [evE, evP, xCst]; dsimp only; rw [frzd]; dsimp only; rw [evP]; rfl
    rw [evE, x3]; dsimp only; rw [xVar (x := .int m) rfl]; dsimp only; rw [rdp, rdp]; dsimp only; rw [none_mul m8]; rfl
  have hu : Seq (.list (fs.map tnD)) (fs.map tnD) := .inl rfl
  have fz : evE (G (k + 4)) C0 (.frz 3) (ldE n m td fo b4 b5 b6 b7 b8) = some (.pu (.list (fs.map tnD)), [.val (.int n), .val (.int m), .val td, .val (.list (fs.map tnD)), b4, b5, b6, b7, b8]) := by
    rw [← fe, evE]; rfl
  have cl := xC2 (F := G (k + 4)) (C := C0) (f := i__law_does_agree) (rv := .pu (.bool (agB ts fs))) (xVar (i := 2) rfl) fz (law_agree_ok (k := k + 1) h hd hu f2 f3)
  have tk := told_ok h f2 f3 f4
  rw [one (fn := ⟨3, 9, b__law_led⟩) rfl]
  have s0 := ssC (ss := .cons s__law_led_6 (.cons (.ret (.ite (.call i__law_does_agree (.cons (.var 2) (.cons (.frz 3) (.nil)))) (.var 3) (.cst .none))) (.nil))) (sOwn (i := 3) x1 rfl)
  by_cases q : agB ts fs = true
  · rw [q] at cl
    rw [if_pos q] at tk
    rw [← tk]
    exact runP (as := [.int n, .int m, td]) rfl rfl ((s0.trans (ssC hs)).trans (ssRet (xIteT cl (xVar rfl))))
  · have qf : agB ts fs = false := by simpa using q
    rw [qf] at cl
    rw [if_neg q] at tk
    rw [← tk]
    exact runP (as := [.int n, .int m, td]) rfl rfl ((s0.trans (ssC hs)).trans (ssRet (xIteF cl xCst)))
/-! ### all lists of turns -/
def rwD (row : List Tn) : D := .list (row.map tnD)
def liE (n m : Nat) (fo lo : List (List Tn)) (b3 b5 b6 : Sl) : Ev := [.val (.int n), .val (.int m), .val (.list (fo.map rwD)), b3, .own 0 (lo.map rwD), b5, b6]
theorem li_row (h1 : 1 ≤ n) (h3 : n ≤ 3) {fo lo : List (List Tn)} {row : List Tn} {b3 b6 : Sl} (k6 : okb b6) (hz : lo.length + 48 ≤ 100000) (hr : row.length ≤ 100) : evSs (G (k + 1)) C0 l__law_lists_2 (liE n m fo lo b3 (.val (rwD row)) b6) = some (.nx (liE n m fo (lo ++ (TT n).map fun t => row ++ [t]) b3 (.val (rwD row)) b6)) := by
  have tl : (TT n).length ≤ 48 := by rcases TT_len h1 h3 with e | e | e <;> omega
  have lk : ∀ t : Tn, lenOk ((row.map tnD).length + [tnD t].length) = true := fun t => lenOk_of (by simp; omega)
  have c := lcA (F := G (k + 1)) (C := C0) (elt := .bin .add (.var 5) (.lst (.cons (.var 6) (.nil)))) (tg := .nm 6) (it := .it (.call i__law_turns (.cons (.var 0) (.nil)))) (own := [6])
    (env := liE n m fo lo b3 (.val (rwD row)) b6) (e0 := liE n m fo lo b3 (.val (rwD row)) .emp) (e2 := liE n m fo lo b3 (.val (rwD row)) b6) tnD (TT n) (fun t => rwD (row ++ [t])) (fun t => liE n m fo lo b3 (.val (rwD row)) (.val (tnD t)))
    (iFr (xC1 (rv := .fr _) (xVar rfl) (lturns_ok h1 h3))) rfl (by simp [backE, liE, okb_val k6]) (by omega) (fun t ht => rfl) (fun t ht => rfl) (fun t ht => by
      have v : binV .add (.list (row.map tnD)) (.list [tnD t]) = some (.fr ((row ++ [t]).map tnD)) := by
        show (if lenOk ((row.map tnD).length + [tnD t].length) then some (Opd.fr (row.map tnD ++ [tnD t])) else none) = _
        rw [if_pos (lk t), List.map_append]; rfl
      exact ⟨.fr ((row ++ [t]).map tnD), xBinR (o := .pu (.list (row.map tnD))) (xVar rfl) (xLs1 (xVar rfl) rfl) rfl rfl v, rfl⟩)
  have e : (TT n).map (fun t => rwD (row ++ [t])) = ((TT n).map fun t => row ++ [t]).map rwD := by rw [List.map_map]; rfl
  rw [e] at c
  have c' : evE (G (k + 1)) C0 e__law_lists_1 (liE n m fo lo b3 (.val (rwD row)) b6) = some (.fr (((TT n).map fun t => row ++ [t]).map rwD), liE n m fo lo b3 (.val (rwD row)) b6) := c
  have z : lenOk ((lo.map rwD).length + (((TT n).map fun t => row ++ [t]).map rwD).length) = true := lenOk_of (by simp; omega)
  have ex : evE (G (k + 1)) C0 (.mth .extend 4 (.cons (e__law_lists_1) (.nil))) (liE n m fo lo b3 (.val (rwD row)) b6) = some (.pu .none, liE n m fo (lo ++ (TT n).map fun t => row ++ [t]) b3 (.val (rwD row)) b6) := by
    have q := xExt (F := G (k + 1)) (C := C0) (i := 4) (t := 0) (xs := lo.map rwD) rfl c' rfl z
    rw [← List.map_append] at q
    exact q
  unfold l__law_lists_2
  rw [ssC (sEx ex), ssN]
theorem law_lists_ok (h1 : 1 ≤ n) (h3 : n ≤ 3) (hm : m ≤ 8) (hz : ∀ i, i ≤ m → (TT n).length ^ i ≤ 1000) : G (k + 2) i__law_lists [.pu (.int n), .pu (.int m)] = some (.pu (.list ((lisT (TT n) m).map rwD)), []) := by
  have hr : rngV (.int 0) (.int (m : Int)) = some ((iot m).map .int) := by
    have := rng_iot (n := (m : Int)) (by omega) (by omega)
    simpa using this
  obtain ⟨e2, q1, b3, b4, b5, b6, rfl, k6⟩ := foI (F := G (k + 1)) (C := C0) (t := .nm 3) (it := .rng (.cst (.int 0)) (.var 1)) (b := l__law_lists_4) (env := [.val (.int n), .val (.int m), .val (.list ([[]].map rwD)), .emp, .emp, .emp, .emp]) (e1 := [.val (.int n), .val (.int m), .val (.list ([[]].map rwD)), .emp, .emp, .emp, .emp]) PyData.int (iot m)
    (fun d e => ∃ (b3 b4 b5 b6 : Sl), e = [.val (.int n), .val (.int m), .val (.list ((lisT (TT n) d.length).map rwD)), b3, b4, b5, b6] ∧ okb b6) rfl (iRng xCst (xVar rfl) hr) ⟨_, _, _, _, rfl, .inl rfl⟩ (fun d x r e hd ⟨b3, b4, b5, b6, he, k6⟩ => by
      subst he
      have dl : d.length + 1 ≤ m := by have := congrArg List.length hd; simp [iot_len] at this; omega
      have zl : (lisT (TT n) d.length).length ≤ 1000 := by rw [lis_count]; exact hz _ (by omega)
      have rl : ∀ row ∈ lisT (TT n) d.length, row.length ≤ 100 := fun row hrow => by have := (lis_len hrow).1; omega
      have tl : (TT n).length ≤ 48 := by rcases TT_len h1 h3 with e | e | e <;> omega
      generalize hL : lisT (TT n) d.length = L at zl rl
      obtain ⟨e2, p1, c5, c6, rfl, k6'⟩ := foI (F := G (k + 1)) (C := C0) (t := .nm 5) (it := .it (.var 2)) (b := l__law_lists_2) (env := liE n m L [] (.val (.int x)) b5 b6) (e1 := liE n m L [] (.val (.int x)) b5 b6) rwD L
        (fun d e => ∃ (b5 b6 : Sl), e = liE n m L (d.flatMap fun row => (TT n).map fun t => row ++ [t]) (.val (.int x)) b5 b6 ∧ okb b6) rfl (iPl (xVar rfl)) ⟨_, _, rfl, k6⟩ (fun d row r e hd ⟨b5, b6, he, k6⟩ => by
          subst he
          have rm : row ∈ L := by rw [hd]; simp
          have dz : d.length ≤ 1000 := by have := congrArg List.length hd; simp at this; omega
          have fl : (d.flatMap fun row => (TT n).map fun t => row ++ [t]).length ≤ 48000 := by
            simp only [List.length_flatMap, List.length_map]
            rw [List.map_const', List.sum_replicate_nat]
            calc d.length * (TT n).length ≤ 1000 * 48 := Nat.mul_le_mul dz tl
              _ = 48000 := rfl
          refine ⟨liE n m L (d.flatMap fun row => (TT n).map fun t => row ++ [t]) (.val (.int x)) (.val (rwD row)) b6, _, rfl, .inl (li_row h1 h3 k6 (by omega) (rl row rm)), .val (rwD row), b6, ?_, k6⟩
          rw [List.flatMap_append]
          simp)
      have nx : L.flatMap (fun row => (TT n).map fun t => row ++ [t]) = lisT (TT n) (d ++ [x]).length := by rw [List.length_append, ← hL]; rfl
      rw [nx] at p1
      have p1' : evS (G (k + 1)) C0 s__law_lists_3 (liE n m L [] (.val (.int x)) b5 b6) = some (.nx (liE n m L (lisT (TT n) (d ++ [x]).length) (.val (.int x)) c5 c6)) := p1
      have s1 : evS (G (k + 1)) C0 (.own 4 (.lst (.nil))) [.val (.int n), .val (.int m), .val (.list (L.map rwD)), .val (.int x), b4, b5, b6] = some (.nx (liE n m L [] (.val (.int x)) b5 b6)) := sOwn xNil rfl
      have fz : evE (G (k + 1)) C0 (.frz 4) (liE n m L (lisT (TT n) (d ++ [x]).length) (.val (.int x)) c5 c6) = some (.pu (.list ((lisT (TT n) (d ++ [x]).length).map rwD)), [.val (.int n), .val (.int m), .val (.list (L.map rwD)), .val (.int x), .val (.list ((lisT (TT n) (d ++ [x]).length).map rwD)), c5, c6]) := by
        rw [evE]; rfl
      refine ⟨[.val (.int n), .val (.int m), .val (.list (L.map rwD)), .val (.int x), b4, b5, b6], [.val (.int n), .val (.int m), .val (.list ((lisT (TT n) (d ++ [x]).length).map rwD)), .val (.int x), .val (.list ((lisT (TT n) (d ++ [x]).length).map rwD)), c5, c6], rfl, .inl ?_, .val (.int x), .val (.list ((lisT (TT n) (d ++ [x]).length).map rwD)), c5, c6, rfl, k6'⟩
      unfold l__law_lists_4
      rw [ssC s1, ssC p1', ssC (sAsg fz rfl rfl), ssN]
      rfl)
  rw [iot_len] at q1
  have hs : evS (G (k + 1)) C0 s__law_lists_5 [.val (.int n), .val (.int m), .val (.list ([[]].map rwD)), .emp, .emp, .emp, .emp] = _ := q1
  rw [one (fn := ⟨2, 7, b__law_lists⟩) rfl]
  have x0 : evE (G (k + 1)) C0 (.lst (.cons (.lst (.nil)) (.nil))) [.val (.int n), .val (.int m), .emp, .emp, .emp, .emp, .emp] = some (.fr ([[]].map rwD), [.val (.int n), .val (.int m), .emp, .emp, .emp, .emp, .emp]) := by
    rw [evE, evP, xNil]; dsimp only; rw [frzd]; dsimp only; rw [evP]; rfl
  exact runP (as := [.int n, .int m]) rfl rfl (((ssC (sAsg x0 rfl rfl)).trans (ssC hs)).trans (ssRet (xVar rfl)))
end
end K84

set_option Elab.async false
set_option linter.all false
set_option maxRecDepth 100000
set_option maxHeartbeats 4000000
namespace K84
open PySem Rf
section
variable {k n m : Nat} {p0 p1 : Int}
def pot (p0 p1 : Int) : Sl := .own 1 [.int p0, .int p1]
/-- a turn picked -/
theorem pickT (h1 : 1 ≤ n) (h3 : n ≤ 3) (hp : Pot p0 p1) {a : IE} {env : Ev} (h0 : env[0]? = some (pot p0 p1)) (ha : evE (G (k + 2)) C0 a env = some (.pu (.int n), env)) :
    ∃ t q0 q1, t ∈ TT n ∧ Pot q0 q1 ∧ evE (G (k + 2)) C0 (.call i__law_pick (.cons (.var 0) (.cons (.call i__law_turns (.cons a (.nil))) (.nil)))) env = some (.pu (tnD t), env.set 0 (pot q0 q1)) := by
  have tl : (TT n).length ≤ 48 ∧ 0 < (TT n).length := by rcases TT_len h1 h3 with e | e | e <;> omega
  obtain ⟨x, q0, q1, e, hq, hx⟩ := pick_ok (k := k) (xs := (TT n).map tnD) hp (by rw [List.length_map]; omega) (by rw [List.length_map]; omega)
  obtain ⟨t, ht, rfl⟩ := List.mem_map.mp hx
  exact ⟨t, q0, q1, ht, hq, xIo2 (rv := .pu (tnD t)) h0 (xC1 (rv := .fr ((TT n).map tnD)) ha (lturns_ok h1 h3)) rfl e⟩
/-- rows of picked turns -/
theorem rowT (h1 : 1 ≤ n) (h3 : n ≤ 3) (hp : Pot p0 p1) {own : List Nat} {tg : IT} {it : II} {elt : IE} {ds : List D} {E : Int → Int → Ev} (hI : evI (G (k + 2)) C0 it (E p0 p1) = some (ds, E p0 p1)) (hw : ∀ a b, wipeE (E a b) own = E a b) (hz : ds.length ≤ 1000) (hb : ∀ a b, backE (E p0 p1) (E a b) own = E a b)
    (hs : ∀ d ∈ ds, ∀ a b, Pot a b → ∃ e1 t q0 q1, asgT (G (k + 2)) C0 tg d (E a b) = some e1 ∧ t ∈ TT n ∧ Pot q0 q1 ∧ ∃ e2, evE (G (k + 2)) C0 elt e1 = some (.pu (tnD t), e2) ∧ wipeE e2 own = E q0 q1) :
    ∃ (row : List Tn) (q0 q1 : Int), evE (G (k + 2)) C0 (.lc elt tg it .non own) (E p0 p1) = some (.fr (row.map tnD), E q0 q1) ∧ Pot q0 q1 ∧ row.length = ds.length ∧ ∀ t ∈ row, t ∈ TT n := by
  obtain ⟨ys, e2, c1, row, q0, q1, rfl, rfl, c2, c3, c4⟩ := lcEI (F := G (k + 2)) (C := C0) (elt := elt) (tg := tg) (it := it) (cd := .non) (own := own) (env := E p0 p1) (e1 := E p0 p1) (ds := ds)
    (fun rest xs e => ∃ (row : List Tn) (q0 q1 : Int), xs = row.map tnD ∧ e = E q0 q1 ∧ Pot q0 q1 ∧ row.length + rest.length = ds.length ∧ (∀ t ∈ row, t ∈ TT n) ∧ ∀ d ∈ rest, d ∈ ds) hI ⟨[], p0, p1, rfl, hw _ _, hp, by simp, by simp, fun _ z => z⟩ (fun d rest xs e ⟨row, q0, q1, hx, he, hq, hl, hr, hd⟩ => by
      subst hx; subst he
      obtain ⟨e1, t, r0, r1, a1, a2, a3, e2, a4, a5⟩ := hs d (hd d List.mem_cons_self) q0 q1 hq
      refine ⟨e1, true, e1, a1, by rw [evD], fun z => (nomatch z), fun _ => ⟨tnD t, e2, by rw [a4]; rfl, row ++ [t], r0, r1, by rw [List.map_append]; rfl, a5, a3, by simp at hl ⊢; omega, fun u hu => ?_, fun d' hd' => hd d' (List.mem_cons_of_mem _ hd')⟩⟩
      rcases List.mem_append.mp hu with hu | hu
      · exact hr u hu
      · simp at hu; subst hu; exact a2)
    (fun xs e ⟨row, q0, q1, hx, _, _, hl, _⟩ => by subst hx; simp at hl ⊢; omega)
  refine ⟨row, q0, q1, ?_, c2, by simpa using c3, c4.1⟩
  rw [hb] at c1
  exact c1
def tsE (q0 q1 : Int) (n m : Nat) (b4 : Sl) (fo : List Tie) (plan : List Tn) (b7 b8 : Sl) : Ev := [pot q0 q1, .val (.int n), .val (.int m), .val (.int 8), b4, .own 0 (fo.map tieD), .val (.list (plan.map tnD)), b7, b8]
theorem two_of {ys : List Int} (hp : ys.Perm (iot m)) (hm : 2 ≤ m) : ∃ a b r, ys = a :: b :: r ∧ a ∈ iot m ∧ b ∈ iot m ∧ a ≠ b := by
  have hl : ys.length = m := by rw [hp.length_eq, iot_len]
  have nd : ys.Nodup := hp.nodup_iff.mpr (iot_nodup m)
  match ys, hl, nd, hp with
  | [], hl, _, _ => simp at hl; omega
  | [a], hl, _, _ => simp at hl; omega
  | a :: b :: r, _, nd, hp =>
    refine ⟨a, b, r, rfl, hp.mem_iff.mp (by simp), hp.mem_iff.mp (by simp), fun e => ?_⟩
    subst e
    simp at nd
theorem ties_body (h1 : 1 ≤ n) (h3 : n ≤ 3) (hm : 2 ≤ m) (h8 : m ≤ 8) (hp : Pot p0 p1) {plan : List Tn} (pl : plan.length = m) (pv : ∀ t ∈ plan, t ∈ TT n) {fo : List Tie} {b4 b7 b8 : Sl} (hz : fo.length ≤ 100) :
    ∃ (t : Tie) (q0 q1 : Int) (b4' b7' b8' : Sl), evSs (G (k + 4)) C0 l__law_ties_1 (tsE p0 p1 n m b4 fo plan b7 b8) = some (.nx (tsE q0 q1 n m b4' (fo ++ [t]) plan b7' b8')) ∧ Pot q0 q1 ∧ 0 ≤ t.1 ∧ t.1 < m ∧ 0 ≤ t.2.1 ∧ t.2.1 < m ∧ t.1 ≠ t.2.1 ∧ t.2.2 ∈ TT n := by
  have hr : rngV (.int 0) (.int (m : Int)) = some ((iot m).map .int) := by
    have := rng_iot (n := (m : Int)) (by omega) (by omega)
    simpa using this
  obtain ⟨ys, r0, r1, me, mp, perm⟩ := mixed_ok (k := k + 2) PyData.int sh_li (xs := iot m) hp (by rw [iot_len]; omega)
  obtain ⟨a, b, r, rfl, ha, hb, hab⟩ := two_of perm hm
  obtain ⟨a0, a1⟩ := mem_iot.mp ha
  obtain ⟨b0, b1⟩ := mem_iot.mp hb
  have hu : Seq (.list (plan.map tnD)) (plan.map tnD) := .inl rfl
  have pa := pv _ (gT_mem pl ha)
  have pb := pv _ (gT_mem pl hb)
  have pi := (TT_iv h1 h3 pa).1
  have mi := TT_mul h1 h3 pi pb
  -- one, other
  have x1 : evE (G (k + 4)) C0 (.lrg (.cst (.int 0)) (.var 2)) (tsE p0 p1 n m b4 fo plan b7 b8) = some (.fr ((iot m).map .int), tsE p0 p1 n m b4 fo plan b7 b8) := lrgE xCst (xVar rfl) hr (lenOk_of (by rw [List.length_map, iot_len]; omega))
  have x2 := xIo2 (F := G (k + 4)) (C := C0) (f := i__law_mixed) (i := 0) (t := 1) (xs := [.int p0, .int p1]) (rv := .fr ((a :: b :: r).map PyData.int)) rfl x1 rfl me
  have x3 : evE (G (k + 4)) C0 (.slc (.call i__law_mixed (.cons (.var 0) (.cons (.lrg (.cst (.int 0)) (.var 2)) (.nil)))) (.non) (.som (.cst (.int 2)))) (tsE p0 p1 n m b4 fo plan b7 b8) = some (.fr [.int a, .int b], tsE r0 r1 n m b4 fo plan b7 b8) := by
    have x2' : evE (G (k + 4)) C0 (.call i__law_mixed (.cons (.var 0) (.cons (.lrg (.cst (.int 0)) (.var 2)) (.nil)))) (tsE p0 p1 n m b4 fo plan b7 b8) = some (.fr ((a :: b :: r).map PyData.int), tsE r0 r1 n m b4 fo plan b7 b8) := x2
    generalize (IE.call i__law_mixed (.cons (.var 0) (.cons (.lrg (.cst (.int 0)) (.var 2)) (.nil)))) = ie at x2' ⊢
    rw [evE, x2']; dsimp only; rw [oNon]; dsimp only; rw [oCst]; dsimp only; rw [rds]; dsimp only
    show Option.map _ (some (Opd.fr (cutL ((a :: b :: r).map PyData.int) none (some ((2 : Nat) : Int))))) = _
    rw [cut_lo _ (by simp)]; rfl
  have s1 : evS (G (k + 4)) C0 (.asg (.tp (.cons (.nm 7) (.cons (.nm 8) (.nil)))) (.slc (.call i__law_mixed (.cons (.var 0) (.cons (.lrg (.cst (.int 0)) (.var 2)) (.nil)))) (.non) (.som (.cst (.int 2))))) (tsE p0 p1 n m b4 fo plan b7 b8) = some (.nx (tsE r0 r1 n m b4 fo plan (.val (.int a)) (.val (.int b)))) := sTup2L x3 rfl rfl
  -- the turn by the plan
  have s2 : evS (G (k + 4)) C0 (.asg (.nm 4) (.call i__law_behind (.cons (.call i__law_undone (.cons (.idx (.var 6) (.var 7)) (.nil))) (.cons (.idx (.var 6) (.var 8)) (.nil))))) (tsE r0 r1 n m b4 fo plan (.val (.int a)) (.val (.int b))) = some (.nx (tsE r0 r1 n m (.val (tnD (mulT (invT (gTn plan a)) (gTn plan b)))) fo plan (.val (.int a)) (.val (.int b)))) :=
    sAsg (xC2 (rv := .pu _) (xC1 (rv := .pu (tnD (invT (gTn plan a)))) (xIdx (xVar rfl) (xVar rfl) (turn_at hu pl ha)) (lundone_ok (k := k + 1) h1 h3 pa)) (xIdx (xVar rfl) (xVar rfl) (turn_at hu pl hb)) (lbehind_ok (k := k + 2) h1 h3 pi pb)) rfl rfl
  -- perhaps another one
  have s3 : ∃ t q0 q1, t ∈ TT n ∧ Pot q0 q1 ∧ evE (G (k + 4)) C0 (.ite (.cmp .gt (.call i__law_draw (.cons (.var 0) (.cons (.cst (.int 5)) (.nil)))) (.cst (.int 0))) (.var 4) (.call i__law_pick (.cons (.var 0) (.cons (.call i__law_turns (.cons (.var 1) (.nil))) (.nil))))) (tsE r0 r1 n m (.val (tnD (mulT (invT (gTn plan a)) (gTn plan b)))) fo plan (.val (.int a)) (.val (.int b))) =
      some (.pu (tnD t), tsE q0 q1 n m (.val (tnD (mulT (invT (gTn plan a)) (gTn plan b)))) fo plan (.val (.int a)) (.val (.int b))) := by
    obtain ⟨d, q0, q1, de, dp, d0, d1⟩ := draw_ok (k := k + 3) (m := 5) mp (by decide) (by decide)
    have c1 : evE (G (k + 4)) C0 (.call i__law_draw (.cons (.var 0) (.cons (.cst (.int 5)) (.nil)))) (tsE r0 r1 n m (.val (tnD (mulT (invT (gTn plan a)) (gTn plan b)))) fo plan (.val (.int a)) (.val (.int b))) = some (.pu (.int d), tsE q0 q1 n m (.val (tnD (mulT (invT (gTn plan a)) (gTn plan b)))) fo plan (.val (.int a)) (.val (.int b))) := xIo2 (t := 1) (xs := [.int r0, .int r1]) (rv := .pu (.int d)) rfl xCst rfl de
    have c2 : evE (G (k + 4)) C0 (.cmp .gt (.call i__law_draw (.cons (.var 0) (.cons (.cst (.int 5)) (.nil)))) (.cst (.int 0))) (tsE r0 r1 n m (.val (tnD (mulT (invT (gTn plan a)) (gTn plan b)))) fo plan (.val (.int a)) (.val (.int b))) = some (.pu (.bool (decide (0 < d))), tsE q0 q1 n m (.val (tnD (mulT (invT (gTn plan a)) (gTn plan b)))) fo plan (.val (.int a)) (.val (.int b))) := xCmp c1 xCst rfl
    by_cases z : 0 < d
    · rw [decide_eq_true z] at c2
      exact ⟨_, q0, q1, mi, dp, xIteT c2 (xVar rfl)⟩
    · rw [decide_eq_false z] at c2
      obtain ⟨t, u0, u1, tm, up, te⟩ := pickT (k := k + 2) h1 h3 dp (a := .var 1) (env := tsE q0 q1 n m (.val (tnD (mulT (invT (gTn plan a)) (gTn plan b)))) fo plan (.val (.int a)) (.val (.int b))) rfl (xVar rfl)
      exact ⟨t, u0, u1, tm, up, xIteF c2 te⟩
  obtain ⟨t, q0, q1, tm, tp, te⟩ := s3
  refine ⟨(a, b, t), q0, q1, .val (tnD (mulT (invT (gTn plan a)) (gTn plan b))), .val (.int a), .val (.int b), ?_, tp, a0, a1, b0, b1, hab, tm⟩
  generalize mulT (invT (gTn plan a)) (gTn plan b) = u at s2 te ⊢
  have tu : evE (G (k + 4)) C0 (.tup (.cons (.var 7) (.cons (.var 8) (.cons (.ite (.cmp .gt (.call i__law_draw (.cons (.var 0) (.cons (.cst (.int 5)) (.nil)))) (.cst (.int 0))) (.var 4) (.call i__law_pick (.cons (.var 0) (.cons (.call i__law_turns (.cons (.var 1) (.nil))) (.nil))))) (.nil))))) (tsE r0 r1 n m (.val (tnD u)) fo plan (.val (.int a)) (.val (.int b))) = some (.pu (tieD (a, b, t)), tsE q0 q1 n m (.val (tnD u)) fo plan (.val (.int a)) (.val (.int b))) := by
    generalize (IE.ite (.cmp .gt (.call i__law_draw (.cons (.var 0) (.cons (.cst (.int 5)) (.nil)))) (.cst (.int 0))) (.var 4) (.call i__law_pick (.cons (.var 0) (.cons (.call i__law_turns (.cons (.var 1) (.nil))) (.nil))))) = ie at te ⊢
    rw [evE, evP, xVar (x := .int a) rfl]; dsimp only; rw [frzd]; dsimp only; rw [evP, xVar (x := .int b) rfl]; dsimp only; rw [frzd]; dsimp only; rw [evP, te]; dsimp only; rw [frzd]; dsimp only; rw [evP]; rfl
  have ap := xApp (F := G (k + 4)) (C := C0) (i := 5) (t := 0) (xs := fo.map tieD) (env := tsE r0 r1 n m (.val (tnD u)) fo plan (.val (.int a)) (.val (.int b))) rfl tu rfl rfl (by simp; omega)
  unfold l__law_ties_1
  rw [ssC s1, ssC s2, ssC (sEx ap), ssN]
  simp only [tsE, List.map_append, List.map_cons, List.map_nil]
  rfl
theorem ties_ok (h1 : 1 ≤ n) (h3 : n ≤ 3) (hm : 1 ≤ m) (h6 : m ≤ 8) (hp : Pot p0 p1) : ∃ (ts : List Tie) (q0 q1 : Int), G (k + 5) i__law_ties [.io [.int p0, .int p1], .pu (.int n), .pu (.int m), .pu (.int 8)] = some (.fr (ts.map tieD), [[.int q0, .int q1]]) ∧ Pot q0 q1 ∧ okTs n m ts ∧ ts.length ≤ 8 := by
  have hr : rngV (.int 0) (.int (m : Int)) = some ((iot m).map .int) := by
    have := rng_iot (n := (m : Int)) (by omega) (by omega)
    simpa using this
  obtain ⟨plan, q0, q1, pe, pp, pl, pv⟩ := rowT (k := k + 2) (n := n) h1 h3 hp (own := [7]) (tg := .nm 7) (it := .rng (.cst (.int 0)) (.var 2)) (elt := .call i__law_pick (.cons (.var 0) (.cons (.call i__law_turns (.cons (.var 1) (.nil))) (.nil)))) (ds := (iot m).map .int)
    (E := fun a b => [pot a b, .val (.int n), .val (.int m), .val (.int 8), .emp, .emp, .emp, .emp, .emp]) (iRng xCst (xVar rfl) hr) (fun _ _ => rfl) (by simp [iot_len]; omega) (fun _ _ => rfl) (fun d hd a b hab => by
      obtain ⟨t, u0, u1, tm, up, te⟩ := pickT (k := k + 2) h1 h3 hab (a := .var 1) (env := [pot a b, .val (.int n), .val (.int m), .val (.int 8), .emp, .emp, .emp, .val d, .emp]) rfl (xVar rfl)
      exact ⟨_, t, u0, u1, rfl, tm, up, _, te, rfl⟩)
  rw [List.length_map, iot_len] at pl
  have s1 : evS (G (k + 4)) C0 (.par2 5 6 true false (.lst (.nil)) (e__law_ties_3)) [pot p0 p1, .val (.int n), .val (.int m), .val (.int 8), .emp, .emp, .emp, .emp, .emp] = some (.nx (tsE q0 q1 n m .emp [] plan .emp .emp)) := sPar2 xNil rfl pe rfl rfl rfl
  -- how many
  have hc : ∃ (c : Nat) (u0 u1 : Int), c ≤ 8 ∧ (2 ≤ m ∨ c = 0) ∧ Pot u0 u1 ∧ evI (G (k + 4)) C0 (.rng (.cst (.int 0)) (.ite (.cmp .gt (.var 2) (.cst (.int 1))) (.call i__law_draw (.cons (.var 0) (.cons (.bin .add (.var 3) (.cst (.int 1))) (.nil)))) (.cst (.int 0)))) (tsE q0 q1 n m .emp [] plan .emp .emp) = some ((iot c).map .int, tsE u0 u1 n m .emp [] plan .emp .emp) := by
    have c1 : evE (G (k + 4)) C0 (.cmp .gt (.var 2) (.cst (.int 1))) (tsE q0 q1 n m .emp [] plan .emp .emp) = some (.pu (.bool (decide ((1 : Int) < m))), tsE q0 q1 n m .emp [] plan .emp .emp) := xCmp (xVar rfl) xCst rfl
    by_cases z : (1 : Int) < m
    · rw [decide_eq_true z] at c1
      obtain ⟨d, u0, u1, de, dp, d0, d1⟩ := draw_ok (k := k + 3) (m := 9) pp (by decide) (by decide)
      have c2 : evE (G (k + 4)) C0 (.call i__law_draw (.cons (.var 0) (.cons (.bin .add (.var 3) (.cst (.int 1))) (.nil)))) (tsE q0 q1 n m .emp [] plan .emp .emp) = some (.pu (.int d), tsE u0 u1 n m .emp [] plan .emp .emp) := xIo2 (t := 1) (xs := [.int q0, .int q1]) (rv := .pu (.int d)) rfl (xBin (xVar rfl) xCst rfl) rfl de
      exact ⟨d.toNat, u0, u1, by omega, .inl (by omega), dp, iRng xCst (xIteT c1 c2) (rng_iot d0 (by omega))⟩
    · rw [decide_eq_false z] at c1
      exact ⟨0, q0, q1, by omega, .inr rfl, pp, iRng xCst (xIteF c1 xCst) (rng_iot (by decide) (by decide))⟩
  obtain ⟨c, u0, u1, c8, cm, up, cI⟩ := hc
  obtain ⟨e2, f1, ts, v0, v1, b4, b7, b8, rfl, f2, f3, f4⟩ := foI (F := G (k + 4)) (C := C0) (t := .nm 4) (b := l__law_ties_1) (env := tsE q0 q1 n m .emp [] plan .emp .emp) PyData.int (iot c)
    (fun d e => ∃ (ts : List Tie) (v0 v1 : Int) (b4 b7 b8 : Sl), e = tsE v0 v1 n m b4 ts plan b7 b8 ∧ Pot v0 v1 ∧ ts.length = d.length ∧ ∀ t ∈ ts, 0 ≤ t.1 ∧ t.1 < m ∧ 0 ≤ t.2.1 ∧ t.2.1 < m ∧ t.1 ≠ t.2.1 ∧ t.2.2 ∈ TT n) rfl cI ⟨[], u0, u1, .emp, .emp, .emp, rfl, up, rfl, by simp⟩ (fun d x r e hd ⟨ts, v0, v1, b4, b7, b8, he, hv, hl, ht⟩ => by
      subst he
      have dl : d.length < c := by have := congrArg List.length hd; simp [iot_len] at this; omega
      have m2 : 2 ≤ m := by rcases cm with z | z <;> omega
      obtain ⟨t, w0, w1, b4', b7', b8', y1, y2, y3⟩ := ties_body (k := k) h1 h3 m2 h6 hv pl pv (fo := ts) (b4 := .val (.int x)) (b7 := b7) (b8 := b8) (by omega)
      refine ⟨tsE v0 v1 n m (.val (.int x)) ts plan b7 b8, _, rfl, .inl y1, ts ++ [t], w0, w1, b4', b7', b8', rfl, y2, by simp [hl], fun u hu => ?_⟩
      rcases List.mem_append.mp hu with hu | hu
      · exact ht u hu
      · simp at hu; subst hu; exact y3)
  rw [iot_len] at f3
  refine ⟨ts, v0, v1, ?_, f2, ⟨h1, h3, hm, h6, by omega, f4⟩, by omega⟩
  rw [one (fn := ⟨4, 9, b__law_ties⟩) rfl]
  have hs : evS (G (k + 4)) C0 s__law_ties_2 (tsE q0 q1 n m .emp [] plan .emp .emp) = some (.nx (tsE v0 v1 n m b4 ts plan b7 b8)) := f1
  have e : evSs (G (k + 4)) C0 b__law_ties [pot p0 p1, .val (.int n), .val (.int m), .val (.int 8), .emp, .emp, .emp, .emp, .emp] = some (.rt (.bo 5) (tsE v0 v1 n m b4 ts plan b7 b8)) := ((ssC s1).trans (ssC hs)).trans (ssRet (xOwn rfl))
  exact runE rfl rfl e rfl
end
end K84

set_option Elab.async false
set_option linter.all false
set_option maxRecDepth 100000
set_option maxHeartbeats 4000000
namespace K84
open PySem Rf
theorem sOwnV {F : FT} {C : List D} {a : IE} {env e1 e2 : Ev} {i : Nat} {d : D} (h : evE F C a env = some (.pu d, e1)) (hp : putv e1 i (.val d) = some e2) : evS F C (.own i a) env = some (.nx e2) := by
  rw [evS, h]; dsimp only; rw [hp]; rfl
section
variable {k n m : Nat} {ts : List Tie}
def tsD (ts : List Tie) : D := .list (ts.map tieD)
def rE (P : Sl) (n m : Nat) (ts : List Tie) (b4 b5 b6 b7 b8 b9 b10 b11 b12 b13 b14 b15 b16 b17 : Sl) : Ev := [P, .val (.int n), .val (.int m), .val (tsD ts), b4, b5, b6, b7, b8, b9, b10, b11, b12, b13, b14, b15, b16, b17]
def tlS : Option (List Tn) → Sl
  | some fs => .own 0 (fs.map tnD)
  | none => .val .none
theorem seqD : Seq (tsD ts) (ts.map tieD) := .inl rfl
theorem seqT : Seq (.tuple (ts.map tieD)) (ts.map tieD) := .inr rfl
variable {P b4 b5 b6 b7 b8 b9 b10 b11 b12 b13 b14 b15 b16 b17 : Sl}
theorem xTold (F : FT) (o : Option (List Tn)) : ∃ op, evE F C0 (.var 4) (rE P n m ts (tlS o) b5 b6 b7 b8 b9 b10 b11 b12 b13 b14 b15 b16 b17) = some (op, rE P n m ts (tlS o) b5 b6 b7 b8 b9 b10 b11 b12 b13 b14 b15 b16 b17) ∧ rds (rE P n m ts (tlS o) b5 b6 b7 b8 b9 b10 b11 b12 b13 b14 b15 b16 b17) (thaw op) = some (dueD o) := by
  cases o with
  | none => exact ⟨_, xVar rfl, rfl⟩
  | some fs => exact ⟨_, xOwn (t := 0) (xs := fs.map tnD) rfl, rfl⟩
theorem rd_told (e : Ev) (o : Option (List Tn)) : rds e (thaw (rvO (toldR o))) = some (dueD o) := by cases o <;> rfl
theorem th_told (o : Option (List Tn)) : thaw (rvO (toldR o)) = .pu (dueD o) := by cases o <;> rfl
theorem due_small (h : okTs n m ts) : smK 80 4 (dueD (ledO n m ts)) := by
  cases e : ledO n m ts with
  | none => exact smK_n.mono (by omega) (by omega)
  | some fs =>
    obtain ⟨l, v, _⟩ := ledO_mem h e
    have m8 := h.m8
    have := smK.list (c := 9) (p := 3) (n := 8) (xs := fs.map tnD) (fun x hx => by
      obtain ⟨t, ht, rfl⟩ := List.mem_map.mp hx
      exact smK_turn h.n1 h.n3 (v t ht)) (by rw [List.length_map]; omega)
    exact this
theorem two_ok {c p : Nat} {x : D} (h : smK c p x) (hc : c ≤ 7000) (hp : p ≤ 60) : reprOk (.list [x, x]) = true :=
  (smK.list (c := c) (p := p) (n := 2) (xs := [x, x]) (fun y hy => by simp at hy; subst hy; exact h) (by simp)).ok (by omega) (by omega)
theorem ties_small (h : okTs n m ts) : reprOk (tsD ts) = true := by
  have lz := h.ln
  exact (smK.list (c := 30) (p := 4) (n := 24) (xs := ts.map tieD) (fun x hx => by
    obtain ⟨t, ht, rfl⟩ := List.mem_map.mp hx
    exact smK_tie h ht) (by rw [List.length_map]; omega)).ok (by omega) (by omega)
/-- told -/
theorem r_told (h : okTs n m ts) : evS (G (k + 7)) C0 (.own 4 (.call i_turns_for (.cons (.var 1) (.cons (.var 2) (.cons (.var 3) (.nil)))))) (rE P n m ts b4 b5 b6 b7 b8 b9 b10 b11 b12 b13 b14 b15 b16 b17) = some (.nx (rE P n m ts (tlS (ledO n m ts)) b5 b6 b7 b8 b9 b10 b11 b12 b13 b14 b15 b16 b17)) := by
  have T := xC3 (F := G (k + 7)) (C := C0) (env := rE P n m ts b4 b5 b6 b7 b8 b9 b10 b11 b12 b13 b14 b15 b16 b17) (rv := toldR (ledO n m ts)) (xVar (i := 1) rfl) (xVar (i := 2) rfl) (xVar (i := 3) rfl) (turns_for_ok h seqD)
  cases e : ledO n m ts with
  | none => rw [e] at T; exact sOwnV T rfl
  | some fs => rw [e] at T; exact sOwn T rfl
theorem r_chk1 (h : okTs n m ts) : evE (G (k + 7)) C0 (.cmp .ne (.rpr (.cons (.var 4) (.cons (.callk i_turns_for [2, 1, 0] (.cons (.blt .tuple1 (.cons (.var 3) (.nil))) (.cons (.var 2) (.cons (.var 1) (.nil))))) (.nil)))) (.rpr (.cons (.var 10) (.cons (.var 10) (.nil))))) (rE P n m ts (tlS (ledO n m ts)) b5 b6 b7 b8 b9 (.val (dueD (ledO n m ts))) b11 b12 b13 b14 b15 b16 b17) =
    some (.pu (.bool false), rE P n m ts (tlS (ledO n m ts)) b5 b6 b7 b8 b9 (.val (dueD (ledO n m ts))) b11 b12 b13 b14 b15 b16 b17) := by
  obtain ⟨op, o1, o2⟩ := xTold (G (k + 7)) (P := P) (n := n) (m := m) (ts := ts) (b5 := b5) (b6 := b6) (b7 := b7) (b8 := b8) (b9 := b9) (b10 := .val (dueD (ledO n m ts))) (b11 := b11) (b12 := b12) (b13 := b13) (b14 := b14) (b15 := b15) (b16 := b16) (b17 := b17) (ledO n m ts)
  have T := xK3 (F := G (k + 7)) (C := C0) (env := rE P n m ts (tlS (ledO n m ts)) b5 b6 b7 b8 b9 (.val (dueD (ledO n m ts))) b11 b12 b13 b14 b15 b16 b17) (f := i_turns_for) (p0 := 2) (p1 := 1) (p2 := 0) (rv := toldR (ledO n m ts)) (xTup1P (a := .var 3) (xVar rfl)) (xVar (i := 2) rfl) (xVar (i := 1) rfl) rfl rfl rfl rfl (turns_for_ok (k := k) h seqT)
  have ok := two_ok (due_small h) (by omega) (by omega)
  exact xStrNe (xRpr2 o1 T o2 (rd_told _ _) ok) (xRpr2 (xVar rfl) (xVar rfl) rfl rfl ok)
/-! ### how many -/
noncomputable def cntT (n m : Nat) (ts : List Tie) : Int := if (ledO n m ts).isSome = true then (((TT n).length ^ (pcsT m ts).length : Nat) : Int) else 0
theorem pcs_m : (pcsT m ts).length ≤ m := by
  unfold pcsT
  rw [List.length_map]
  refine Nat.le_trans (List.length_filter_le _ _) ?_
  rw [iot_len]; exact Nat.le_refl _
theorem cnt_small (h : okTs n m ts) (h6 : m ≤ 6) : 0 ≤ cntT n m ts ∧ cntT n m ts ≤ 999999999999 := by
  have l : (TT n).length ≤ 48 := by rcases TT_len h.n1 h.n3 with e | e | e <;> omega
  have b : (TT n).length ^ (pcsT m ts).length ≤ 12230590464 := by
    calc (TT n).length ^ (pcsT m ts).length ≤ 48 ^ (pcsT m ts).length := Nat.pow_le_pow_left l _
      _ ≤ 48 ^ 6 := Nat.pow_le_pow_right (by decide) (Nat.le_trans pcs_m h6)
      _ = 12230590464 := by decide
  unfold cntT
  split <;> omega
theorem r_count (h : okTs n m ts) : ∃ b11', evSs (G (k + 7)) C0 (.cons (.asg (.nm 5) (.cst (.int 0))) (.cons (.ite (.cmp .notN (.var 10) (.cst .none)) (.cons (.asg (.nm 5) (.cst (.int 1))) (.cons (s__law_right_11) (.nil))) (.nil)) .nil)) (rE P n m ts b4 b5 b6 b7 b8 b9 (.val (dueD (ledO n m ts))) b11 b12 b13 b14 b15 b16 b17) =
    some (.nx (rE P n m ts b4 (.val (.int (cntT n m ts))) b6 b7 b8 b9 (.val (dueD (ledO n m ts))) b11' b12 b13 b14 b15 b16 b17)) := by
  have m8 := h.m8
  have c1 : evE (G (k + 7)) C0 (.cmp .notN (.var 10) (.cst .none)) (rE P n m ts b4 (.val (.int 0)) b6 b7 b8 b9 (.val (dueD (ledO n m ts))) b11 b12 b13 b14 b15 b16 b17) = some (.pu (.bool (ledO n m ts).isSome), rE P n m ts b4 (.val (.int 0)) b6 b7 b8 b9 (.val (dueD (ledO n m ts))) b11 b12 b13 b14 b15 b16 b17) := xCmp (xVar rfl) xCst (by
    show some (!isNon (dueD (ledO n m ts))) = _
    cases ledO n m ts <;> rfl)
  unfold cntT
  rw [ssC (e1 := rE P n m ts b4 (.val (.int 0)) b6 b7 b8 b9 (.val (dueD (ledO n m ts))) b11 b12 b13 b14 b15 b16 b17) (sAsg (x := .int 0) xCst rfl rfl)]
  by_cases q : (ledO n m ts).isSome = true
  · rw [q] at c1
    obtain ⟨e2, f1, b11', rfl⟩ := foI (F := G (k + 7)) (C := C0) (t := .nm 11) (it := .it (.call i__law_pieces (.cons (.var 2) (.cons (.var 3) (.nil))))) (b := l__law_right_10) (env := rE P n m ts b4 (.val (.int 1)) b6 b7 b8 b9 (.val (dueD (ledO n m ts))) b11 b12 b13 b14 b15 b16 b17) (e1 := rE P n m ts b4 (.val (.int 1)) b6 b7 b8 b9 (.val (dueD (ledO n m ts))) b11 b12 b13 b14 b15 b16 b17) pD1 (pcsT m ts)
      (fun d e => ∃ b11', e = rE P n m ts b4 (.val (.int (((TT n).length ^ d.length : Nat) : Int))) b6 b7 b8 b9 (.val (dueD (ledO n m ts))) b11' b12 b13 b14 b15 b16 b17) rfl (iFr (xC2 (rv := .fr _) (xVar rfl) (xVar rfl) (law_pieces_ok (k := k + 6) h seqD))) ⟨_, rfl⟩ (fun d x r e hd ⟨b11', he⟩ => by
        subst he
        have dl : d.length ≤ 8 := by have := congrArg List.length hd; have := pcs_m (m := m) (ts := ts); simp at *; omega
        have ln := xLenF (xC1 (F := G (k + 7)) (C := C0) (rv := .fr ((TT n).map tnD)) (xVar (i := 1) (env := rE P n m ts b4 (.val (.int (((TT n).length ^ d.length : Nat) : Int))) b6 b7 b8 b9 (.val (dueD (ledO n m ts))) (.val (pD1 x)) b12 b13 b14 b15 b16 b17) rfl) (lturns_ok (k := k + 6) h.n1 h.n3))
        rw [List.length_map] at ln
        refine ⟨rE P n m ts b4 (.val (.int (((TT n).length ^ d.length : Nat) : Int))) b6 b7 b8 b9 (.val (dueD (ledO n m ts))) (.val (pD1 x)) b12 b13 b14 b15 b16 b17, rE P n m ts b4 (.val (.int (((TT n).length ^ (d ++ [x]).length : Nat) : Int))) b6 b7 b8 b9 (.val (dueD (ledO n m ts))) (.val (pD1 x)) b12 b13 b14 b15 b16 b17, rfl, .inl ?_, _, rfl⟩
        unfold l__law_right_10
        rw [ssC (sAsg (xBin (xVar rfl) ln (pow_step h.n1 h.n3 dl)) rfl rfl), ssN, List.length_append]
        rfl)
    have f1' : evS (G (k + 7)) C0 s__law_right_11 (rE P n m ts b4 (.val (.int 1)) b6 b7 b8 b9 (.val (dueD (ledO n m ts))) b11 b12 b13 b14 b15 b16 b17) = _ := f1
    refine ⟨b11', ?_⟩
    rw [if_pos q, evSs, sIfT c1, ssC (e1 := rE P n m ts b4 (.val (.int 1)) b6 b7 b8 b9 (.val (dueD (ledO n m ts))) b11 b12 b13 b14 b15 b16 b17) (sAsg (x := .int 1) xCst rfl rfl), ssC f1', ssN]
    dsimp only
    rw [ssN]
  · have qf : (ledO n m ts).isSome = false := by simpa using q
    rw [qf] at c1
    exact ⟨b11, by rw [if_neg q, ssF c1, ssN]⟩
theorem r_chk2 (h : okTs n m ts) (h6 : m ≤ 6) : evE (G (k + 7)) C0 (.cmp .ne (.rpr (.cons (.call i_many_turns (.cons (.var 1) (.cons (.var 2) (.cons (.var 3) (.nil))))) (.cons (.callk i_many_turns [2, 1, 0] (.cons (.var 3) (.cons (.var 2) (.cons (.var 1) (.nil))))) (.nil)))) (.rpr (.cons (.var 5) (.cons (.var 5) (.nil))))) (rE P n m ts b4 (.val (.int (cntT n m ts))) b6 b7 b8 b9 b10 b11 b12 b13 b14 b15 b16 b17) =
    some (.pu (.bool false), rE P n m ts b4 (.val (.int (cntT n m ts))) b6 b7 b8 b9 b10 b11 b12 b13 b14 b15 b16 b17) := by
  have M := many_turns_ok (k := k) h seqD
  obtain ⟨c0, c1⟩ := cnt_small h h6
  have ok : reprOk (.list [.int (cntT n m ts), .int (cntT n m ts)]) = true := two_ok (smK_i (by omega) c1) (by omega) (by omega)
  have A := xC3 (F := G (k + 7)) (C := C0) (env := rE P n m ts b4 (.val (.int (cntT n m ts))) b6 b7 b8 b9 b10 b11 b12 b13 b14 b15 b16 b17) (rv := .pu (.int (cntT n m ts))) (xVar (i := 1) rfl) (xVar (i := 2) rfl) (xVar (i := 3) rfl) M
  have B := xK3 (F := G (k + 7)) (C := C0) (env := rE P n m ts b4 (.val (.int (cntT n m ts))) b6 b7 b8 b9 b10 b11 b12 b13 b14 b15 b16 b17) (f := i_many_turns) (p0 := 2) (p1 := 1) (p2 := 0) (rv := .pu (.int (cntT n m ts))) (xVar (i := 3) rfl) (xVar (i := 2) rfl) (xVar (i := 1) rfl) rfl rfl rfl rfl M
  exact xStrNe (xRpr2 A B rfl rfl ok) (xRpr2 (xVar rfl) (xVar rfl) rfl rfl ok)
/-! ### by all lists -/
def lmt (n : Nat) : Int := if n = 1 then 7 else if n = 2 then 4 else 2
theorem lmt_pow (h1 : 1 ≤ n) (h3 : n ≤ 3) (hm : (m : Int) < lmt n) {i : Nat} (hi : i ≤ m) : (TT n).length ^ i ≤ 1000 := by
  rcases n13 h1 h3 with rfl | rfl | rfl
  · have : m ≤ 6 := by simp [lmt] at hm; omega
    calc (TT 1).length ^ i = 2 ^ i := by rw [TT_len1]
      _ ≤ 2 ^ 6 := Nat.pow_le_pow_right (by decide) (by omega)
      _ ≤ 1000 := by decide
  · have : m ≤ 3 := by simp [lmt] at hm; omega
    calc (TT 2).length ^ i = 8 ^ i := by rw [TT_len2]
      _ ≤ 8 ^ 3 := Nat.pow_le_pow_right (by decide) (by omega)
      _ ≤ 1000 := by decide
  · have : m ≤ 1 := by simp [lmt] at hm; omega
    calc (TT 3).length ^ i = 48 ^ i := by rw [TT_len3]
      _ ≤ 48 ^ 1 := Nat.pow_le_pow_right (by decide) (by omega)
      _ ≤ 1000 := by decide
theorem r_lists (h : okTs n m ts) (k7 : okb b7) : evSs (G (k + 7)) C0 (.cons (.ite (.cmp .lt (.var 2) (.idx (.lst (.cons (.cst (.int 7)) (.cons (.cst (.int 4)) (.cons (.cst (.int 2)) (.nil))))) (.bin .sub (.var 1) (.cst (.int 1))))) (.cons (.ite (.cmp .ne (.blt .len (.cons (e__law_right_9) (.nil))) (.var 5)) (.cons (.ret (.cst (.bool false))) (.nil)) (.nil)) (.nil)) (.nil)) .nil) (rE P n m ts b4 (.val (.int (cntT n m ts))) b6 b7 b8 b9 b10 b11 b12 b13 b14 b15 b16 b17) =
    some (.nx (rE P n m ts b4 (.val (.int (cntT n m ts))) b6 b7 b8 b9 b10 b11 b12 b13 b14 b15 b16 b17)) := by
  have x1 : evE (G (k + 7)) C0 (.idx (.lst (.cons (.cst (.int 7)) (.cons (.cst (.int 4)) (.cons (.cst (.int 2)) (.nil))))) (.bin .sub (.var 1) (.cst (.int 1)))) (rE P n m ts b4 (.val (.int (cntT n m ts))) b6 b7 b8 b9 b10 b11 b12 b13 b14 b15 b16 b17) = some (.pu (.int (lmt n)), rE P n m ts b4 (.val (.int (cntT n m ts))) b6 b7 b8 b9 b10 b11 b12 b13 b14 b15 b16 b17) := by
    have l1 : ∀ e, evE (G (k + 7)) C0 (.lst (.cons (.cst (.int 7)) (.cons (.cst (.int 4)) (.cons (.cst (.int 2)) (.nil))))) e = some (.fr [.int 7, .int 4, .int 2], e) := fun e => by
      rw [evE, evP, xCst]; dsimp only; rw [frzd]; dsimp only; rw [evP, xCst]; dsimp only; rw [frzd]; dsimp only; rw [evP, xCst]; dsimp only; rw [frzd]; dsimp only; rw [evP]; rfl
    have b1 : evE (G (k + 7)) C0 (.bin .sub (.var 1) (.cst (.int 1))) (rE P n m ts b4 (.val (.int (cntT n m ts))) b6 b7 b8 b9 b10 b11 b12 b13 b14 b15 b16 b17) = some (.pu (.int ((n : Int) - 1)), rE P n m ts b4 (.val (.int (cntT n m ts))) b6 b7 b8 b9 b10 b11 b12 b13 b14 b15 b16 b17) := xBin (xVar rfl) xCst rfl
    have v : idxV (.list [.int 7, .int 4, .int 2]) (.int ((n : Int) - 1)) = some (.int (lmt n)) := by
      rw [ixl]
      rcases n13 h.n1 h.n3 with rfl | rfl | rfl
      · exact at0
      · exact at1
      · exact at2
    rw [evE, l1]; dsimp only; rw [b1]; dsimp only; rw [rds]; dsimp only; rw [v]; rfl
  have c1 : evE (G (k + 7)) C0 (.cmp .lt (.var 2) (.idx (.lst (.cons (.cst (.int 7)) (.cons (.cst (.int 4)) (.cons (.cst (.int 2)) (.nil))))) (.bin .sub (.var 1) (.cst (.int 1))))) (rE P n m ts b4 (.val (.int (cntT n m ts))) b6 b7 b8 b9 b10 b11 b12 b13 b14 b15 b16 b17) = some (.pu (.bool (decide ((m : Int) < lmt n))), rE P n m ts b4 (.val (.int (cntT n m ts))) b6 b7 b8 b9 b10 b11 b12 b13 b14 b15 b16 b17) := xCmp (xVar rfl) x1 rfl
  by_cases q : (m : Int) < lmt n
  · rw [decide_eq_true q] at c1
    have L := law_lists_ok (k := k + 5) (m := m) h.n1 h.n3 h.m8 (fun i hi => lmt_pow h.n1 h.n3 q hi)
    have zl : (lisT (TT n) m).length ≤ 1000 := by rw [lis_count]; exact lmt_pow h.n1 h.n3 q (Nat.le_refl _)
    have c := lcT (F := G (k + 7)) (C := C0) (elt := .var 7) (tg := .nm 7) (it := .it (.call i__law_lists (.cons (.var 1) (.cons (.var 2) (.nil))))) (cd := .som (.call i__law_does_agree (.cons (.var 3) (.cons (.var 7) (.nil))))) (own := [7])
      (env := rE P n m ts b4 (.val (.int (cntT n m ts))) b6 b7 b8 b9 b10 b11 b12 b13 b14 b15 b16 b17) (e0 := rE P n m ts b4 (.val (.int (cntT n m ts))) b6 .emp b8 b9 b10 b11 b12 b13 b14 b15 b16 b17) (e2 := rE P n m ts b4 (.val (.int (cntT n m ts))) b6 b7 b8 b9 b10 b11 b12 b13 b14 b15 b16 b17) rwD (lisT (TT n) m) (agB ts) rwD
      (fun row => rE P n m ts b4 (.val (.int (cntT n m ts))) b6 (.val (rwD row)) b8 b9 b10 b11 b12 b13 b14 b15 b16 b17)
      (iPl (xC2 (rv := .pu (.list ((lisT (TT n) m).map rwD))) (xVar rfl) (xVar rfl) L)) rfl (by simp [backE, rE, okb_val k7]) (by omega) (fun x hx => rfl) (fun x hx => rfl) (fun row hrow => by
        obtain ⟨rl, rv⟩ := lis_len hrow
        exact dSom (xC2 (rv := .pu (.bool (agB ts row))) (xVar rfl) (xVar rfl) (law_agree_ok (k := k + 4) h seqD (.inl rfl) rl rv))) (fun row hrow _ => ⟨_, xVar rfl, rfl⟩)
    have ln := xLenF c
    have e : ((((lisT (TT n) m).filter (agB ts)).map rwD).length : Int) = cntT n m ts := by
      rw [List.length_map, count_ok h]
      unfold cntT
      split <;> simp
    rw [e] at ln
    have ne : cmpV .ne (.int (cntT n m ts)) (.int (cntT n m ts)) = some false := by
      show (eqD (.int (cntT n m ts)) (.int (cntT n m ts))).map not = _
      rw [eqii]; simp
    have c2 := xCmp (op := .ne) ln (xVar (i := 5) rfl) ne
    rw [evSs, sIfT c1]
    have c2' : evE (G (k + 7)) C0 (.cmp .ne (.blt .len (.cons (e__law_right_9) (.nil))) (.var 5)) (rE P n m ts b4 (.val (.int (cntT n m ts))) b6 b7 b8 b9 b10 b11 b12 b13 b14 b15 b16 b17) = some (.pu (.bool false), rE P n m ts b4 (.val (.int (cntT n m ts))) b6 b7 b8 b9 b10 b11 b12 b13 b14 b15 b16 b17) := c2
    rw [ssF c2', ssN]
    dsimp only
    rw [ssN]
  · rw [decide_eq_false q] at c1
    rw [ssF c1, ssN]
end
end K84

set_option Elab.async false
set_option linter.all false
set_option maxRecDepth 100000
set_option maxHeartbeats 4000000
namespace K84
open PySem Rf
section
variable {k n m : Nat} {ts : List Tie} {p0 p1 : Int} {b4 b5 b6 b7 b8 b9 b10 b11 b12 b13 b14 b15 b16 b17 : Sl}
def okR (n m : Nat) (rows : List (List Tn)) : Prop := rows.length ≤ 100 ∧ ∀ row ∈ rows, row.length = m ∧ ∀ t ∈ row, t ∈ TT n
/-- one row drawn -/
theorem row1 (h : okTs n m ts) (hp : Pot p0 p1) : ∃ (row : List Tn) (q0 q1 : Int), evE (G (k + 7)) C0 e__law_right_7 (rE (pot p0 p1) n m ts b4 b5 b6 b7 b8 b9 b10 b11 b12 b13 b14 b15 .emp b17) = some (.fr (row.map tnD), rE (pot q0 q1) n m ts b4 b5 b6 b7 b8 b9 b10 b11 b12 b13 b14 b15 .emp b17) ∧ Pot q0 q1 ∧ row.length = m ∧ ∀ t ∈ row, t ∈ TT n := by
  have m8 := h.m8
  have hr : rngV (.int 0) (.int (m : Int)) = some ((iot m).map .int) := by
    have := rng_iot (n := (m : Int)) (by omega) (by omega)
    simpa using this
  obtain ⟨row, q0, q1, re, rp, rl, rv⟩ := rowT (k := k + 5) (n := n) h.n1 h.n3 hp (own := [16]) (tg := .nm 16) (it := .rng (.cst (.int 0)) (.var 2)) (elt := .call i__law_pick (.cons (.var 0) (.cons (.call i__law_turns (.cons (.var 1) (.nil))) (.nil)))) (ds := (iot m).map .int)
    (E := fun a b => rE (pot a b) n m ts b4 b5 b6 b7 b8 b9 b10 b11 b12 b13 b14 b15 .emp b17) (iRng xCst (xVar rfl) hr) (fun _ _ => rfl) (by simp [iot_len]; omega) (fun _ _ => rfl) (fun d hd a b hab => by
      obtain ⟨t, u0, u1, tm, up, te⟩ := pickT (k := k + 5) h.n1 h.n3 hab (a := .var 1) (env := rE (pot a b) n m ts b4 b5 b6 b7 b8 b9 b10 b11 b12 b13 b14 b15 (.val d) b17) rfl (xVar rfl)
      exact ⟨_, t, u0, u1, rfl, tm, up, _, te, rfl⟩)
  rw [List.length_map, iot_len] at rl
  exact ⟨row, q0, q1, re, rp, rl, rv⟩
theorem r_rows (h : okTs n m ts) (hp : Pot p0 p1) : ∃ (rows : List (List Tn)) (q0 q1 : Int), evS (G (k + 7)) C0 (.own 6 (e__law_right_8)) (rE (pot p0 p1) n m ts b4 b5 .emp b7 b8 b9 b10 b11 b12 b13 .emp b15 .emp b17) = some (.nx (rE (pot q0 q1) n m ts b4 b5 (.own 0 (rows.map rwD)) b7 b8 b9 b10 b11 b12 b13 .emp b15 .emp b17)) ∧ Pot q0 q1 ∧ rows.length = 3 ∧ ∀ row ∈ rows, row.length = m ∧ ∀ t ∈ row, t ∈ TT n := by
  obtain ⟨ys, e2, c1, rows, q0, q1, rfl, rfl, c2, c3, c4⟩ := lcEI (F := G (k + 7)) (C := C0) (elt := e__law_right_7) (tg := .nm 14) (it := .rng (.cst (.int 0)) (.cst (.int 3))) (cd := .non) (own := [14]) (env := rE (pot p0 p1) n m ts b4 b5 .emp b7 b8 b9 b10 b11 b12 b13 .emp b15 .emp b17) (e1 := rE (pot p0 p1) n m ts b4 b5 .emp b7 b8 b9 b10 b11 b12 b13 .emp b15 .emp b17) (ds := (iot 3).map .int)
    (fun rest xs e => ∃ (rows : List (List Tn)) (q0 q1 : Int), xs = rows.map rwD ∧ e = rE (pot q0 q1) n m ts b4 b5 .emp b7 b8 b9 b10 b11 b12 b13 .emp b15 .emp b17 ∧ Pot q0 q1 ∧ rows.length + rest.length = 3 ∧ ∀ row ∈ rows, row.length = m ∧ ∀ t ∈ row, t ∈ TT n)
    (iRng xCst xCst (rng_iot (by decide) (by decide))) ⟨[], p0, p1, rfl, rfl, hp, by simp [iot_len], by simp⟩ (fun d rest xs e ⟨rows, q0, q1, hx, he, hq, hl, hr⟩ => by
      subst hx; subst he
      obtain ⟨row, r0, r1, re, rp, rl, rv⟩ := row1 (k := k) h hq (b4 := b4) (b5 := b5) (b6 := .emp) (b7 := b7) (b8 := b8) (b9 := b9) (b10 := b10) (b11 := b11) (b12 := b12) (b13 := b13) (b14 := .val d) (b15 := b15) (b17 := b17)
      refine ⟨rE (pot q0 q1) n m ts b4 b5 .emp b7 b8 b9 b10 b11 b12 b13 (.val d) b15 .emp b17, true, _, rfl, by rw [evD], fun z => (nomatch z), fun _ => ⟨rwD row, _, by rw [re]; rfl, rows ++ [row], r0, r1, by rw [List.map_append]; rfl, rfl, rp, by simp at hl ⊢; omega, fun u hu => ?_⟩⟩
      rcases List.mem_append.mp hu with hu | hu
      · exact hr u hu
      · simp at hu; subst hu; exact ⟨rl, rv⟩)
    (fun xs e ⟨rows, q0, q1, hx, _, _, hl, _⟩ => by subst hx; simp at hl ⊢; omega)
  refine ⟨rows, q0, q1, ?_, c2, by simpa using c3, c4⟩
  have c1' : evE (G (k + 7)) C0 e__law_right_8 (rE (pot p0 p1) n m ts b4 b5 .emp b7 b8 b9 b10 b11 b12 b13 .emp b15 .emp b17) = some (.fr (rows.map rwD), rE (pot q0 q1) n m ts b4 b5 .emp b7 b8 b9 b10 b11 b12 b13 .emp b15 .emp b17) := c1
  exact sOwn c1' rfl
/-- the due one, turned within a piece -/
theorem row2 (h : okTs n m ts) {fs : List Tn} {p : List Int} {u : Tn} (hl : fs.length = m) (hv : ∀ t ∈ fs, t ∈ TT n) (hu : u ∈ TT n) (k14 : okb b14) (k17 : okb b17) {P : Sl} :
    ∃ row : List Tn, evE (G (k + 7)) C0 e__law_right_4 (rE P n m ts b4 b5 b6 b7 b8 b9 (.val (.list (fs.map tnD))) (.val (pD1 p)) b12 b13 b14 (.val (tnD u)) b16 b17) = some (.fr (row.map tnD), rE P n m ts b4 b5 b6 b7 b8 b9 (.val (.list (fs.map tnD))) (.val (pD1 p)) b12 b13 b14 (.val (tnD u)) b16 b17) ∧ row.length = m ∧ ∀ t ∈ row, t ∈ TT n := by
  have m8 := h.m8
  have c := lcA (F := G (k + 7)) (C := C0) (elt := .ite (.cmp .mem (.var 17) (.var 11)) (.call i__law_behind (.cons (.var 15) (.cons (.var 14) (.nil)))) (.var 14)) (tg := .tp (.cons (.nm 17) (.cons (.nm 14) (.nil)))) (it := .enu (.var 10)) (own := [17, 14])
    (env := rE P n m ts b4 b5 b6 b7 b8 b9 (.val (.list (fs.map tnD))) (.val (pD1 p)) b12 b13 b14 (.val (tnD u)) b16 b17) (e0 := rE P n m ts b4 b5 b6 b7 b8 b9 (.val (.list (fs.map tnD))) (.val (pD1 p)) b12 b13 .emp (.val (tnD u)) b16 .emp) (e2 := rE P n m ts b4 b5 b6 b7 b8 b9 (.val (.list (fs.map tnD))) (.val (pD1 p)) b12 b13 b14 (.val (tnD u)) b16 b17)
    (fun q : Tn × Nat => .tuple [.int q.2, tnD q.1]) fs.zipIdx (fun q => tnD (if (q.2 : Int) ∈ p then mulT u q.1 else q.1)) (fun q => rE P n m ts b4 b5 b6 b7 b8 b9 (.val (.list (fs.map tnD))) (.val (pD1 p)) b12 b13 (.val (tnD q.1)) (.val (tnD u)) b16 (.val (.int q.2)))
    (by
      have q := xEnu (F := G (k + 7)) (C := C0) (xVar (i := 10) (env := rE P n m ts b4 b5 b6 b7 b8 b9 (.val (.list (fs.map tnD))) (.val (pD1 p)) b12 b13 b14 (.val (tnD u)) b16 b17) rfl) rfl rfl
      rw [enu_map tnD fs 0] at q
      exact q) rfl (by simp [backE, rE, okb_val k14, okb_val k17]) (by simp; omega) (fun q hq => rfl) (fun q hq => rfl) (fun q hq => by
      have qm := hv _ (List.fst_mem_of_mem_zipIdx hq)
      have cc : evE (G (k + 7)) C0 (.cmp .mem (.var 17) (.var 11)) (rE P n m ts b4 b5 b6 b7 b8 b9 (.val (.list (fs.map tnD))) (.val (pD1 p)) b12 b13 (.val (tnD q.1)) (.val (tnD u)) b16 (.val (.int q.2))) = some (.pu (.bool (decide ((q.2 : Int) ∈ p))), rE P n m ts b4 b5 b6 b7 b8 b9 (.val (.list (fs.map tnD))) (.val (pD1 p)) b12 b13 (.val (tnD q.1)) (.val (tnD u)) b16 (.val (.int q.2))) := xCmp (xVar rfl) (xVar rfl) (mem_li _ p)
      by_cases z : (q.2 : Int) ∈ p
      · rw [decide_eq_true z] at cc
        rw [if_pos z]
        exact ⟨_, xIteT cc (xC2 (rv := .pu (tnD (mulT u q.1))) (xVar rfl) (xVar rfl) (lbehind_ok (k := k + 5) h.n1 h.n3 hu qm)), rfl⟩
      · rw [decide_eq_false z] at cc
        rw [if_neg z]
        exact ⟨_, xIteF cc (xVar rfl), rfl⟩)
  refine ⟨fs.zipIdx.map fun q => if (q.2 : Int) ∈ p then mulT u q.1 else q.1, ?_, by simp [hl], fun t ht => ?_⟩
  · rw [List.map_map]; exact c
  · obtain ⟨q, hq, rfl⟩ := List.mem_map.mp ht
    have qm := hv _ (List.fst_mem_of_mem_zipIdx hq)
    split
    · exact TT_mul h.n1 h.n3 hu qm
    · exact qm
theorem r_more (h : okTs n m ts) (hp : Pot p0 p1) {rows : List (List Tn)} (hr3 : rows.length = 3) (hr : ∀ row ∈ rows, row.length = m ∧ ∀ t ∈ row, t ∈ TT n) (k14 : okb b14) (k17 : okb b17) :
    ∃ (rows' : List (List Tn)) (q0 q1 : Int) (b11' b15' : Sl), evSs (G (k + 7)) C0 (.cons (.ite (.cmp .notN (.var 10) (.cst .none)) (.cons (.ex (.mth .append 6 (.cons (.var 10) (.nil)))) (.cons (s__law_right_6) (.nil))) (.nil)) .nil) (rE (pot p0 p1) n m ts b4 b5 (.own 0 (rows.map rwD)) b7 b8 b9 (.val (dueD (ledO n m ts))) b11 b12 b13 b14 b15 b16 b17) =
      some (.nx (rE (pot q0 q1) n m ts b4 b5 (.own 0 (rows'.map rwD)) b7 b8 b9 (.val (dueD (ledO n m ts))) b11' b12 b13 b14 b15' b16 b17)) ∧ Pot q0 q1 ∧ okR n m rows' := by
  have m8 := h.m8
  have c1 : evE (G (k + 7)) C0 (.cmp .notN (.var 10) (.cst .none)) (rE (pot p0 p1) n m ts b4 b5 (.own 0 (rows.map rwD)) b7 b8 b9 (.val (dueD (ledO n m ts))) b11 b12 b13 b14 b15 b16 b17) = some (.pu (.bool (ledO n m ts).isSome), rE (pot p0 p1) n m ts b4 b5 (.own 0 (rows.map rwD)) b7 b8 b9 (.val (dueD (ledO n m ts))) b11 b12 b13 b14 b15 b16 b17) := xCmp (xVar rfl) xCst (by
    show some (!isNon (dueD (ledO n m ts))) = _
    cases ledO n m ts <;> rfl)
  cases hO : ledO n m ts with
  | none =>
    rw [hO] at c1
    exact ⟨rows, p0, p1, b11, b15, by rw [ssF c1, ssN], hp, by omega, hr⟩
  | some fs =>
    rw [hO] at c1
    obtain ⟨fl, fv, _⟩ := ledO_mem h hO
    have ap := xApp (F := G (k + 7)) (C := C0) (i := 6) (t := 0) (xs := rows.map rwD) (env := rE (pot p0 p1) n m ts b4 b5 (.own 0 (rows.map rwD)) b7 b8 b9 (.val (dueD (some fs))) b11 b12 b13 b14 b15 b16 b17) (a := .var 10) rfl (xVar rfl) rfl rfl (by simp; omega)
    have ae : rows.map rwD ++ [dueD (some fs)] = (rows ++ [fs]).map rwD := by rw [List.map_append]; rfl
    rw [ae] at ap
    -- the pieces, two at most
    have pI : evI (G (k + 7)) C0 (.it (.slc (.call i__law_pieces (.cons (.var 2) (.cons (.var 3) (.nil)))) (.non) (.som (.cst (.int 2))))) (rE (pot p0 p1) n m ts b4 b5 (.own 0 ((rows ++ [fs]).map rwD)) b7 b8 b9 (.val (dueD (some fs))) b11 b12 b13 b14 b15 b16 b17) = some (((pcsT m ts).take 2).map pD1, rE (pot p0 p1) n m ts b4 b5 (.own 0 ((rows ++ [fs]).map rwD)) b7 b8 b9 (.val (dueD (some fs))) b11 b12 b13 b14 b15 b16 b17) := by
      have x := xC2 (F := G (k + 7)) (C := C0) (env := rE (pot p0 p1) n m ts b4 b5 (.own 0 ((rows ++ [fs]).map rwD)) b7 b8 b9 (.val (dueD (some fs))) b11 b12 b13 b14 b15 b16 b17) (rv := .fr ((pcsT m ts).map pD1)) (xVar (i := 2) rfl) (xVar (i := 3) rfl) (law_pieces_ok (k := k + 6) h seqD)
      generalize (IE.call i__law_pieces (.cons (.var 2) (.cons (.var 3) (.nil)))) = ie at x ⊢
      have s : evE (G (k + 7)) C0 (.slc ie (.non) (.som (.cst (.int 2)))) (rE (pot p0 p1) n m ts b4 b5 (.own 0 ((rows ++ [fs]).map rwD)) b7 b8 b9 (.val (dueD (some fs))) b11 b12 b13 b14 b15 b16 b17) = some (.fr (((pcsT m ts).take 2).map pD1), rE (pot p0 p1) n m ts b4 b5 (.own 0 ((rows ++ [fs]).map rwD)) b7 b8 b9 (.val (dueD (some fs))) b11 b12 b13 b14 b15 b16 b17) := by
        rw [evE, x]; dsimp only [rvO]; rw [oNon]; dsimp only; rw [oCst]; dsimp only; rw [rds]; dsimp only
        show Option.map _ (some (Opd.fr (cutL ((pcsT m ts).map pD1) none (some ((2 : Nat) : Int))))) = _
        have cu : cutL ((pcsT m ts).map pD1) none (some ((2 : Nat) : Int)) = ((pcsT m ts).take 2).map pD1 := by
          unfold cutL
          rw [HT.sIx_none, HT.sIx_nat, List.drop_zero, Nat.sub_zero, List.map_take]
          by_cases z : 2 ≤ ((pcsT m ts).map pD1).length
          · rw [Nat.min_eq_left z]
          · rw [Nat.min_eq_right (by omega), List.take_of_length_le (Nat.le_refl _), List.take_of_length_le (by omega)]
        rw [cu]; rfl
      exact iFr s
    obtain ⟨e2, f1, rows', q0, q1, b11', b15', rfl, f2, f3, f4⟩ := foI (F := G (k + 7)) (C := C0) (t := .nm 11) (b := l__law_right_5) (env := rE (pot p0 p1) n m ts b4 b5 (.own 0 ((rows ++ [fs]).map rwD)) b7 b8 b9 (.val (dueD (some fs))) b11 b12 b13 b14 b15 b16 b17) pD1 ((pcsT m ts).take 2)
      (fun d e => ∃ (rows' : List (List Tn)) (q0 q1 : Int) (b11' b15' : Sl), e = rE (pot q0 q1) n m ts b4 b5 (.own 0 (rows'.map rwD)) b7 b8 b9 (.val (dueD (some fs))) b11' b12 b13 b14 b15' b16 b17 ∧ Pot q0 q1 ∧ rows'.length = 4 + d.length ∧ ∀ row ∈ rows', row.length = m ∧ ∀ t ∈ row, t ∈ TT n) rfl pI
      ⟨rows ++ [fs], p0, p1, b11, b15, rfl, hp, by simp [hr3], fun row hrow => by
        rcases List.mem_append.mp hrow with z | z
        · exact hr row z
        · simp at z; subst z; exact ⟨fl, fv⟩⟩ (fun d p r e hd ⟨rows1, q0, q1, b11', b15', he, hq, hl, hr1⟩ => by
        subst he
        have dl : d.length ≤ 2 := by have := congrArg List.length hd; simp at this; omega
        obtain ⟨u, u0, u1, um, up, ue⟩ := pickT (k := k + 5) h.n1 h.n3 hq (a := .var 1) (env := rE (pot q0 q1) n m ts b4 b5 (.own 0 (rows1.map rwD)) b7 b8 b9 (.val (dueD (some fs))) (.val (pD1 p)) b12 b13 b14 b15' b16 b17) rfl (xVar rfl)
        have s1 : evS (G (k + 7)) C0 (.asg (.nm 15) (.call i__law_pick (.cons (.var 0) (.cons (.call i__law_turns (.cons (.var 1) (.nil))) (.nil))))) (rE (pot q0 q1) n m ts b4 b5 (.own 0 (rows1.map rwD)) b7 b8 b9 (.val (dueD (some fs))) (.val (pD1 p)) b12 b13 b14 b15' b16 b17) = some (.nx (rE (pot u0 u1) n m ts b4 b5 (.own 0 (rows1.map rwD)) b7 b8 b9 (.val (dueD (some fs))) (.val (pD1 p)) b12 b13 b14 (.val (tnD u)) b16 b17)) := sAsg ue rfl rfl
        obtain ⟨row, re, rl, rv⟩ := row2 (k := k) h (p := p) fl fv um k14 k17 (P := pot u0 u1) (b4 := b4) (b5 := b5) (b6 := .own 0 (rows1.map rwD)) (b7 := b7) (b8 := b8) (b9 := b9) (b12 := b12) (b13 := b13) (b16 := b16)
        have ap := xApp (F := G (k + 7)) (C := C0) (i := 6) (t := 0) (xs := rows1.map rwD) (env := rE (pot u0 u1) n m ts b4 b5 (.own 0 (rows1.map rwD)) b7 b8 b9 (.val (dueD (some fs))) (.val (pD1 p)) b12 b13 b14 (.val (tnD u)) b16 b17) rfl re rfl rfl (by simp; omega)
        have ae : rows1.map rwD ++ [.list (row.map tnD)] = (rows1 ++ [row]).map rwD := by rw [List.map_append]; rfl
        rw [ae] at ap
        refine ⟨rE (pot q0 q1) n m ts b4 b5 (.own 0 (rows1.map rwD)) b7 b8 b9 (.val (dueD (some fs))) (.val (pD1 p)) b12 b13 b14 b15' b16 b17, rE (pot u0 u1) n m ts b4 b5 (.own 0 ((rows1 ++ [row]).map rwD)) b7 b8 b9 (.val (dueD (some fs))) (.val (pD1 p)) b12 b13 b14 (.val (tnD u)) b16 b17, rfl, .inl ?_, rows1 ++ [row], u0, u1, _, _, rfl, up, by simp [hl]; omega, fun r' hr' => ?_⟩
        · unfold l__law_right_5
          rw [ssC s1, ssC (sEx ap), ssN]
          rfl
        · rcases List.mem_append.mp hr' with z | z
          · exact hr1 r' z
          · simp at z; subst z; exact ⟨rl, rv⟩)
    have f1' : evS (G (k + 7)) C0 s__law_right_6 (rE (pot p0 p1) n m ts b4 b5 (.own 0 ((rows ++ [fs]).map rwD)) b7 b8 b9 (.val (dueD (some fs))) b11 b12 b13 b14 b15 b16 b17) = _ := f1
    have tl : ((pcsT m ts).take 2).length ≤ 2 := by simp; omega
    refine ⟨rows', q0, q1, b11', b15', ?_, f2, by omega, f4⟩
    rw [evSs, sIfT c1]
    have ap' : evS (G (k + 7)) C0 (.ex (.mth .append 6 (.cons (.var 10) (.nil)))) (rE (pot p0 p1) n m ts b4 b5 (.own 0 (rows.map rwD)) b7 b8 b9 (.val (dueD (some fs))) b11 b12 b13 b14 b15 b16 b17) = some (.nx (rE (pot p0 p1) n m ts b4 b5 (.own 0 ((rows ++ [fs]).map rwD)) b7 b8 b9 (.val (dueD (some fs))) b11 b12 b13 b14 b15 b16 b17)) := sEx ap
    rw [ssC ap', ssC f1', ssN]
    dsimp only
    rw [ssN]
/-! ### each row judged alike -/
theorem r_judged (h : okTs n m ts) {rows : List (List Tn)} (hR : okR n m rows) {P : Sl} :
    ∃ b7' b12' b13', evS (G (k + 7)) C0 s__law_right_3 (rE P n m ts b4 b5 (.own 0 (rows.map rwD)) b7 b8 b9 b10 b11 b12 b13 b14 b15 b16 b17) = some (.nx (rE P n m ts b4 b5 (.val (.list (rows.map rwD))) b7' b8 b9 b10 b11 b12' b13' b14 b15 b16 b17)) := by
  have fz : evE (G (k + 7)) C0 (.frz 6) (rE P n m ts b4 b5 (.own 0 (rows.map rwD)) b7 b8 b9 b10 b11 b12 b13 b14 b15 b16 b17) = some (.pu (.list (rows.map rwD)), rE P n m ts b4 b5 (.val (.list (rows.map rwD))) b7 b8 b9 b10 b11 b12 b13 b14 b15 b16 b17) := by rw [evE]; rfl
  obtain ⟨e2, f1, b7', b12', b13', rfl⟩ := foI (F := G (k + 7)) (C := C0) (t := .nm 7) (it := .it (.frz 6)) (b := l__law_right_2) (env := rE P n m ts b4 b5 (.own 0 (rows.map rwD)) b7 b8 b9 b10 b11 b12 b13 b14 b15 b16 b17) (e1 := rE P n m ts b4 b5 (.val (.list (rows.map rwD))) b7 b8 b9 b10 b11 b12 b13 b14 b15 b16 b17) rwD rows
    (fun d e => ∃ b7' b12' b13', e = rE P n m ts b4 b5 (.val (.list (rows.map rwD))) b7' b8 b9 b10 b11 b12' b13' b14 b15 b16 b17) rfl (iPl fz) ⟨_, _, _, rfl⟩ (fun d row r e hd ⟨b7', b12', b13', he⟩ => by
      subst he
      obtain ⟨rl, rv⟩ := hR.2 row (by rw [hd]; simp)
      have s1 : evS (G (k + 7)) C0 (.asg (.nm 12) (.call i__law_does_agree (.cons (.var 3) (.cons (.var 7) (.nil))))) (rE P n m ts b4 b5 (.val (.list (rows.map rwD))) (.val (rwD row)) b8 b9 b10 b11 b12' b13' b14 b15 b16 b17) = some (.nx (rE P n m ts b4 b5 (.val (.list (rows.map rwD))) (.val (rwD row)) b8 b9 b10 b11 (.val (.bool (agB ts row))) b13' b14 b15 b16 b17)) :=
        sAsg (xC2 (rv := .pu (.bool (agB ts row))) (xVar rfl) (xVar rfl) (law_agree_ok (k := k + 4) h seqD (.inl rfl) rl rv)) rfl rfl
      have K := xK4 (F := G (k + 7)) (C := C0) (env := rE P n m ts b4 b5 (.val (.list (rows.map rwD))) (.val (rwD row)) b8 b9 b10 b11 (.val (.bool (agB ts row))) b13' b14 b15 b16 b17) (f := i_do_agree) (p0 := 3) (p1 := 2) (p2 := 1) (p3 := 0) (rv := .pu (.bool (agB ts row))) (xTup1P (a := .var 7) (xVar rfl)) (xVar (i := 3) rfl) (xVar (i := 2) rfl) (xVar (i := 1) rfl) rfl rfl rfl rfl rfl (do_agree_ok (k := k) h seqD (.inr rfl) rl rv)
      have s2 := sAsg (i := 13) K rfl rfl
      have D4 := xC4 (F := G (k + 7)) (C := C0) (env := rE P n m ts b4 b5 (.val (.list (rows.map rwD))) (.val (rwD row)) b8 b9 b10 b11 (.val (.bool (agB ts row))) (.val (.bool (agB ts row))) b14 b15 b16 b17) (rv := .pu (.bool (agB ts row))) (xVar (i := 1) rfl) (xVar (i := 2) rfl) (xVar (i := 3) rfl) (xVar (i := 7) rfl) (do_agree_ok (k := k) h seqD (.inl rfl) rl rv)
      have ok : reprOk (.list [.bool (agB ts row), .bool (agB ts row)]) = true := two_ok (smK_b _) (by omega) (by omega)
      have c := xStrNe (xRpr2 D4 (xVar (i := 13) rfl) rfl rfl ok) (xRpr2 (xVar (i := 12) rfl) (xVar (i := 12) rfl) rfl rfl ok)
      refine ⟨rE P n m ts b4 b5 (.val (.list (rows.map rwD))) (.val (rwD row)) b8 b9 b10 b11 b12' b13' b14 b15 b16 b17, rE P n m ts b4 b5 (.val (.list (rows.map rwD))) (.val (rwD row)) b8 b9 b10 b11 (.val (.bool (agB ts row))) (.val (.bool (agB ts row))) b14 b15 b16 b17, rfl, .inl ?_, _, _, _, rfl⟩
      unfold l__law_right_2
      rw [ssC s1, ssC s2]
      exact (ssF c).trans ssN)
  exact ⟨b7', b12', b13', f1⟩
/-! ### suspects -/
theorem r_sus (h : okTs n m ts) (k17 : okb b17) {P : Sl} : evSs (G (k + 7)) C0 (.cons (.asg (.nm 8) (.lst (.nil))) (.cons (.ite (.cmp .isN (.var 10) (.cst .none)) (.cons (.asg (.nm 8) (e__law_right_1)) (.nil)) (.nil)) .nil)) (rE P n m ts b4 b5 b6 b7 b8 b9 (.val (dueD (ledO n m ts))) b11 b12 b13 b14 b15 b16 b17) =
    some (.nx (rE P n m ts b4 b5 b6 b7 (.val (.list ((susT n m ts).map .int))) b9 (.val (dueD (ledO n m ts))) b11 b12 b13 b14 b15 b16 b17)) := by
  have lz := h.ln
  have c1 : ∀ b8, evE (G (k + 7)) C0 (.cmp .isN (.var 10) (.cst .none)) (rE P n m ts b4 b5 b6 b7 b8 b9 (.val (dueD (ledO n m ts))) b11 b12 b13 b14 b15 b16 b17) = some (.pu (.bool (!(ledO n m ts).isSome)), rE P n m ts b4 b5 b6 b7 b8 b9 (.val (dueD (ledO n m ts))) b11 b12 b13 b14 b15 b16 b17) := fun b8 => xCmp (xVar rfl) xCst (by
    show some (isNon (dueD (ledO n m ts))) = _
    cases ledO n m ts <;> rfl)
  rw [ssC (e1 := rE P n m ts b4 b5 b6 b7 (.val (.list [])) b9 (.val (dueD (ledO n m ts))) b11 b12 b13 b14 b15 b16 b17) (sAsg xNil rfl rfl)]
  have c := c1 (.val (.list []))
  by_cases q : (ledO n m ts).isSome = true
  · rw [q] at c
    have e : susT n m ts = [] := by unfold susT; rw [if_pos q]
    rw [e, ssF c, ssN]
    rfl
  · have qf : (ledO n m ts).isSome = false := by simpa using q
    rw [qf] at c
    have e : susT n m ts = (iot ts.length).filter fun a => (ledO n m (ts.eraseIdx a.toNat)).isSome := by unfold susT; rw [if_neg q]
    rw [e]
    have hr : rngV (.int 0) (.int ((ts.map tieD).length : Int)) = some ((iot ts.length).map .int) := by
      have := rng_iot (n := (ts.length : Int)) (by omega) (by omega)
      rw [List.length_map]
      simpa using this
    have l := lcT (F := G (k + 7)) (C := C0) (elt := .var 17) (tg := .nm 17) (it := .rng (.cst (.int 0)) (.blt .len (.cons (.var 3) (.nil)))) (cd := .som (.cmp .notN (.call i__law_led (.cons (.var 1) (.cons (.var 2) (.cons (.bin .add (.slc (.var 3) (.non) (.som (.var 17))) (.slc (.var 3) (.som (.bin .add (.var 17) (.cst (.int 1)))) (.non))) (.nil))))) (.cst .none))) (own := [17])
      (env := rE P n m ts b4 b5 b6 b7 (.val (.list [])) b9 (.val (dueD (ledO n m ts))) b11 b12 b13 b14 b15 b16 b17) (e0 := rE P n m ts b4 b5 b6 b7 (.val (.list [])) b9 (.val (dueD (ledO n m ts))) b11 b12 b13 b14 b15 b16 .emp) (e2 := rE P n m ts b4 b5 b6 b7 (.val (.list [])) b9 (.val (dueD (ledO n m ts))) b11 b12 b13 b14 b15 b16 b17) PyData.int (iot ts.length) (fun a => (ledO n m (ts.eraseIdx a.toNat)).isSome) PyData.int
      (fun x => rE P n m ts b4 b5 b6 b7 (.val (.list [])) b9 (.val (dueD (ledO n m ts))) b11 b12 b13 b14 b15 b16 (.val (.int x)))
      (iRng xCst (xLenL (xs := ts.map tieD) (xVar rfl)) hr) rfl (by simp [backE, rE, okb_val k17]) (by rw [iot_len]; omega) (fun x hx => rfl) (fun x hx => rfl) (fun x hx => by
        obtain ⟨x0, x1⟩ := mem_iot.mp hx
        have xl : x.toNat < ts.length := by omega
        have L := law_led_ok (k := k + 2) (okTs_erase h x.toNat) (td := .list ((ts.eraseIdx x.toNat).map tieD)) (.inl rfl)
        have ex : ((x.toNat : Nat) : Int) = x := by omega
        have co := xCutOut (F := G (k + 7)) (C := C0) (p := 3) (q := 17) (env := rE P n m ts b4 b5 b6 b7 (.val (.list [])) b9 (.val (dueD (ledO n m ts))) b11 b12 b13 b14 b15 b16 (.val (.int x))) tieD (l := ts) (i := x.toNat) rfl (by rw [ex]; rfl) xl (by omega)
        exact dSom (xCmp (xC3f (rv := .pu _) (xVar (i := 1) rfl) (xVar (i := 2) rfl) co L) xCst (by
          show some (!isNon (dueD (ledO n m (ts.eraseIdx x.toNat)))) = _
          cases ledO n m (ts.eraseIdx x.toNat) <;> rfl))) (fun x hx _ => ⟨_, xVar rfl, rfl⟩)
    have l' : evE (G (k + 7)) C0 e__law_right_1 (rE P n m ts b4 b5 b6 b7 (.val (.list [])) b9 (.val (dueD (ledO n m ts))) b11 b12 b13 b14 b15 b16 b17) = _ := l
    rw [evSs, sIfT c, ssC (sAsg l' rfl rfl), ssN]
    dsimp only
    rw [ssN]
    rfl
theorem r_chk3 (h : okTs n m ts) {P : Sl} : evE (G (k + 7)) C0 (.cmp .ne (.rpr (.cons (.call i_suspects (.cons (.var 1) (.cons (.var 2) (.cons (.var 3) (.nil))))) (.cons (.callk i_suspects [2, 1, 0] (.cons (.blt .tuple1 (.cons (.var 3) (.nil))) (.cons (.var 2) (.cons (.var 1) (.nil))))) (.nil)))) (.rpr (.cons (.var 8) (.cons (.var 8) (.nil))))) (rE P n m ts b4 b5 b6 b7 (.val (.list ((susT n m ts).map .int))) b9 b10 b11 b12 b13 b14 b15 b16 b17) =
    some (.pu (.bool false), rE P n m ts b4 b5 b6 b7 (.val (.list ((susT n m ts).map .int))) b9 b10 b11 b12 b13 b14 b15 b16 b17) := by
  have lz := h.ln
  have sm : ∀ i ∈ susT n m ts, 0 ≤ i ∧ i < (24 : Int) := fun i hi => by
    unfold susT at hi
    split at hi
    · cases hi
    · have := mem_iot.mp (List.mem_filter.mp hi).1
      omega
  have sl : (susT n m ts).length ≤ 24 := by
    unfold susT
    split
    · simp
    · refine Nat.le_trans (List.length_filter_le _ _) ?_
      rw [iot_len]; exact lz
  have ok : reprOk (.list [.list ((susT n m ts).map .int), .list ((susT n m ts).map .int)]) = true := two_ok (smK_is (fun i hi => by have := sm i hi; omega) sl) (by omega) (by omega)
  have A := xC3 (F := G (k + 7)) (C := C0) (env := rE P n m ts b4 b5 b6 b7 (.val (.list ((susT n m ts).map .int))) b9 b10 b11 b12 b13 b14 b15 b16 b17) (rv := .fr ((susT n m ts).map .int)) (xVar (i := 1) rfl) (xVar (i := 2) rfl) (xVar (i := 3) rfl) (suspects_ok (k := k) h seqD)
  have B := xK3 (F := G (k + 7)) (C := C0) (env := rE P n m ts b4 b5 b6 b7 (.val (.list ((susT n m ts).map .int))) b9 b10 b11 b12 b13 b14 b15 b16 b17) (f := i_suspects) (p0 := 2) (p1 := 1) (p2 := 0) (rv := .fr ((susT n m ts).map .int)) (xTup1P (a := .var 3) (xVar rfl)) (xVar (i := 2) rfl) (xVar (i := 1) rfl) rfl rfl rfl rfl (suspects_ok (k := k) h seqT)
  exact xStrNe (xRpr2 A B rfl rfl ok) (xRpr2 (xVar rfl) (xVar rfl) rfl rfl ok)
end
end K84

set_option Elab.async false
set_option linter.all false
set_option maxRecDepth 100000
set_option maxHeartbeats 4000000
namespace K84
open PySem Rf
theorem ss1 {F : FT} {C : List D} {s : IS} {ss : ISs} {e e1 : Ev} (h : evSs F C (.cons s .nil) e = some (.nx e1)) : evSs F C (.cons s ss) e = evSs F C ss e1 := by
  rw [evSs] at h ⊢
  cases q : evS F C s e with
  | none => rw [q] at h; cases h
  | some fl =>
    rw [q] at h
    cases fl with
    | nx e2 =>
      dsimp only at h ⊢
      rw [evSs] at h
      cases h; rfl
    | rt o e2 => cases h
    | bk e2 => cases h
    | ct e2 => cases h
theorem ss2 {F : FT} {C : List D} {s r : IS} {ss : ISs} {e e1 : Ev} (h : evSs F C (.cons s (.cons r .nil)) e = some (.nx e1)) : evSs F C (.cons s (.cons r ss)) e = evSs F C ss e1 := by
  rw [evSs] at h ⊢
  cases q : evS F C s e with
  | none => rw [q] at h; cases h
  | some fl =>
    rw [q] at h
    cases fl with
    | nx e2 =>
      dsimp only at h ⊢
      exact ss1 h
    | rt o e2 => cases h
    | bk e2 => cases h
    | ct e2 => cases h
section
variable {k n m : Nat} {ts : List Tie} {p0 p1 : Int} {b5 b6 b7 b8 b9 b10 b11 b12 b13 b14 b15 b16 b17 : Sl}
theorem r_bent {P : Sl} (F : FT) (o : Option (List Tn)) (hz : ∀ fs, o = some fs → fs.length ≤ 8) : ∃ b4', evSs F C0 (.cons (.ite (.cmp .notN (.var 4) (.cst .none)) (.cons (.ex (.mth .append 4 (.cons (.cst .none) (.nil)))) (.nil)) (.nil)) .nil) (rE P n m ts (tlS o) b5 b6 b7 b8 b9 b10 b11 b12 b13 b14 b15 b16 b17) = some (.nx (rE P n m ts b4' b5 b6 b7 b8 b9 b10 b11 b12 b13 b14 b15 b16 b17)) := by
  cases o with
  | none =>
    have c : evE F C0 (.cmp .notN (.var 4) (.cst .none)) (rE P n m ts (tlS none) b5 b6 b7 b8 b9 b10 b11 b12 b13 b14 b15 b16 b17) = some (.pu (.bool false), rE P n m ts (tlS none) b5 b6 b7 b8 b9 b10 b11 b12 b13 b14 b15 b16 b17) := xCmp (xVar rfl) xCst rfl
    exact ⟨_, by rw [ssF c, ssN]⟩
  | some fs =>
    have l := hz fs rfl
    have c : evE F C0 (.cmp .notN (.var 4) (.cst .none)) (rE P n m ts (tlS (some fs)) b5 b6 b7 b8 b9 b10 b11 b12 b13 b14 b15 b16 b17) = some (.pu (.bool true), rE P n m ts (tlS (some fs)) b5 b6 b7 b8 b9 b10 b11 b12 b13 b14 b15 b16 b17) := xCmpR (xOwn (t := 0) (xs := fs.map tnD) rfl) xCst rfl rfl rfl
    have ap := xApp (F := F) (C := C0) (i := 4) (t := 0) (xs := fs.map tnD) (env := rE P n m ts (tlS (some fs)) b5 b6 b7 b8 b9 b10 b11 b12 b13 b14 b15 b16 b17) (a := .cst .none) rfl xCst rfl rfl (by simp; omega)
    refine ⟨.own 0 (fs.map tnD ++ [.none]), ?_⟩
    rw [evSs, sIfT c, ssC (sEx ap), ssN]
    dsimp only
    rw [ssN]
    rfl
theorem r_end (h : okTs n m ts) {P b4 : Sl} : evE (G (k + 7)) C0 (.and2 (.cmp .eq (.blt .repr1 (.cons (.call i_turns_for (.cons (.var 1) (.cons (.var 2) (.cons (.var 3) (.nil))))) (.nil))) (.blt .repr1 (.cons (.var 10) (.nil)))) (.cmp .eq (.blt .repr1 (.cons (.var 3) (.nil))) (.var 9))) (rE P n m ts b4 b5 b6 b7 b8 (.val (.str (tsD ts).shown)) (.val (dueD (ledO n m ts))) b11 b12 b13 b14 b15 b16 b17) =
    some (.pu (.bool true), rE P n m ts b4 b5 b6 b7 b8 (.val (.str (tsD ts).shown)) (.val (dueD (ledO n m ts))) b11 b12 b13 b14 b15 b16 b17) := by
  have T := xC3 (F := G (k + 7)) (C := C0) (env := rE P n m ts b4 b5 b6 b7 b8 (.val (.str (tsD ts).shown)) (.val (dueD (ledO n m ts))) b11 b12 b13 b14 b15 b16 b17) (rv := toldR (ledO n m ts)) (xVar (i := 1) rfl) (xVar (i := 2) rfl) (xVar (i := 3) rfl) (turns_for_ok (k := k) h seqD)
  have ok := (due_small h).ok (by omega) (by omega)
  exact xAndT (xStrEq (xRepr T (rd_told _ _) ok) (xRepr (xVar rfl) rfl ok)) (xStrEq (xRepr (xVar rfl) rfl (ties_small h)) (xVar rfl))
theorem right_ok (hp : Pot p0 p1) : ∃ q0 q1, G (k + 8) i__law_right [.io [.int p0, .int p1]] = some (.pu (.bool true), [[.int q0, .int q1]]) ∧ Pot q0 q1 := by
  -- dims, many
  obtain ⟨d, a0, a1, de, dp, d0, d1⟩ := draw_ok (k := k + 6) (m := 3) hp (by decide) (by decide)
  obtain ⟨e, c0', c1', ee, ep, e0, e1⟩ := draw_ok (k := k + 6) (m := 6) dp (by decide) (by decide)
  obtain ⟨n, hn⟩ : ∃ n : Nat, 1 + d = (n : Int) := ⟨(1 + d).toNat, by omega⟩
  obtain ⟨m, hm⟩ : ∃ m : Nat, 1 + e = (m : Int) := ⟨(1 + e).toNat, by omega⟩
  have n1 : 1 ≤ n := by omega
  have n3 : n ≤ 3 := by omega
  have m1 : 1 ≤ m := by omega
  have m6 : m ≤ 6 := by omega
  obtain ⟨ts, t0, t1, te, tp, h, tl⟩ := ties_ok (k := k + 2) n1 n3 m1 (by omega : m ≤ 8) ep
  have bv1 : binV .add (.int 1) (.int d) = some (.pu (.int (n : Int))) := by rw [← hn]; rfl
  have bv2 : binV .add (.int 1) (.int e) = some (.pu (.int (m : Int))) := by rw [← hm]; rfl
  have s1 : evS (G (k + 7)) C0 (.asg (.nm 1) (.bin .add (.cst (.int 1)) (.call i__law_draw (.cons (.var 0) (.cons (.cst (.int 3)) (.nil)))))) [pot p0 p1, .emp, .emp, .emp, .emp, .emp, .emp, .emp, .emp, .emp, .emp, .emp, .emp, .emp, .emp, .emp, .emp, .emp] = some (.nx [pot a0 a1, .val (.int n), .emp, .emp, .emp, .emp, .emp, .emp, .emp, .emp, .emp, .emp, .emp, .emp, .emp, .emp, .emp, .emp]) :=
    sAsg (xBin xCst (xIo2 (t := 1) (xs := [.int p0, .int p1]) (rv := .pu (.int d)) rfl xCst rfl de) bv1) rfl rfl
  have s2 : evS (G (k + 7)) C0 (.asg (.nm 2) (.bin .add (.cst (.int 1)) (.call i__law_draw (.cons (.var 0) (.cons (.cst (.int 6)) (.nil)))))) [pot a0 a1, .val (.int n), .emp, .emp, .emp, .emp, .emp, .emp, .emp, .emp, .emp, .emp, .emp, .emp, .emp, .emp, .emp, .emp] = some (.nx [pot c0' c1', .val (.int n), .val (.int m), .emp, .emp, .emp, .emp, .emp, .emp, .emp, .emp, .emp, .emp, .emp, .emp, .emp, .emp, .emp]) :=
    sAsg (xBin xCst (xIo2 (t := 1) (xs := [.int a0, .int a1]) (rv := .pu (.int e)) rfl xCst rfl ee) bv2) rfl rfl
  have s3 : evS (G (k + 7)) C0 (.asg (.nm 3) (.call i__law_ties (.cons (.var 0) (.cons (.var 1) (.cons (.var 2) (.cons (.cst (.int 8)) (.nil))))))) [pot c0' c1', .val (.int n), .val (.int m), .emp, .emp, .emp, .emp, .emp, .emp, .emp, .emp, .emp, .emp, .emp, .emp, .emp, .emp, .emp] = some (.nx (rE (pot t0 t1) n m ts .emp .emp .emp .emp .emp .emp .emp .emp .emp .emp .emp .emp .emp .emp)) :=
    sAsg (xIo4 (t := 1) (xs := [.int c0', .int c1']) (rv := .fr (ts.map tieD)) rfl (xVar rfl) (xVar rfl) xCst te) rfl rfl
  have L := law_led_ok (k := k + 2) h seqD
  have s4 : evS (G (k + 7)) C0 (.par2 9 10 false false (.blt .repr1 (.cons (.var 3) (.nil))) (.call i__law_led (.cons (.var 1) (.cons (.var 2) (.cons (.var 3) (.nil)))))) (rE (pot t0 t1) n m ts .emp .emp .emp .emp .emp .emp .emp .emp .emp .emp .emp .emp .emp .emp) = some (.nx (rE (pot t0 t1) n m ts .emp .emp .emp .emp .emp (.val (.str (tsD ts).shown)) (.val (dueD (ledO n m ts))) .emp .emp .emp .emp .emp .emp .emp)) :=
    sPar2 (xRepr (xVar rfl) rfl (ties_small h)) rfl (xC3 (rv := .pu (dueD (ledO n m ts))) (xVar rfl) (xVar rfl) (xVar rfl) L) rfl rfl rfl
  have s5 := r_told (k := k) (P := pot t0 t1) (b4 := .emp) (b5 := .emp) (b6 := .emp) (b7 := .emp) (b8 := .emp) (b9 := .val (.str (tsD ts).shown)) (b10 := .val (dueD (ledO n m ts))) (b11 := .emp) (b12 := .emp) (b13 := .emp) (b14 := .emp) (b15 := .emp) (b16 := .emp) (b17 := .emp) h
  have s6 := r_chk1 (k := k) (P := pot t0 t1) (b5 := .emp) (b6 := .emp) (b7 := .emp) (b8 := .emp) (b9 := .val (.str (tsD ts).shown)) (b11 := .emp) (b12 := .emp) (b13 := .emp) (b14 := .emp) (b15 := .emp) (b16 := .emp) (b17 := .emp) h
  obtain ⟨b11, s7⟩ := r_count (k := k) (P := pot t0 t1) (b4 := tlS (ledO n m ts)) (b5 := .emp) (b6 := .emp) (b7 := .emp) (b8 := .emp) (b9 := .val (.str (tsD ts).shown)) (b11 := .emp) (b12 := .emp) (b13 := .emp) (b14 := .emp) (b15 := .emp) (b16 := .emp) (b17 := .emp) h
  have s9 := r_chk2 (k := k) (P := pot t0 t1) (b4 := tlS (ledO n m ts)) (b6 := .emp) (b7 := .emp) (b8 := .emp) (b9 := .val (.str (tsD ts).shown)) (b10 := .val (dueD (ledO n m ts))) (b11 := b11) (b12 := .emp) (b13 := .emp) (b14 := .emp) (b15 := .emp) (b16 := .emp) (b17 := .emp) h m6
  have s10 := r_lists (k := k) (P := pot t0 t1) (b4 := tlS (ledO n m ts)) (b6 := .emp) (b7 := .emp) (b8 := .emp) (b9 := .val (.str (tsD ts).shown)) (b10 := .val (dueD (ledO n m ts))) (b11 := b11) (b12 := .emp) (b13 := .emp) (b14 := .emp) (b15 := .emp) (b16 := .emp) (b17 := .emp) h (.inl rfl)
  obtain ⟨rows, u0, u1, s11, up, rl, rv⟩ := r_rows (k := k) h tp (b4 := tlS (ledO n m ts)) (b5 := .val (.int (cntT n m ts))) (b7 := .emp) (b8 := .emp) (b9 := .val (.str (tsD ts).shown)) (b10 := .val (dueD (ledO n m ts))) (b11 := b11) (b12 := .emp) (b13 := .emp) (b15 := .emp) (b17 := .emp)
  obtain ⟨rows', v0, v1, b11', b15', s12, vp, hR⟩ := r_more (k := k) h up rl rv (b4 := tlS (ledO n m ts)) (b5 := .val (.int (cntT n m ts))) (b7 := .emp) (b8 := .emp) (b9 := .val (.str (tsD ts).shown)) (b11 := b11) (b12 := .emp) (b13 := .emp) (b14 := .emp) (b15 := .emp) (b16 := .emp) (b17 := .emp) (.inl rfl) (.inl rfl)
  obtain ⟨b7', b12', b13', s13⟩ := r_judged (k := k) h hR (P := pot v0 v1) (b4 := tlS (ledO n m ts)) (b5 := .val (.int (cntT n m ts))) (b7 := .emp) (b8 := .emp) (b9 := .val (.str (tsD ts).shown)) (b10 := .val (dueD (ledO n m ts))) (b11 := b11') (b12 := .emp) (b13 := .emp) (b14 := .emp) (b15 := b15') (b16 := .emp) (b17 := .emp)
  have s14 := r_sus (k := k) h (P := pot v0 v1) (b4 := tlS (ledO n m ts)) (b5 := .val (.int (cntT n m ts))) (b6 := .val (.list (rows'.map rwD))) (b7 := b7') (b8 := .emp) (b9 := .val (.str (tsD ts).shown)) (b11 := b11') (b12 := b12') (b13 := b13') (b14 := .emp) (b15 := b15') (b16 := .emp) (b17 := .emp) (.inl rfl)
  have s16 := r_chk3 (k := k) h (P := pot v0 v1) (b4 := tlS (ledO n m ts)) (b5 := .val (.int (cntT n m ts))) (b6 := .val (.list (rows'.map rwD))) (b7 := b7') (b9 := .val (.str (tsD ts).shown)) (b10 := .val (dueD (ledO n m ts))) (b11 := b11') (b12 := b12') (b13 := b13') (b14 := .emp) (b15 := b15') (b16 := .emp) (b17 := .emp)
  obtain ⟨b4', s17⟩ := r_bent (P := pot v0 v1) (n := n) (m := m) (ts := ts) (G (k + 7)) (ledO n m ts) (fun fs hf => by have := (ledO_mem h hf).1; omega) (b5 := .val (.int (cntT n m ts))) (b6 := .val (.list (rows'.map rwD))) (b7 := b7') (b8 := .val (.list ((susT n m ts).map .int))) (b9 := .val (.str (tsD ts).shown)) (b10 := .val (dueD (ledO n m ts))) (b11 := b11') (b12 := b12') (b13 := b13') (b14 := .emp) (b15 := b15') (b16 := .emp) (b17 := .emp)
  have s18 := r_end (k := k) h (P := pot v0 v1) (b4 := b4') (b5 := .val (.int (cntT n m ts))) (b6 := .val (.list (rows'.map rwD))) (b7 := b7') (b8 := .val (.list ((susT n m ts).map .int))) (b11 := b11') (b12 := b12') (b13 := b13') (b14 := .emp) (b15 := b15') (b16 := .emp) (b17 := .emp)
  refine ⟨v0, v1, ?_, vp⟩
  rw [one (fn := ⟨1, 18, b__law_right⟩) rfl]
  have all : evSs (G (k + 7)) C0 b__law_right [pot p0 p1, .emp, .emp, .emp, .emp, .emp, .emp, .emp, .emp, .emp, .emp, .emp, .emp, .emp, .emp, .emp, .emp, .emp] = some (.rt (.pu (.bool true)) (rE (pot v0 v1) n m ts b4' (.val (.int (cntT n m ts))) (.val (.list (rows'.map rwD))) b7' (.val (.list ((susT n m ts).map .int))) (.val (.str (tsD ts).shown)) (.val (dueD (ledO n m ts))) b11' b12' b13' .emp b15' .emp .emp)) :=
    (ssC s1).trans ((ssC s2).trans ((ssC s3).trans ((ssC s4).trans ((ssC s5).trans ((ssF s6).trans ((ss2 s7).trans ((ssF s9).trans ((ss1 s10).trans ((ssC s11).trans ((ss1 s12).trans ((ssC s13).trans ((ss2 s14).trans ((ssF s16).trans ((ss1 s17).trans (ssRet s18)))))))))))))))
  exact runE rfl rfl all rfl
end
/-! ### the pot and the law -/
theorem fin_pot (c i : Int) : Pot (if c - 1000000000000000000 > 0 then c - 1000000000000000000 else 0) ((c % 2147483549 * 40014 + 8147 * i + 61) % 2147483563 + 1) := by
  have a := Int.emod_nonneg (c % 2147483549 * 40014 + 8147 * i + 61) (b := 2147483563) (by decide)
  have b := Int.emod_lt_of_pos (c % 2147483549 * 40014 + 8147 * i + 61) (b := 2147483563) (by decide)
  refine ⟨?_, by omega, by omega⟩
  split <;> omega
theorem mm (c : Int) : mulOk (c % 2147483549) 40014 = true := by
  have a := Int.emod_nonneg c (b := 2147483549) (by decide)
  have b := Int.emod_lt_of_pos c (b := 2147483549) (by decide)
  unfold mulOk
  rw [sm a (by omega)]
  rfl
theorem pw : binV .pow (.int 10) (.int 18) = some (.pu (.int 1000000000000000000)) := by kernel_rfl
theorem bmI {a b : Int} (h : mulOk a b = true) : binV .mul (.int a) (.int b) = some (.pu (.int (a * b))) := by
  show (if mulOk a b = true then some (Opd.pu (.int (a * b))) else none) = _
  rw [if_pos h]
theorem pot_ret {F : FT} {s : Sl} {c i : Int} : evS F C0 (.ret (.lst (.cons (.blt .max2 (.cons (.cst (.int 0)) (.cons (.bin .sub (.var 2) (.bin .pow (.cst (.int 10)) (.cst (.int 18)))) (.nil)))) (.cons (.bin .add (.bin .mod (.blt .int1 (.cons (.bin .add (.bin .add (.bin .mul (.bin .mod (.blt .int1 (.cons (.var 2) (.nil))) (.cst (.int 2147483549))) (.cst (.int 40014))) (.bin .mul (.cst (.int 8147)) (.var 1))) (.cst (.int 61))) (.nil))) (.cst (.int 2147483563))) (.cst (.int 1))) (.nil))))) [s, .val (.int i), .val (.int c)] =
    some (.rt (.fr [.int (if c - 1000000000000000000 > 0 then c - 1000000000000000000 else 0), .int ((c % 2147483549 * 40014 + 8147 * i + 61) % 2147483563 + 1)]) [s, .val (.int i), .val (.int c)]) := by
  have bm : ∀ a b : Int, mulOk a b = true → binV .mul (.int a) (.int b) = some (.pu (.int (a * b))) := fun a b h => by
    show (if mulOk a b = true then _ else _) = _
    rw [if_pos h]
  have ba : ∀ a b : Int, binV .add (.int a) (.int b) = some (.pu (.int (a + b))) := fun _ _ => rfl
  have bs : ∀ a b : Int, binV .sub (.int a) (.int b) = some (.pu (.int (a - b))) := fun _ _ => rfl
  have bo : ∀ a b : Int, 0 < b → binV .mod (.int a) (.int b) = some (.pu (.int (a % b))) := fun a b h => by
    show (if decide (0 < b) = true then _ else _) = _
    rw [if_pos (decide_eq_true h)]
  have b1 := bo c 2147483549 (by decide)
  have b2 := bm _ _ (mm c)
  have b3 := bm 8147 i rfl
  have b4 := fun a => bo a 2147483563 (by decide)
  simp [evS, evE, evA, evP, rdp, rds, rdsAll, thaw, frzd, bltV, pw, b1, b2, b3, b4, ba, bs, lk2]
theorem pot_ok {k : Nat} (ns : List Int) {i : Int} (h0 : 0 ≤ i) : ∃ p0 p1, G (k + 1) i__law_pot [.sc (ns.map .int), .pu (.int i)] = some (.fr [.int p0, .int p1], []) ∧ Pot p0 p1 := by
  rw [one (fn := ⟨2, 3, b__law_pot⟩) rfl]
  generalize G k = F
  have bm : binV .mul (.int 619) (.int i) = some (.pu (.int (619 * i))) := bmI rfl
  have s1 : evS F C0 (.asg (.nm 2) (.bin .add (.bin .mul (.cst (.int 619)) (.var 1)) (.cst (.int 8147)))) [.scr 1 (ns.map .int), .val (.int i), .emp] = some (.nx [.scr 1 (ns.map .int), .val (.int i), .val (.int (619 * i + 8147))]) := sAsg (xBin (xBin xCst (xVar rfl) bm) xCst rfl) rfl rfl
  have rl : evE F C0 (.blt .len (.cons (.var 0) (.nil))) [.scr 1 (ns.map .int), .val (.int i), .val (.int (619 * i + 8147))] = some (.pu (.int (ns.length : Int)), [.scr 1 (ns.map .int), .val (.int i), .val (.int (619 * i + 8147))]) := by
    simp [evE, evA, thaw, rds, rdsAll, bltV]
  have c1 : evE F C0 (.cmp .lt (.var 1) (.blt .len (.cons (.var 0) (.nil)))) [.scr 1 (ns.map .int), .val (.int i), .val (.int (619 * i + 8147))] = some (.pu (.bool (decide (i < (ns.length : Int)))), [.scr 1 (ns.map .int), .val (.int i), .val (.int (619 * i + 8147))]) := xCmp (xVar rfl) rl rfl
  have s2 : ∃ c, evSs F C0 (.cons (.ite (.cmp .lt (.var 1) (.blt .len (.cons (.var 0) (.nil)))) (.cons (.asg (.nm 2) (.blt .abs (.cons (.idx (.var 0) (.var 1)) (.nil)))) (.nil)) (.nil)) .nil) [.scr 1 (ns.map .int), .val (.int i), .val (.int (619 * i + 8147))] = some (.nx [.scr 1 (ns.map .int), .val (.int i), .val (.int c)]) := by
    by_cases hi : i < (ns.length : Int)
    · rw [decide_eq_true hi] at c1
      have hl : i.toNat < ns.length := by omega
      have ha : idxV (.list (ns.map PyData.int)) (.int i) = some (.int ns[i.toNat]) := by
        rw [ixl]
        unfold L2.atI L2.ixN
        rw [if_pos h0, if_pos (by simpa using hi)]
        simp [hl]
      have ix : evE F C0 (.idx (.var 0) (.var 1)) [.scr 1 (ns.map .int), .val (.int i), .val (.int (619 * i + 8147))] = some (.pu (.int ns[i.toNat]), [.scr 1 (ns.map .int), .val (.int i), .val (.int (619 * i + 8147))]) := by
        have v0 : evE F C0 (.var 0) [.scr 1 (ns.map .int), .val (.int i), .val (.int (619 * i + 8147))] = some (.bo 0, [.scr 1 (ns.map .int), .val (.int i), .val (.int (619 * i + 8147))]) := by rw [evE]; rfl
        rw [evE, v0]; dsimp only; rw [xVar (x := .int i) rfl]; dsimp only
        show Option.map _ (idxV (.list (ns.map PyData.int)) (.int i)) = _
        rw [ha]; rfl
      refine ⟨if ns[i.toNat] < 0 then -ns[i.toNat] else ns[i.toNat], ?_⟩
      rw [evSs, sIfT c1, ssC (sAsg (xB1 ix rfl) rfl rfl), ssN]
      dsimp only
      rw [ssN]
      rfl
    · rw [decide_eq_false hi] at c1
      exact ⟨_, by rw [ssF c1, ssN]⟩
  obtain ⟨c, s2⟩ := s2
  refine ⟨_, _, ?_, fin_pot c i⟩
  have all : evSs F C0 b__law_pot [.scr 1 (ns.map .int), .val (.int i), .emp] = _ := (ssC s1).trans ((ss1 s2).trans (ssR pot_ret))
  exact runE rfl rfl all rfl
theorem law_ok {k : Nat} (ns : List Int) : G (k + 9) i_law [.sc (ns.map .int)] = some (.pu (.bool true), []) := by
  rw [one (fn := ⟨1, 2, b_law⟩) rfl]
  have hN : ∃ N : Nat, N ≤ 2 ∧ evE (G (k + 8)) C0 (.blt .max2 (.cons (.cst (.int 1)) (.cons (.blt .min2 (.cons (.cst (.int 2)) (.cons (.blt .len (.cons (.var 0) (.nil))) (.nil)))) (.nil)))) [.scr 1 (ns.map .int), .emp] = some (.pu (.int N), [.scr 1 (ns.map .int), .emp]) := by
    have rl : evE (G (k + 8)) C0 (.blt .len (.cons (.var 0) (.nil))) [.scr 1 (ns.map .int), .emp] = some (.pu (.int (ns.length : Int)), [.scr 1 (ns.map .int), .emp]) := by
      simp [evE, evA, thaw, rds, rdsAll, bltV]
    have m1 : bltV .min2 [.int 2, .int (ns.length : Int)] = some (.pu (.int (min 2 (ns.length : Int)))) := min_v _ _
    have m2 : ∀ x : Int, bltV .max2 [.int 1, .int x] = some (.pu (.int (if x > 1 then x else 1))) := fun _ => rfl
    refine ⟨(if min 2 (ns.length : Int) > 1 then min 2 (ns.length : Int) else 1).toNat, by split <;> omega, ?_⟩
    have q := xB2 (F := G (k + 8)) (C := C0) xCst (xB2 xCst rl m1) (m2 _)
    rw [q]
    have : ((if min 2 (ns.length : Int) > 1 then min 2 (ns.length : Int) else 1).toNat : Int) = if min 2 (ns.length : Int) > 1 then min 2 (ns.length : Int) else 1 := by split <;> omega
    rw [this]
  obtain ⟨N, hN2, hN⟩ := hN
  have hr : rngV (.int 0) (.int (N : Int)) = some ((iot N).map .int) := by
    have := rng_iot (n := (N : Int)) (by omega) (by omega)
    simpa using this
  have c := lcA (F := G (k + 8)) (C := C0) (elt := .call i__law_right (.cons (.giv (.call i__law_pot (.cons (.var 0) (.cons (.var 1) (.nil))))) (.nil))) (tg := .nm 1) (it := .rng (.cst (.int 0)) (.blt .max2 (.cons (.cst (.int 1)) (.cons (.blt .min2 (.cons (.cst (.int 2)) (.cons (.blt .len (.cons (.var 0) (.nil))) (.nil)))) (.nil))))) (own := [1])
    (env := [.scr 1 (ns.map .int), .emp]) (e0 := [.scr 1 (ns.map .int), .emp]) (e2 := [.scr 1 (ns.map .int), .emp]) PyData.int (iot N) (fun _ => .bool true) (fun i => [.scr 1 (ns.map .int), .val (.int i)])
    (iRng xCst hN hr) rfl rfl (by rw [iot_len]; omega) (fun x hx => rfl) (fun x hx => rfl) (fun x hx => by
      obtain ⟨x0, x1⟩ := mem_iot.mp hx
      obtain ⟨p0, p1, pe, pp⟩ := pot_ok (k := k + 7) ns x0
      obtain ⟨q0, q1, re, _⟩ := right_ok (k := k) pp
      generalize ns.map PyData.int = NN at pe ⊢
      have g : evE (G (k + 8)) C0 (.giv (.call i__law_pot (.cons (.var 0) (.cons (.var 1) (.nil))))) [.scr 1 NN, .val (.int x)] = some (.fo [.int p0, .int p1], [.scr 1 NN, .val (.int x)]) := by
        have v0 : evE (G (k + 8)) C0 (.var 0) [.scr 1 NN, .val (.int x)] = some (.bo 0, [.scr 1 NN, .val (.int x)]) := by rw [evE]; rfl
        have cl : evE (G (k + 8)) C0 (.call i__law_pot (.cons (.var 0) (.cons (.var 1) (.nil)))) [.scr 1 NN, .val (.int x)] = some (.fr [.int p0, .int p1], [.scr 1 NN, .val (.int x)]) := by
          rw [evE, evA, v0]; dsimp only; rw [evA, xVar (x := .int x) rfl]; dsimp only; rw [evA]; dsimp only
          show callO (G (k + 8)) i__law_pot [.bo 0, .pu (.int x)] [.scr 1 NN, .val (.int x)] = _
          unfold callO
          have a1 : arsOf [.scr 1 NN, .val (.int x)] [.bo 0, .pu (.int x)] = some [.sc NN, .pu (.int x)] := rfl
          have a2 : iosOf [.scr 1 NN, .val (.int x)] [.bo 0, .pu (.int x)] = [] := rfl
          rw [a1, a2]; dsimp only; rw [if_pos (show distinct [] = true from rfl), pe]; rfl
        rw [evE, cl]
      refine ⟨.pu (.bool true), ?_, rfl⟩
      generalize (IE.giv (.call i__law_pot (.cons (.var 0) (.cons (.var 1) (.nil))))) = ie at g ⊢
      rw [evE, evA, g]; dsimp only; rw [evA]; dsimp only
      show callO (G (k + 8)) i__law_right [.fo [.int p0, .int p1]] [.scr 1 NN, .val (.int x)] = _
      unfold callO
      have a1 : arsOf [.scr 1 NN, .val (.int x)] [.fo [.int p0, .int p1]] = some [.io [.int p0, .int p1]] := rfl
      have a2 : iosOf [.scr 1 NN, .val (.int x)] [.fo [.int p0, .int p1]] = [none] := rfl
      rw [a1, a2]; dsimp only; rw [if_pos (by simp [distinct]), re]; rfl)
  have c' : evE (G (k + 8)) C0 e_law_1 [.scr 1 (ns.map .int), .emp] = some (.fr ((iot N).map fun _ => .bool true), [.scr 1 (ns.map .int), .emp]) := c
  have a := tAll (g := fun _ => true) c'
  rw [show (iot N).all (fun _ => true) = true by simp] at a
  exact runE rfl rfl (ssRet a) rfl
theorem ev_G (ns : List Int) : G 40 i_law [.sc (ns.map .int)] = some (.pu (.bool true), []) := law_ok (k := 31) ns
end K84

set_option Elab.async false
set_option linter.all false
set_option maxRecDepth 100000
set_option maxHeartbeats 0
namespace K84
open PySem PySem.Spec PyProof.Rows L2 Rf
def tri (x : Str) (N : List String) (np : Nat) (b : ISs) : Str × List Str × Fn := (x, N.map Str.ofString, ⟨np, N.length, b⟩)
def tops : List (Str × List Str × Fn) := [tri "_law_turned" n__law_turned 2 b__law_turned, tri "_law_behind" n__law_behind 2 b__law_behind, tri "_law_draw" n__law_draw 2 b__law_draw, tri "_law_pick" n__law_pick 2 b__law_pick, tri "_law_mixed" n__law_mixed 2 b__law_mixed, tri "_law_turns" n__law_turns 1 b__law_turns, tri "_law_same" n__law_same 1 b__law_same, tri "_law_undone" n__law_undone 1 b__law_undone, tri "_law_ties" n__law_ties 4 b__law_ties, tri "is_integer" n_is_integer 1 b_is_integer, tri "is_within" n_is_within 3 b_is_within, tri "want_dims" n_want_dims 1 b_want_dims, tri "want_many" n_want_many 1 b_want_many, tri "is_list" n_is_list 1 b_is_list, tri "is_tuple" n_is_tuple 2 b_is_tuple, tri "is_turn_of" n_is_turn_of 2 b_is_turn_of, tri "is_tie" n_is_tie 3 b_is_tie, tri "want_ties" n_want_ties 3 b_want_ties, tri "want_tied" n_want_tied 3 b_want_tied, tri "tree_of" n_tree_of 2 b_tree_of, tri "legs_at" n_legs_at 2 b_legs_at, tri "far_end" n_far_end 2 b_far_end, tri "reached_by" n_reached_by 3 b_reached_by, tri "pieces_by" n_pieces_by 2 b_pieces_by, tri "net_of" n_net_of 2 b_net_of] ++ [tri "all_legs" n_all_legs 1 b_all_legs, tri "sense_from" n_sense_from 3 b_sense_from, tri "ways_by" n_ways_by 3 b_ways_by, tri "same_turn" n_same_turn 1 b_same_turn, tri "behind_of" n_behind_of 2 b_behind_of, tri "undone_of" n_undone_of 1 b_undone_of, tri "turn_along" n_turn_along 3 b_turn_along, tri "tree_turns" n_tree_turns 3 b_tree_turns, tri "does_fit" n_does_fit 2 b_does_fit, tri "open_ties" n_open_ties 3 b_open_ties, tri "told_turns" n_told_turns 3 b_told_turns, tri "turns_for" n_turns_for 3 b_turns_for, tri "_law_pieces" n__law_pieces 2 b__law_pieces, tri "_law_does_agree" n__law_does_agree 2 b__law_does_agree, tri "_law_led" n__law_led 3 b__law_led, tri "want_turns" n_want_turns 3 b_want_turns, tri "do_agree" n_do_agree 4 b_do_agree, tri "turns_of" n_turns_of 1 b_turns_of, tri "turn_lists" n_turn_lists 2 b_turn_lists, tri "piece_count" n_piece_count 2 b_piece_count, tri "many_turns" n_many_turns 3 b_many_turns, tri "suspects" n_suspects 3 b_suspects, tri "_law_lists" n__law_lists 2 b__law_lists, tri "_law_right" n__law_right 1 b__law_right, tri "_law_pot" n__law_pot 2 b__law_pot] ++ [tri "law" n_law 1 b_law]
def drs : List DR := tops.map (mkDR PySem.Challenge.pw_cavelegs_k84_whole_turns_that_agree.main.body)
def bn : List Str := ["abs", "all", "any", "bool", "divmod", "enumerate", "int", "isinstance", "len", "list", "max", "min", "range", "repr", "set", "sorted", "tuple"]
def kws : List (Nat × List Str × List Nat) := [(36, ["ties", "many", "dims"], [2, 1, 0]), (41, ["turns", "ties", "many", "dims"], [3, 2, 1, 0]), (45, ["ties", "many", "dims"], [2, 1, 0]), (46, ["ties", "many", "dims"], [2, 1, 0])]
def gl : List (Str × D) := consts.map fun q => (Str.ofString q.1, q.2)
abbrev pg : Pg := mkPg drs gl bn false kws
theorem chk : drs.all (chkDR pg) = true := by decide +kernel
theorem kw : KwAll drs kws := ⟨⟨_, rfl, fun _ _ _ _ _ _ ws hl => match ws, hl with | [_, _, _], _ => ⟨_, rfl, rfl⟩⟩, ⟨⟨_, rfl, fun _ _ _ _ _ _ ws hl => match ws, hl with | [_, _, _, _], _ => ⟨_, rfl, rfl⟩⟩, ⟨⟨_, rfl, fun _ _ _ _ _ _ ws hl => match ws, hl with | [_, _, _], _ => ⟨_, rfl, rfl⟩⟩, ⟨⟨_, rfl, fun _ _ _ _ _ _ ws hl => match ws, hl with | [_, _, _], _ => ⟨_, rfl, rfl⟩⟩, trivial⟩⟩⟩⟩
abbrev R : PySem.W.OpenRow := PySem.W.OpenLaw.row PySem.Challenge.rw_cavelegs_k84_whole_turns_that_agree
abbrev hk : PySem.W.Hook := hookR 4 pg (drs.map DR.D)
def ob (s : PySem.W.SharedT) : He.AlD := obR 4 pg (drs.map DR.D) s
theorem ob_eq (s : PySem.W.SharedT) : ob s = hk.obs s.abs := obR_eq s
def loose : List Str := (["is_integer", "is_within", "is_list", "is_tuple", "CaveError", "InvalidDims", "InvalidMany", "InvalidTies", "InvalidTurns", "MOST_DIMS", "legs_at", "far_end", "reached_by", "pieces_by", "all_legs", "same_turn", "behind_of", "undone_of", "turns_of", "is_turn_of", "want_dims", "sense_from", "ways_by", "tree_of", "MOST_MAPS", "MOST_TIES", "want_many", "is_tie", "want_ties", "want_turns"] : List Str) ++ (["want_tied", "net_of", "does_fit", "turn_along", "tree_turns", "open_ties", "told_turns", "turn_lists", "piece_count", "turns_for", "do_agree", "many_turns", "suspects", "_law_pot", "_law_draw", "_law_pick", "_law_mixed", "_law_turns", "_law_turned", "_law_same", "_law_behind", "_law_undone", "_law_ties", "_law_does_agree", "_law_pieces", "_law_led", "_law_lists", "_law_right"] : List Str)
theorem run (w : World) : HandSHeadRun.RunEq R (PySem.W.view R.prog [65]) hk ob 3000 loose w := by
  intro os
  kernel_rfl
end K84

set_option Elab.async false
set_option linter.all false
set_option maxRecDepth 100000
set_option maxHeartbeats 0
namespace K84
open PySem PySem.Spec PyProof.Rows L2 Rf
theorem ev (ns : List Int) : pg.F 40 50 [.sc (ns.map .int)] = some (.pu (.bool true), []) := by
  have hT : pg.T = fns := by kernel_rfl
  have hC : pg.C = C0 := by kernel_rfl
  show callN pg.C pg.T 40 50 _ = _
  rw [hT, hC]
  have e := ev_G ns
  unfold G at e
  exact e
def dl : DR := mkDR PySem.Challenge.pw_cavelegs_k84_whole_turns_that_agree.main.body (tri "law" n_law 1 b_law)
theorem hd : drs[50]? = some dl := rfl
theorem hps : dl.ps = [("script" : Str)] := by decide +kernel
theorem hx : dl.x = ("law" : Str) := rfl
end K84
open PySem PySem.W PySem.Calls PyProof.Rows
theorem PySem.Challenge.cw_cavelegs_k84_whole_turns_that_agree_holds : PySem.Challenge.rw_cavelegs_k84_whole_turns_that_agree.Holds := by
  w_on; o_law
  refine HandSHeadRun.head_any (r := OpenLaw.row PySem.Challenge.rw_cavelegs_k84_whole_turns_that_agree) (q := view (OpenLaw.row PySem.Challenge.rw_cavelegs_k84_whole_turns_that_agree).prog [65]) (H := K84.hk) (ob := K84.ob) (M := 3000) (loose := K84.loose) (d := HandSHeadRun.topDef (OpenLaw.row PySem.Challenge.rw_cavelegs_k84_whole_turns_that_agree).prog 65) (kwd := []) K84.ob_eq (by kernel_rfl) (fun _ => rfl) K84.run
    (by kernel_rfl) (by kernel_rfl) (by kernel_rfl) (by rfl) (by first | assumption | decide +kernel) (by decide +kernel) ⟨rfl, rfl, rfl, rfl, rfl, by decide +kernel⟩ ?hw ?hc
  case hw => w_witness2
  case hc =>
    refine Rf.walk_G (l := PySem.Challenge.rw_cavelegs_k84_whole_turns_that_agree) (n := 63) (k := 40) (x := "script") rfl (by decide) (by kernel_rfl) ⟨rfl, by decide, by decide⟩ ?F
    intro w mg fa h Y G hmg0
    have e : (HandSHeadRun.topDef (OpenLaw.row PySem.Challenge.rw_cavelegs_k84_whole_turns_that_agree).prog 65).name = ("law" : PySem.Str) := by kernel_rfl
    rw [e] at hmg0
    exact Rf.law_F (P := PySem.Challenge.rw_cavelegs_k84_whole_turns_that_agree.prog) (w := w) (k := 40) (x := "script") K84.chk K84.kw K84.hd K84.hps (fun ns _ => K84.ev ns) Y G hmg0

