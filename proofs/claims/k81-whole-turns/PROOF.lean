import PyProof.Rows.All
import Wide.All
import OpenK.AllK
import Wide.FinOn
import HandS.ForMost
import HandS.Deep
import HandS.Conv
import HandS.IsInst
import HandS.TupMul
import HandS.TupAny
import HandS.Gcd
import HandS.Style
import HandS.Wide
import HandS.Zip
import HandS.Defaults
import KE.SortData
import HandS.More
import HandS.Iter
import KE.GoesEnum
import HandS.Head2
import HandS.HeadHook2
import HandS.HeadEnd
import HandS.Head3
import PySem.Challenge.RW_cavelegs_k81_whole_turns
set_option Elab.async false
set_option linter.all false
set_option maxRecDepth 100000
/-! Rf: a pure evaluator for the plain part of Python that the program is written in. -/
namespace Rf
open PySem

abbrev D := PyData

/-- what a name of a def holds: nothing; a value that is never changed from now on; a list that this name alone holds (t: 0, or the parameter's place and 1); the script -/
inductive Sl where
  | emp
  | val (d : D)
  | own (t : Nat) (xs : List D)
  | scr (t : Nat) (xs : List D)
abbrev Ev := List Sl

/-- an expression's value: never changed from now on; the list that slot i holds; a list just made -/
inductive Opd where
  | pu (d : D)
  | bo (i : Nat)
  | fr (xs : List D)
  | fo (xs : List D)

inductive BOp where
  | add | sub | mul | fdiv | mod | pow
  deriving DecidableEq
inductive COp where
  | eq | ne | lt | le | gt | ge | isN | notN | isB | notB | mem | nmem
  deriving DecidableEq
inductive Ty where
  | int | bool | str | list | tuple | dict
  deriving DecidableEq
inductive Blt where
  | len | abs | max2 | min2 | int1 | tuple1 | list1 | all1 | any1 | sum1 | sorted1 | repr1 | gcd2 | divmod2
  deriving DecidableEq
inductive Mth where
  | append | extend | pop0 | pop1 | insert
  deriving DecidableEq

mutual
inductive IE where
  | var (i : Nat)
  | frz (i : Nat)
  | cst (d : D)
  | glo (n : Nat)
  | bin (o : BOp) (a b : IE)
  | neg (a : IE)
  | cmp (o : COp) (a b : IE)
  | chn (o o' : COp) (a b c : IE)
  | and2 (a b : IE)
  | or2 (a b : IE)
  | nt (a : IE)
  | ite (c a b : IE)
  | tup (es : IEs)
  | lst (es : IEs)
  | idx (a i : IE)
  | slc (a : IE) (lo hi : IO)
  | rev (a : IE)
  | call (f : Nat) (es : IEs)
  | callk (f : Nat) (p : List Nat) (es : IEs)
  | blt (b : Blt) (es : IEs)
  | isi (a : IE) (ts : List Ty)
  | lrg (lo hi : IE)
  | trg (lo hi : IE)
  | lc (elt : IE) (tg : IT) (it : II) (cd : IO) (own : List Nat)
  | mth (m : Mth) (i : Nat) (es : IEs)
  | rpr (es : IEs)
  | giv (e : IE)
inductive IEs where
  | nil
  | cons (e : IE) (es : IEs)
inductive IO where
  | non
  | som (e : IE)
inductive II where
  | it (a : IE)
  | rng (lo hi : IE)
  | enu (a : IE)
  | zip (a b : IE)
inductive IT where
  | nm (i : Nat)
  | tp (ts : ITs)
  | sub (i : Nat) (e : IE)
inductive ITs where
  | nil
  | cons (t : IT) (ts : ITs)
end
mutual
inductive IS where
  | asg (t : IT) (e : IE)
  | own (i : Nat) (e : IE)
  | par2 (i j : Nat) (u v : Bool) (a b : IE)
  | par3 (i j l : Nat) (u v w : Bool) (a b c : IE)
  | ex (e : IE)
  | ret (e : IE)
  | ite (c : IE) (a b : ISs)
  | fo (t : IT) (it : II) (b : ISs)
  | wh (c : IE) (b : ISs)
  | pass | brk | cnt
  | nev
inductive ISs where
  | nil
  | cons (s : IS) (ss : ISs)
end

/-- an argument: a value; a list that the callee may change; the script -/
inductive Ar where
  | pu (d : D)
  | io (xs : List D)
  | sc (xs : List D)
inductive Rv where
  | pu (d : D)
  | fr (xs : List D)
abbrev Rt := Rv × List (List D)
abbrev FT := Nat → List Ar → Option Rt

/-! ### operations by values -/
def lenOk (n : Nat) : Bool := Nat.ble n 16777216
def small64 (i : Int) : Bool := Nat.blt i.natAbs 18446744073709551616
def mulOk (i j : Int) : Bool := small64 i || small64 j || Nat.blt (i.natAbs.log2 + j.natAbs.log2) 1000000

def rdp (env : Ev) : Opd → Option D
  | .pu d => some d
  | .fr xs => some (.list xs)
  | .bo i => match env[i]? with
    | some (.own _ xs) => some (.list xs)
    | _ => none
  | .fo _ => none
/-- the script too -/
def rds (env : Ev) : Opd → Option D
  | .pu d => some d
  | .fr xs => some (.list xs)
  | .bo i => match env[i]? with
    | some (.own _ xs) => some (.list xs)
    | some (.scr _ xs) => some (.list xs)
    | _ => none
  | .fo _ => none
def rdsAll (env : Ev) : List Opd → Option (List D)
  | [] => some []
  | o :: r => match rds env o, rdsAll env r with
    | some d, some ds => some (d :: ds)
    | _, _ => none
/-- a value from now on -/
def frzd : Opd → Option D
  | .pu d => some d
  | .fr xs => some (.list xs)
  | .bo _ => none
  | .fo _ => none

def thaw : Opd → Opd
  | .fr xs => .pu (.list xs)
  | o => o
def repL (k : Nat) (xs : List D) : List D := match k with
  | 0 => []
  | k + 1 => xs ++ repL k xs

def binV : BOp → D → D → Option Opd
  | .add, .int i, .int j => some (.pu (.int (i + j)))
  | .add, .str x, .str y => if lenOk (x.length + y.length) then some (.pu (.str (x ++ y))) else none
  | .add, .list xs, .list ys => if lenOk (xs.length + ys.length) then some (.fr (xs ++ ys)) else none
  | .add, .tuple xs, .tuple ys => if lenOk (xs.length + ys.length) then some (.pu (.tuple (xs ++ ys))) else none
  | .sub, .int i, .int j => some (.pu (.int (i - j)))
  | .mul, .int i, .int j => if mulOk i j then some (.pu (.int (i * j))) else none
  | .mul, .list xs, .int k => if small64 k && decide (-9223372036854775808 ≤ k) && decide (k < 9223372036854775808) && lenOk (xs.length * k.toNat) then some (.fr (repL k.toNat xs)) else none
  | .mul, .tuple xs, .int k => if decide (2 ≤ k) && decide (k ≤ 1000) && Nat.ble xs.length 1000 && !xs.isEmpty then some (.pu (.tuple (repL k.toNat xs))) else none
  | .fdiv, .int i, .int j => if decide (0 < j) && Nat.blt j.natAbs.log2 9000 then some (.pu (.int (i / j))) else none
  | .mod, .int i, .int j => if decide (0 < j) then some (.pu (.int (i % j))) else none
  | .pow, .int i, .int j => if decide (0 ≤ j) && decide (j ≤ 1000000) && small64 i then some (.pu (.int (i ^ j.toNat))) else none
  | _, _, _ => none

/-- None, bools, ints, texts, told apart as data does -/
def scalD : D → D → Option Bool
  | .none, .none => some true
  | .none, .int _ => some false
  | .int _, .none => some false
  | .none, .bool _ => some false
  | .bool _, .none => some false
  | .none, .str _ => some false
  | .str _, .none => some false
  | .int i, .int j => some (decide (i = j))
  | .bool a, .bool b => some (decide (a = b))
  | .str x, .str y => some (decide (x = y))
  | .int _, .str _ => some false
  | .str _, .int _ => some false
  | .bool _, .str _ => some false
  | .str _, .bool _ => some false
  | _, _ => none
def eqD (a b : D) : Option Bool := match scalD a b with
  | some r => some r
  | none => if SeqAt.shaped a && SeqAt.shaped b then some (PyData.eqv a b) else none
def memD (a : D) : D → Option Bool
  | .list ds => if SeqAt.shaped a && SeqAt.shaped (.list ds) then some (ds.any fun z => PyData.eqv z a) else none
  | .tuple ds => if SeqAt.shaped a && SeqAt.shaped (.list ds) then some (ds.any fun z => PyData.eqv z a) else none
  | _ => none
def isNon : D → Bool
  | .none => true
  | _ => false
def cmpV : COp → D → D → Option Bool
  | .eq, a, b => eqD a b
  | .ne, a, b => (eqD a b).map not
  | .lt, .int i, .int j => some (decide (i < j))
  | .le, .int i, .int j => some (decide (i ≤ j))
  | .gt, .int i, .int j => some (decide (j < i))
  | .ge, .int i, .int j => some (decide (j ≤ i))
  | .isN, a, .none => some (isNon a)
  | .notN, a, .none => some (!isNon a)
  | .isB, .bool a, .bool b => some (decide (a = b))
  | .notB, .bool a, .bool b => some (!decide (a = b))
  | .mem, a, b => memD a b
  | .nmem, a, b => (memD a b).map not
  | _, _, _ => none

def ixOf {α : Type} (xs : List α) (i : Int) : Option α := L2.atI xs i
def idxV : D → D → Option D
  | .list xs, .int i => ixOf xs i
  | .tuple xs, .int i => ixOf xs i
  | _, _ => none
def cutL (xs : List D) (lo hi : Option Int) : List D := (xs.drop (HT.sIx xs.length 0 lo)).take (HT.sIx xs.length xs.length hi - HT.sIx xs.length 0 lo)
def slcV (d : D) (lo hi : Option Int) : Option Opd := match d with
  | .list xs => some (.fr (cutL xs lo hi))
  | .tuple xs => some (.pu (.tuple (cutL xs lo hi)))
  | _ => none
def revV : D → Option Opd
  | .list xs => some (.fr xs.reverse)
  | _ => none
def negV : D → Option D
  | .int i => some (.int (-i))
  | _ => none

def boolsOf : List D → Option (List Bool)
  | [] => some []
  | .bool b :: r => (boolsOf r).map (b :: ·)
  | _ => none
def intsOf : List D → Option (List Int)
  | [] => some []
  | .int i :: r => (intsOf r).map (i :: ·)
  | _ => none

def tyIs : Ty → D → Bool
  | .int, .int _ => true
  | .int, .bool _ => true
  | .bool, .bool _ => true
  | .str, .str _ => true
  | .list, .list _ => true
  | .tuple, .tuple _ => true
  | .dict, .dict _ => true
  | _, _ => false

/-- sorting by insertion, equal ones in their order -/
def ins {α : Type} (le : α → α → Bool) (a : α) : List α → List α
  | [] => [a]
  | b :: r => if le a b then a :: b :: r else b :: ins le a r
def isort {α : Type} (le : α → α → Bool) : List α → List α
  | [] => []
  | a :: r => ins le a (isort le r)
def alikes (d : D) : List D → Bool
  | [] => true
  | e :: r => PySem.W.alike d e && PySem.W.alike e d && alikes d r
def allAlike : List D → Bool
  | [] => true
  | d :: r => PySem.W.alike d d && alikes d r && allAlike r
def tupNE : D → Bool
  | .tuple (_ :: _) => true
  | _ => false
def noTupNone : D → Bool
  | .none => false
  | .tuple _ => false
  | _ => true
def deepMax (ds : List D) : Nat := PyData.depthAll ds
def sortOk (ds : List D) : Bool := allAlike ds && (ds.all tupNE || ds.all noTupNone) && Nat.ble (deepMax ds) 64
def sortV (ds : List D) : Option (List D) := if sortOk ds then some (isort (PySem.W.dataLe false id) ds) else none

mutual
/-- what repr shows in a bounded text -/
def rOk : D → Bool
  | .none => true
  | .bool _ => true
  | .int i => Nat.blt i.natAbs 1000000000000 || (Nat.blt i.natAbs.log2 1920 && Nat.ble (PyData.shown (.int i)).length 1000)
  | .str x => PyData.strOk x && Nat.ble (reprText x).length 1000
  | .list xs => rOkAll xs
  | .tuple xs => rOkAll xs
  | .dict _ => false
def rOkAll : List D → Bool
  | [] => true
  | x :: xs => rOk x && rOkAll xs
end
def reprOk (d : D) : Bool := rOk d && Nat.ble d.depth 64 && Nat.ble d.bulk 15000

def bltV : Blt → List D → Option Opd
  | .len, [.list xs] => some (.pu (.int xs.length))
  | .len, [.tuple xs] => some (.pu (.int xs.length))
  | .len, [.str s] => if lenOk s.length then some (.pu (.int s.length)) else none
  | .abs, [.int i] => some (.pu (.int (if i < 0 then -i else i)))
  | .max2, [.int i, .int j] => some (.pu (.int (if j > i then j else i)))
  | .min2, [.int i, .int j] => some (.pu (.int (if j < i then j else i)))
  | .int1, [.int i] => some (.pu (.int i))
  | .tuple1, [.list xs] => some (.pu (.tuple xs))
  | .tuple1, [.tuple xs] => some (.pu (.tuple xs))
  | .list1, [.list xs] => some (.fr xs)
  | .list1, [.tuple xs] => some (.fr xs)
  | .all1, [.list xs] => (boolsOf xs).map fun bs => .pu (.bool (bs.all id))
  | .any1, [.list xs] => (boolsOf xs).map fun bs => .pu (.bool (bs.any id))
  | .sum1, [.list xs] => (intsOf xs).map fun ns => .pu (.int ns.sum)
  | .sorted1, [.list xs] => (sortV xs).map .fr
  | .repr1, [d] => if reprOk d then some (.pu (.str d.shown)) else none
  | .gcd2, [.int i, .int j] => some (.pu (.int ((Nat.gcd i.natAbs j.natAbs : Nat) : Int)))
  | .divmod2, [.int i, .int j] => if decide (0 < j) && decide (j < 1073741824) then some (.pu (.tuple [.int (i / j), .int (i % j)])) else none
  | _, _ => none

def rngOk (a b : Int) : Bool := decide (-4611686018427387904 ≤ a) && decide (a < 4611686018427387904) && decide (-4611686018427387904 ≤ b) && decide (b < 4611686018427387904)
/-- lo, lo + 1, .. n of them -/
def ups (lo : Int) : Nat → List D
  | 0 => []
  | n + 1 => .int lo :: ups (lo + 1) n
def rngV : D → D → Option (List D)
  | .int a, .int b => if rngOk a b then some (ups a (b - a).toNat) else none
  | _, _ => none
def enuL (k : Nat) : List D → List D
  | [] => []
  | d :: r => .tuple [.int k, d] :: enuL (k + 1) r
def seqV : D → Option (List D)
  | .list xs => some xs
  | .tuple xs => some xs
  | _ => none
def zipL : List D → List D → List D
  | a :: r, b :: s => .tuple [a, b] :: zipL r s
  | _, _ => []
def zipV : D → D → Option (List D)
  | .list xs, .list ys => some (zipL xs ys)
  | .tuple xs, .tuple ys => some (zipL xs ys)
  | _, _ => none

/-! ### slots -/
def slv (d : D) : Sl := .val d
def putv (env : Ev) (i : Nat) (s : Sl) : Option Ev := if Nat.blt i env.length then some (env.set i s) else none
def wipeE (env : Ev) : List Nat → Ev
  | [] => env
  | i :: is => (wipeE env is).set i .emp
def valOnly : Option Sl → Sl
  | some (.val d) => .val d
  | _ => .emp
/-- the slots of a comprehension's own names as they were (values alone) -/
def backE (env0 : Ev) (env : Ev) : List Nat → Ev
  | [] => env
  | i :: is => (backE env0 env is).set i (valOnly env0[i]?)
def distinct : List (Option Nat) → Bool
  | [] => true
  | i :: r => !r.contains i && distinct r
/-- the lists handed in: the slots that hold them, or none's -/
def iosOf (env : Ev) : List Opd → List (Option Nat)
  | [] => []
  | .bo i :: r => (match env[i]? with | some (.own _ _) => some i :: iosOf env r | _ => iosOf env r)
  | .fo _ :: r => none :: iosOf env r
  | _ :: r => iosOf env r
def arOf (env : Ev) : Opd → Option Ar
  | .pu d => some (.pu d)
  | .fr xs => some (.pu (.list xs))
  | .bo i => match env[i]? with
    | some (.own _ xs) => some (.io xs)
    | some (.scr _ xs) => some (.sc xs)
    | _ => none
  | .fo xs => some (.io xs)
def arsOf (env : Ev) : List Opd → Option (List Ar)
  | [] => some []
  | o :: r => match arOf env o, arsOf env r with
    | some a, some s => some (a :: s)
    | _, _ => none
def backOut (env : Ev) : List (Option Nat) → List (List D) → Option Ev
  | [], [] => some env
  | none :: is, _ :: xss => backOut env is xss
  | some i :: is, xs :: xss => match env[i]? with
    | some (.own t _) => backOut (env.set i (.own t xs)) is xss
    | _ => none
  | _, _ => none
def pick {α : Type} (os : List α) : List Nat → Option (List α)
  | [] => some []
  | p :: ps => match os[p]?, pick os ps with
    | some o, some r => some (o :: r)
    | _, _ => none
def rvO : Rv → Opd
  | .pu d => .pu d
  | .fr xs => .fr xs
def callO (F : FT) (f : Nat) (os : List Opd) (env : Ev) : Option (Opd × Ev) :=
  match arsOf env os with
  | none => none
  | some as => if distinct (iosOf env os) then
      match F f as with
      | none => none
      | some (rv, outs) => match backOut env (iosOf env os) outs with
        | none => none
        | some env' => some (rvO rv, env')
    else none

def setAt (env : Ev) (i : Nat) (k d : D) : Option Ev := match env[i]?, k with
  | some (.own t xs), .int j => match L2.ixN xs.length j with
    | some m => some (env.set i (.own t (xs.set m d)))
    | none => none
  | _, _ => none
def mthV (m : Mth) (env : Ev) (i : Nat) (os : List Opd) : Option (Opd × Ev) := match env[i]? with
  | some (.own t xs) => match m, os with
    | .append, [o] => match frzd o with
      | some d => if Nat.blt xs.length 16777216 then some (.pu .none, env.set i (.own t (xs ++ [d]))) else none
      | none => none
    | .extend, [o] => match frzd o with
      | some (.list ys) => if lenOk (xs.length + ys.length) then some (.pu .none, env.set i (.own t (xs ++ ys))) else none
      | _ => none
    | .pop0, [] => match xs[xs.length - 1]? with
      | some d => some (.pu d, env.set i (.own t xs.dropLast))
      | none => none
    | .pop1, [.pu (.int k)] => if decide (-9223372036854775808 ≤ k) && decide (k < 9223372036854775808) then match L2.ixN xs.length k with
        | some n => match xs[n]? with
          | some d => some (.pu d, env.set i (.own t (xs.eraseIdx n)))
          | none => none
        | none => none
      else none
    | .insert, [.pu (.int k), o] => match frzd o with
      | some d => if decide (0 ≤ k) && decide (k ≤ xs.length) && Nat.blt xs.length 16777216 then some (.pu .none, env.set i (.own t (xs.take k.toNat ++ d :: xs.drop k.toNat))) else none
      | none => none
    | _, _ => none
  | _ => none

/-! ### loops -/
inductive Fl where
  | nx (e : Ev) | rt (o : Opd) (e : Ev) | bk (e : Ev) | ct (e : Ev)
def lcLoop (st : D → Ev → Option Ev) (ts : Ev → Option (Bool × Ev)) (el : Ev → Option (D × Ev)) (own : List Nat) : List D → Ev → Option (List D × Ev)
  | [], env => some ([], env)
  | d :: ds, env => match st d env with
    | none => none
    | some e1 => match ts e1 with
      | none => none
      | some (false, e2) => lcLoop st ts el own ds (wipeE e2 own)
      | some (true, e2) => match el e2 with
        | none => none
        | some (x, e3) => match lcLoop st ts el own ds (wipeE e3 own) with
          | none => none
          | some (xs, e4) => some (x :: xs, e4)
def foLoop (st : D → Ev → Option Ev) (bd : Ev → Option Fl) : List D → Ev → Option Fl
  | [], env => some (.nx env)
  | d :: ds, env => match st d env with
    | none => none
    | some e1 => match bd e1 with
      | some (.nx e2) => foLoop st bd ds e2
      | some (.ct e2) => foLoop st bd ds e2
      | some (.bk e2) => some (.nx e2)
      | some (.rt o e2) => some (.rt o e2)
      | none => none
def whLoop (ts : Ev → Option (Bool × Ev)) (bd : Ev → Option Fl) : Nat → Ev → Option Fl
  | 0, _ => none
  | n + 1, env => match ts env with
    | none => none
    | some (false, e1) => some (.nx e1)
    | some (true, e1) => match bd e1 with
      | some (.nx e2) => whLoop ts bd n e2
      | some (.ct e2) => whLoop ts bd n e2
      | some (.bk e2) => some (.nx e2)
      | some (.rt o e2) => some (.rt o e2)
      | none => none
mutual
/-- the names that a target stores -/
def tgS : IT → List Nat
  | .nm i => [i]
  | .tp ts => tgSs ts
  | .sub _ _ => []
def tgSs : ITs → List Nat
  | .nil => []
  | .cons t ts => tgS t ++ tgSs ts
end
mutual
def noSub : IT → Bool
  | .nm _ => true
  | .tp ts => noSubs ts
  | .sub _ _ => false
def noSubs : ITs → Bool
  | .nil => true
  | .cons t ts => noSub t && noSubs ts
end

def frzE : Option (Opd × Ev) → Option (D × Ev)
  | none => none
  | some (o, e) => match frzd o with
    | some d => some (d, e)
    | none => none
def lcV (st : D → Ev → Option Ev) (ts : Ev → Option (Bool × Ev)) (el : Ev → Option (D × Ev)) (own : List Nat) : Option (List D × Ev) → Option (Opd × Ev)
  | none => none
  | some (ds, e1) => match lcLoop st ts el own ds (wipeE e1 own) with
    | none => none
    | some (xs, e2) => if lenOk xs.length then some (.fr xs, backE e1 e2 own) else none
mutual
/-- an expression -/
def evE (F : FT) (C : List D) : IE → Ev → Option (Opd × Ev)
  | .var i, env => match env[i]? with
    | some (.val d) => some (.pu d, env)
    | some (.own _ _) => some (.bo i, env)
    | some (.scr _ _) => some (.bo i, env)
    | _ => none
  | .frz i, env => match env[i]? with
    | some (.val d) => some (.pu d, env)
    | some (.own 0 xs) => some (.pu (.list xs), env.set i (.val (.list xs)))
    | _ => none
  | .cst d, env => some (.pu d, env)
  | .glo n, env => match C[n]? with
    | some d => some (.pu d, env)
    | none => none
  | .bin o a b, env => match evE F C a env with
    | none => none
    | some (x, e1) => match evE F C b e1 with
      | none => none
      | some (y, e2) => match rdp e2 x, rdp e2 y with
        | some p, some q => (binV o p q).map (·, e2)
        | _, _ => none
  | .neg a, env => match evE F C a env with
    | some (.pu d, e1) => (negV d).map fun r => (.pu r, e1)
    | _ => none
  | .cmp o a b, env => match evE F C a env with
    | none => none
    | some (x, e1) => match evE F C b e1 with
      | none => none
      | some (y, e2) => match rds e2 x, rds e2 y with
        | some p, some q => (cmpV o p q).map fun r => (.pu (.bool r), e2)
        | _, _ => none
  | .chn o o' a b c, env => match evE F C a env with
    | none => none
    | some (x, e1) => match evE F C b e1 with
      | none => none
      | some (y, e2) => match rds e2 x, rds e2 y with
        | some p, some q => match cmpV o p q with
          | none => none
          | some false => some (.pu (.bool false), e2)
          | some true => match evE F C c e2 with
            | none => none
            | some (z, e3) => match rds e3 y, rds e3 z with
              | some q', some r => (cmpV o' q' r).map fun k => (.pu (.bool k), e3)
              | _, _ => none
        | _, _ => none
  | .and2 a b, env => match evE F C a env with
    | some (.pu (.bool true), e1) => evE F C b e1
    | some (.pu (.bool false), e1) => some (.pu (.bool false), e1)
    | _ => none
  | .or2 a b, env => match evE F C a env with
    | some (.pu (.bool false), e1) => evE F C b e1
    | some (.pu (.bool true), e1) => some (.pu (.bool true), e1)
    | _ => none
  | .nt a, env => match evE F C a env with
    | some (.pu (.bool b), e1) => some (.pu (.bool (!b)), e1)
    | _ => none
  | .ite c a b, env => match evE F C c env with
    | some (.pu (.bool true), e1) => evE F C a e1
    | some (.pu (.bool false), e1) => evE F C b e1
    | _ => none
  | .tup es, env => match evP F C es env with
    | some (ds, e1) => if lenOk ds.length then some (.pu (.tuple ds), e1) else none
    | none => none
  | .lst es, env => match evP F C es env with
    | some (ds, e1) => if lenOk ds.length then some (.fr ds, e1) else none
    | none => none
  | .idx a i, env => match evE F C a env with
    | none => none
    | some (x, e1) => match evE F C i e1 with
      | some (.pu k, e2) => match rds e2 x with
        | some d => (idxV d k).map fun r => (.pu r, e2)
        | none => none
      | _ => none
  | .slc a lo hi, env => match evE F C a env with
    | none => none
    | some (x, e1) => match evO F C lo e1 with
      | none => none
      | some (l, e2) => match evO F C hi e2 with
        | none => none
        | some (h, e3) => match rds e3 x with
          | some d => (slcV d l h).map (·, e3)
          | none => none
  | .rev a, env => match evE F C a env with
    | none => none
    | some (x, e1) => match rds e1 x with
      | some d => (revV d).map (·, e1)
      | none => none
  | .call f es, env => match evA F C es env with
    | none => none
    | some (os, e1) => callO F f os e1
  | .callk f p es, env => match evA F C es env with
    | none => none
    | some (os, e1) => match pick os p with
      | some os' => callO F f os' e1
      | none => none
  | .blt b es, env => match evA F C es env with
    | none => none
    | some (os, e1) => match rdsAll e1 os with
      | some ds => (bltV b ds).map (·, e1)
      | none => none
  | .isi a ts, env => match evE F C a env with
    | none => none
    | some (x, e1) => match rdp e1 x with
      | some d => some (.pu (.bool (ts.any fun t => tyIs t d)), e1)
      | none => none
  | .lrg lo hi, env => match evE F C lo env with
    | some (.pu a, e1) => match evE F C hi e1 with
      | some (.pu b, e2) => match rngV a b with
        | some xs => if lenOk xs.length then some (.fr xs, e2) else none
        | none => none
      | _ => none
    | _ => none
  | .trg lo hi, env => match evE F C lo env with
    | some (.pu a, e1) => match evE F C hi e1 with
      | some (.pu b, e2) => match rngV a b with
        | some xs => if lenOk xs.length then some (.pu (.tuple xs), e2) else none
        | none => none
      | _ => none
    | _ => none
  | .lc elt tg it cd own, env => lcV (fun d e => asgT F C tg d e) (fun e => evD F C cd e) (fun e => frzE (evE F C elt e)) own (evI F C it env)
  | .mth m i es, env => match env[i]? with
    | some (.own _ _) => match evA F C es env with
      | none => none
      | some (os, e1) => mthV m e1 i os
    | _ => none
  | .rpr es, env => match evA F C es env with
    | none => none
    | some (os, e1) => match rdsAll e1 os with
      | some ds => if lenOk ds.length && reprOk (.list ds) then some (.pu (.str (PyData.shown (.list ds))), e1) else none
      | none => none
  | .giv e, env => match evE F C e env with
    | some (.fr xs, e1) => some (.fo xs, e1)
    | _ => none
/-- an optional int -/
def evO (F : FT) (C : List D) : IO → Ev → Option (Option Int × Ev)
  | .non, env => some (none, env)
  | .som e, env => match evE F C e env with
    | some (.pu (.int i), e1) => some (some i, e1)
    | _ => none
/-- a comprehension's test -/
def evD (F : FT) (C : List D) : IO → Ev → Option (Bool × Ev)
  | .non, env => some (true, env)
  | .som e, env => match evE F C e env with
    | some (.pu (.bool b), e1) => some (b, e1)
    | _ => none
/-- items, each a value from now on -/
def evP (F : FT) (C : List D) : IEs → Ev → Option (List D × Ev)
  | .nil, env => some ([], env)
  | .cons e es, env => match evE F C e env with
    | none => none
    | some (o, e1) => match frzd o with
      | none => none
      | some d => match evP F C es e1 with
        | none => none
        | some (ds, e2) => some (d :: ds, e2)
/-- arguments -/
def evA (F : FT) (C : List D) : IEs → Ev → Option (List Opd × Ev)
  | .nil, env => some ([], env)
  | .cons e es, env => match evE F C e env with
    | none => none
    | some (o, e1) => match evA F C es e1 with
      | none => none
      | some (os, e2) => some (thaw o :: os, e2)
/-- what is walked -/
def evI (F : FT) (C : List D) : II → Ev → Option (List D × Ev)
  | .it a, env => match evE F C a env with
    | none => none
    | some (o, e1) => match frzd o with
      | none => none
      | some d => (seqV d).map (·, e1)
  | .rng lo hi, env => match evE F C lo env with
    | some (.pu a, e1) => match evE F C hi e1 with
      | some (.pu b, e2) => (rngV a b).map (·, e2)
      | _ => none
    | _ => none
  | .enu a, env => match evE F C a env with
    | none => none
    | some (o, e1) => match frzd o with
      | none => none
      | some d => (seqV d).map fun xs => (enuL 0 xs, e1)
  | .zip a b, env => match evE F C a env with
    | none => none
    | some (x, e1) => match frzd x with
      | none => none
      | some p => match evE F C b e1 with
        | none => none
        | some (y, e2) => match frzd y with
          | none => none
          | some q => (zipV p q).map (·, e2)
/-- a value stored -/
def asgT (F : FT) (C : List D) : IT → D → Ev → Option Ev
  | .nm i, d, env => putv env i (.val d)
  | .tp ts, .tuple ds, env => asgTs F C ts ds env
  | .tp _, _, _ => none
  | .sub i e, d, env => match env[i]? with
    | some (.own _ _) => match evE F C e env with
      | some (.pu k, e1) => setAt e1 i k d
      | _ => none
    | _ => none
def asgTs (F : FT) (C : List D) : ITs → List D → Ev → Option Ev
  | .nil, [], env => some env
  | .cons t ts, d :: ds, env => match asgT F C t d env with
    | none => none
    | some e1 => asgTs F C ts ds e1
  | _, _, _ => none
end

/-- a new list, or a value, as slot i is to hold it -/
def slotOf (own : Bool) : Opd → Option Sl
  | .fr xs => some (if own then .own 0 xs else .val (.list xs))
  | .pu d => if own then none else some (.val d)
  | .bo _ => none
  | .fo _ => none
mutual
def evS (F : FT) (C : List D) : IS → Ev → Option Fl
  | .asg t e, env => match evE F C e env with
    | none => none
    | some (o, e1) => match frzd o with
      | none => none
      | some d => (asgT F C t d e1).map .nx
  | .own i e, env => match evE F C e env with
    | some (.fr xs, e1) => (putv e1 i (.own 0 xs)).map .nx
    | _ => none
  | .par2 i j u v a b, env => match evE F C a env with
    | none => none
    | some (x, e1) => match slotOf u x with
      | none => none
      | some s => match evE F C b e1 with
        | none => none
        | some (y, e2) => match slotOf v y with
          | none => none
          | some r => match putv e2 i s with
            | none => none
            | some e3 => (putv e3 j r).map .nx
  | .par3 i j l u v w a b c, env => match evE F C a env with
    | none => none
    | some (x, e1) => match slotOf u x with
      | none => none
      | some s => match evE F C b e1 with
        | none => none
        | some (y, e2) => match slotOf v y with
          | none => none
          | some r => match evE F C c e2 with
            | none => none
            | some (z, e3) => match slotOf w z with
              | none => none
              | some q => match putv e3 i s with
                | none => none
                | some e4 => match putv e4 j r with
                  | none => none
                  | some e5 => (putv e5 l q).map .nx
  | .ex e, env => match evE F C e env with
    | none => none
    | some (_, e1) => some (.nx e1)
  | .ret e, env => match evE F C e env with
    | none => none
    | some (o, e1) => some (.rt o e1)
  | .ite c a b, env => match evE F C c env with
    | some (.pu (.bool true), e1) => evSs F C a e1
    | some (.pu (.bool false), e1) => evSs F C b e1
    | _ => none
  | .fo t it b, env => if noSub t then match evI F C it env with
      | none => none
      | some (ds, e1) => foLoop (fun d e => asgT F C t d e) (fun e => evSs F C b e) ds e1
    else none
  | .wh c b, env => whLoop (fun e => match evE F C c e with
      | some (.pu (.bool k), e1) => some (k, e1)
      | _ => none) (fun e => evSs F C b e) 1000000 env
  | .pass, env => some (.nx env)
  | .brk, env => some (.bk env)
  | .cnt, env => some (.ct env)
  | .nev, _ => none
def evSs (F : FT) (C : List D) : ISs → Ev → Option Fl
  | .nil, env => some (.nx env)
  | .cons s ss, env => match evS F C s env with
    | some (.nx e1) => evSs F C ss e1
    | r => r
end

/-! ### defs -/
structure Fn where
  np : Nat
  ns : Nat
  body : ISs
def slOf : Nat → List Ar → Ev
  | _, [] => []
  | t, .pu d :: r => .val d :: slOf (t + 1) r
  | t, .io xs :: r => .own (t + 1) xs :: slOf (t + 1) r
  | t, .sc xs :: r => .scr (t + 1) xs :: slOf (t + 1) r
def outsOf (env : Ev) : Nat → List Ar → Option (List (List D))
  | _, [] => some []
  | t, .io _ :: r => match env[t]?, outsOf env (t + 1) r with
    | some (.own u xs), some xss => if u = t + 1 then some (xs :: xss) else none
    | _, _ => none
  | t, _ :: r => outsOf env (t + 1) r
def rvOf (env : Ev) : Opd → Option Rv
  | .pu d => some (.pu d)
  | .fr xs => some (.fr xs)
  | .bo i => match env[i]? with
    | some (.own 0 xs) => some (.fr xs)
    | _ => none
  | .fo _ => none
def finF (as : List Ar) : Fl → Option Rt
  | .nx e => match outsOf e 0 as with
    | some os => some (.pu .none, os)
    | none => none
  | .rt o e => match rvOf e o, outsOf e 0 as with
    | some r, some os => some (r, os)
    | _, _ => none
  | _ => none
def runF (F : FT) (C : List D) (fn : Fn) (as : List Ar) : Option Rt :=
  if as.length = fn.np then match evSs F C fn.body (slOf 0 as ++ List.replicate (fn.ns - fn.np) .emp) with
    | some r => finF as r
    | none => none
  else none
def callN (C : List D) (T : List Fn) : Nat → FT
  | 0, _, _ => none
  | k + 1, f, as => match T[f]? with
    | some fn => runF (callN C T k) C fn as
    | none => none
end Rf

set_option Elab.async false
set_option linter.all false
set_option maxRecDepth 100000
set_option maxHeartbeats 4000000
namespace Rf
open PySem PySem.Spec PyProof.Rows L2

/-! ### values and what stands for them -/
mutual
inductive Pu (K : PySem.W.Frag) (G : Hp) : D → V → Prop
  | non : Pu K G .none .non
  | bl (b : Bool) : Pu K G (.bool b) (.bl b)
  | int (i : Int) : Pu K G (.int i) (.int i)
  | str (x : Str) : Pu K G (.str x) (.str x)
  | lst {a : Addr} {ys : List V} {ds : List D} : G a = some (.lst ys) → PuA K G ds ys → Pu K G (.list ds) (.ref a)
  | tup {a : Addr} {ys : List V} {ds : List D} : SqT K G a ys → PuA K G ds ys → Pu K G (.tuple ds) (.ref a)
inductive PuA (K : PySem.W.Frag) (G : Hp) : List D → List V → Prop
  | nil : PuA K G [] []
  | cons {d : D} {v : V} {ds : List D} {vs : List V} : Pu K G d v → PuA K G ds vs → PuA K G (d :: ds) (v :: vs)
end

abbrev Sub (G H : Hp) : Prop := ∀ a o, G a = some o → H a = some o
theorem Sub.refl (G : Hp) : Sub G G := fun _ _ e => e
theorem Sub.trans {G H J : Hp} (a : Sub G H) (b : Sub H J) : Sub G J := fun x o e => b x o (a x o e)
theorem sqT_sub {K : PySem.W.Frag} {G H : Hp} (s : Sub G H) {a : Addr} {ys : List V} (h : SqT K G a ys) : SqT K H a ys := by
  rcases h with (h | ⟨o, h⟩) | h
  · exact .inl (.inl (s _ _ h))
  · exact .inl (.inr ⟨o, s _ _ h⟩)
  · exact .inr h
section
variable {K : PySem.W.Frag} {G H : Hp}
mutual
theorem Pu.mono (s : Sub G H) : ∀ {d : D} {v : V}, Pu K G d v → Pu K H d v
  | _, _, .non => .non
  | _, _, .bl b => .bl b
  | _, _, .int i => .int i
  | _, _, .str x => .str x
  | _, _, .lst e r => .lst (s _ _ e) (PuA.mono s r)
  | _, _, .tup e r => .tup (sqT_sub s e) (PuA.mono s r)
theorem PuA.mono (s : Sub G H) : ∀ {ds : List D} {vs : List V}, PuA K G ds vs → PuA K H ds vs
  | _, _, .nil => .nil
  | _, _, .cons a b => .cons (Pu.mono s a) (PuA.mono s b)
end
mutual
theorem Pu.dp : ∀ {d : D} {v : V}, Pu K G d v → Dp K G v d
  | _, _, .non => .non
  | _, _, .bl b => .bl b
  | _, _, .int i => .int i
  | _, _, .str x => .str x
  | _, _, .lst e r => .lst (SqL.of e) (PuA.dp r)
  | _, _, .tup e r => .tup e (PuA.dp r)
theorem PuA.dp : ∀ {ds : List D} {vs : List V}, PuA K G ds vs → DpAll K G vs ds
  | _, _, .nil => .nil
  | _, _, .cons a b => .cons (Pu.dp a) (PuA.dp b)
end
theorem PuA.length : ∀ {ds : List D} {vs : List V}, PuA K G ds vs → ds.length = vs.length
  | _, _, .nil => rfl
  | _, _, .cons _ b => congrArg Nat.succ (PuA.length b)
theorem PuA.get : ∀ {ds : List D} {vs : List V} {i : Nat} {d : D}, PuA K G ds vs → ds[i]? = some d → ∃ v, vs[i]? = some v ∧ Pu K G d v
  | _, _, _, _, .nil, e => by simp at e
  | _, _, 0, _, .cons a _, e => by simp at e; subst e; exact ⟨_, rfl, a⟩
  | _, _, i + 1, _, .cons _ b, e => by
    obtain ⟨v, h1, h2⟩ := PuA.get (i := i) b (by simpa using e)
    exact ⟨v, by simpa using h1, h2⟩
theorem PuA.getv : ∀ {ds : List D} {vs : List V} {i : Nat} {v : V}, PuA K G ds vs → vs[i]? = some v → ∃ d, ds[i]? = some d ∧ Pu K G d v
  | _, _, _, _, .nil, e => by simp at e
  | _, _, 0, _, .cons a _, e => by simp at e; subst e; exact ⟨_, rfl, a⟩
  | _, _, i + 1, _, .cons _ b, e => by
    obtain ⟨v, h1, h2⟩ := PuA.getv (i := i) b (by simpa using e)
    exact ⟨v, by simpa using h1, h2⟩
theorem PuA.append : ∀ {ds es : List D} {vs ws : List V}, PuA K G ds vs → PuA K G es ws → PuA K G (ds ++ es) (vs ++ ws)
  | _, _, _, _, .nil, s => s
  | _, _, _, _, .cons a b, s => .cons a (PuA.append b s)
theorem PuA.take : ∀ {ds : List D} {vs : List V} (n : Nat), PuA K G ds vs → PuA K G (ds.take n) (vs.take n)
  | _, _, 0, _ => .nil
  | _, _, _ + 1, .nil => .nil
  | _, _, n + 1, .cons a b => .cons a (PuA.take n b)
theorem PuA.drop : ∀ {ds : List D} {vs : List V} (n : Nat), PuA K G ds vs → PuA K G (ds.drop n) (vs.drop n)
  | _, _, 0, r => r
  | _, _, _ + 1, .nil => .nil
  | _, _, n + 1, .cons _ b => PuA.drop n b
theorem PuA.set {d : D} {v : V} (r : Pu K G d v) : ∀ {ds : List D} {vs : List V} (i : Nat), PuA K G ds vs → PuA K G (ds.set i d) (vs.set i v)
  | _, _, _, .nil => .nil
  | _, _, 0, .cons _ b => .cons r b
  | _, _, i + 1, .cons a b => .cons a (PuA.set r i b)
theorem PuA.eraseIdx : ∀ {ds : List D} {vs : List V} (i : Nat), PuA K G ds vs → PuA K G (ds.eraseIdx i) (vs.eraseIdx i)
  | _, _, _, .nil => .nil
  | _, _, 0, .cons _ b => b
  | _, _, i + 1, .cons a b => .cons a (PuA.eraseIdx i b)
theorem PuA.dropLast {ds : List D} {vs : List V} (h : PuA K G ds vs) : PuA K G ds.dropLast vs.dropLast := by
  rw [List.dropLast_eq_take, List.dropLast_eq_take, h.length]
  exact PuA.take _ h
theorem PuA.reverse : ∀ {ds : List D} {vs : List V}, PuA K G ds vs → PuA K G ds.reverse vs.reverse
  | _, _, .nil => .nil
  | _, _, .cons a b => by
    rw [List.reverse_cons, List.reverse_cons]
    exact PuA.append (PuA.reverse b) (.cons a .nil)
theorem PuA.rep {ds : List D} {vs : List V} (h : PuA K G ds vs) : ∀ k : Nat, PuA K G (repL k ds) (List.replicate k vs).flatten
  | 0 => .nil
  | k + 1 => by
    rw [List.replicate_succ, List.flatten_cons]
    exact PuA.append h (PuA.rep h k)
theorem repL_length (ds : List D) : ∀ k, (repL k ds).length = k * ds.length
  | 0 => by simp [repL]
  | k + 1 => by simp only [repL, List.length_append, repL_length ds k]; rw [Nat.succ_mul, Nat.add_comm]
end

/-! ### the slots -/
/-- what the def's entry told: the addresses of the lists handed in, the heap -/
structure Gam where
  τ : Nat → Addr
  h0 : Hp

def ScrR (K : PySem.W.Frag) (H : Hp) (a : Addr) (ys : List V) : Prop := (∃ o, H a = some (.frz o (.lst ys))) ∨ ∀ H' : Hp, SqL K H' a ys
theorem ScrR.sq {K : PySem.W.Frag} {H : Hp} {a : Addr} {ys : List V} (h : ScrR K H a ys) : SqL K H a ys := by
  rcases h with ⟨o, h⟩ | h
  · exact .inl (.inr ⟨o, h⟩)
  · exact h H
def SlotR (K : PySem.W.Frag) (γ : Gam) (G H : Hp) (x : Option (Option V)) : Sl → Prop
  | .emp => True
  | .val d => ∃ v, x = some (some v) ∧ Pu K G d v
  | .own t xs => ∃ a ys, x = some (some (.ref a)) ∧ G a = none ∧ H a = some (.lst ys) ∧ PuA K G xs ys ∧ (t = 0 → γ.h0 a = none) ∧ (t ≠ 0 → a = γ.τ t)
  | .scr t xs => ∃ a ys, x = some (some (.ref a)) ∧ ScrR K H a ys ∧ PuA K G xs ys
/-- slot i holds a list at a -/
def OwnAt (env : Ev) (σ : L2.St) (i : Nat) (a : Addr) : Prop := (∃ t xs, env[i]? = some (.own t xs)) ∧ σ[i]? = some (some (.ref a))
def Ow (env : Ev) (σ : L2.St) (a : Addr) : Prop := ∃ i, OwnAt env σ i a

structure Sr (K : PySem.W.Frag) (γ : Gam) (G H : Hp) (env : Ev) (σ : L2.St) : Prop where
  sub : Sub G H
  len : env.length = σ.length
  slot : ∀ (i : Nat) (s : Sl), env[i]? = some s → SlotR K γ G H (σ[i]?) s
  inj : ∀ i j a, OwnAt env σ i a → OwnAt env σ j a → i = j

/-- from one moment to a later one: what was told stays, what no slot held is as it was -/
structure Step (O : Addr → Prop) (G H : Hp) (O' : Addr → Prop) (G' H' : Hp) : Prop where
  g : Sub G G'
  h : ∀ a o, H a = some o → ¬ O a → H' a = some o
  n : ∀ a, H a ≠ none → G a = none → ¬ O a → G' a = none
  f : ∀ a, H a ≠ none → H' a ≠ none
  o : ∀ a, O' a → O a ∨ H a = none
section
variable {O O1 O2 : Addr → Prop} {G H G1 H1 G2 H2 : Hp}
theorem Step.refl : Step O G H O G H := ⟨Sub.refl G, fun _ _ e _ => e, fun _ _ e _ => e, fun _ e => e, fun _ h => .inl h⟩
theorem Step.trans (a : Step O G H O1 G1 H1) (b : Step O1 G1 H1 O2 G2 H2) : Step O G H O2 G2 H2 := by
  have key : ∀ x, H x ≠ none → ¬ O x → ¬ O1 x := fun x hx ho h1 => (a.o x h1).elim ho hx
  refine ⟨a.g.trans b.g, fun x o e ho => ?_, fun x hx hg ho => ?_, fun x hx => b.f x (a.f x hx), fun x h2 => ?_⟩
  · exact b.h x o (a.h x o e ho) (key x (by rw [e]; simp) ho)
  · exact b.n x (a.f x hx) (a.n x hx hg ho) (key x hx ho)
  · rcases b.o x h2 with h1 | h1
    · exact a.o x h1
    · refine .inr ?_
      cases q : H x with
      | none => rfl
      | some u => exact absurd h1 (a.f x (by rw [q]; simp))
end

section
variable {K : PySem.W.Frag} {γ : Gam} {G H G' H' : Hp} {env : Ev} {σ : L2.St}
theorem Sr.ow_at (s : Sr K γ G H env σ) {i t : Nat} {xs : List D} (e : env[i]? = some (.own t xs)) : ∃ a ys, σ[i]? = some (some (.ref a)) ∧ G a = none ∧ H a = some (.lst ys) ∧ PuA K G xs ys ∧ OwnAt env σ i a := by
  obtain ⟨a, ys, h1, h2, h3, h4, _⟩ := s.slot i _ e
  exact ⟨a, ys, h1, h2, h3, h4, ⟨t, xs, e⟩, h1⟩
theorem Sr.ow_some (s : Sr K γ G H env σ) {a : Addr} (h : Ow env σ a) : G a = none ∧ ∃ ys, H a = some (.lst ys) := by
  obtain ⟨i, ⟨t, xs, e⟩, h1⟩ := h
  obtain ⟨b, ys, h2, h3, h4, _⟩ := s.ow_at e
  rw [h1] at h2; cases h2
  exact ⟨h3, ys, h4⟩
/-- a new object, not told yet -/
theorem Sr.newH (s : Sr K γ G H env σ) {p : Addr} {o : HO} (hp : H p = none) : Sr K γ G (upd H p o) env σ := by
  have up : Sub H (upd H p o) := fun a u e => by rw [upd_ne (ne_of_none e hp)]; exact e
  refine ⟨s.sub.trans up, s.len, fun i sl e => ?_, s.inj⟩
  have q := s.slot i sl e
  cases sl with
  | emp => trivial
  | val d => exact q
  | own t xs =>
    obtain ⟨a, ys, h1, h2, h3, h4, h5⟩ := q
    exact ⟨a, ys, h1, h2, up _ _ h3, h4, h5⟩
  | scr t xs =>
    obtain ⟨a, ys, h1, h2, h3⟩ := q
    refine ⟨a, ys, h1, ?_, h3⟩
    rcases h2 with ⟨o, h2⟩ | h2
    · exact .inl ⟨o, up _ _ h2⟩
    · exact .inr h2
theorem Step.newH {O : Addr → Prop} {p : Addr} {o : HO} (hp : H p = none) : Step O G H O G (upd H p o) := by
  refine ⟨Sub.refl G, fun a u e _ => by rw [upd_ne (ne_of_none e hp)]; exact e, fun _ _ e _ => e, fun a e => ?_, fun _ h => .inl h⟩
  by_cases q : a = p
  · rw [q, upd_same]; simp
  · rw [upd_ne q]; exact e
theorem Sr.gnone (s : Sr K γ G H env σ) {p : Addr} (hp : H p = none) : G p = none := by
  cases q : G p with
  | none => rfl
  | some u => rw [s.sub _ _ q] at hp; cases hp
/-- an object told: it stands, and no slot holds it -/
theorem Sr.tell (s : Sr K γ G H env σ) {p : Addr} {o : HO} (hp : H p = some o) (hg : G p = none) (no : ¬ Ow env σ p) : Sr K γ (upd G p o) H env σ := by
  have up : Sub G (upd G p o) := fun a u e => by rw [upd_ne (ne_of_none e hg)]; exact e
  refine ⟨fun a u e => ?_, s.len, fun i sl e => ?_, s.inj⟩
  · by_cases q : a = p
    · subst q; rw [upd_same] at e; cases e; exact hp
    · rw [upd_ne q] at e; exact s.sub _ _ e
  · have q := s.slot i sl e
    cases sl with
    | emp => trivial
    | val d =>
      obtain ⟨v, h1, h2⟩ := q
      exact ⟨v, h1, h2.mono up⟩
    | own t xs =>
      obtain ⟨a, ys, h1, h2, h3, h4, h5⟩ := q
      refine ⟨a, ys, h1, ?_, h3, h4.mono up, h5⟩
      rw [upd_ne (fun z => no (by subst z; exact ⟨i, ⟨t, xs, e⟩, h1⟩))]
      exact h2
    | scr t xs =>
      obtain ⟨a, ys, h1, h2, h3⟩ := q
      exact ⟨a, ys, h1, h2, h3.mono up⟩
theorem sub_tell {p : Addr} {o : HO} (hg : G p = none) : Sub G (upd G p o) := fun a u e => by rw [upd_ne (ne_of_none e hg)]; exact e
/-- what is told was new, or nobody's -/
theorem Step.tell {O O1 : Addr → Prop} {Gs Hs : Hp} {p : Addr} {o : HO} (st : Step O Gs Hs O1 G H) (hs : Hs p = none ∨ O p) (hg : G p = none) : Step O Gs Hs O1 (upd G p o) H := by
  refine ⟨st.g.trans (sub_tell hg), st.h, fun a h1 h2 h3 => ?_, st.f, st.o⟩
  rw [upd_ne (fun z => ?_)]
  · exact st.n a h1 h2 h3
  · subst z
    exact hs.elim h1 h3
end

/-! ### operands -/
def OpdR (K : PySem.W.Frag) (G H : Hp) (env : Ev) (σ : L2.St) (Hs : Hp) (x : V) : Opd → Prop
  | .pu d => Pu K G d x
  | .bo i => σ[i]? = some (some x)
  | .fr xs => ∃ a ys, x = .ref a ∧ G a = none ∧ H a = some (.lst ys) ∧ PuA K G xs ys ∧ ¬ Ow env σ a ∧ Hs a = none
  | .fo xs => ∃ a ys, x = .ref a ∧ G a = none ∧ H a = some (.lst ys) ∧ PuA K G xs ys ∧ ¬ Ow env σ a ∧ Hs a = none
section
variable {K : PySem.W.Frag} {γ : Gam} {G H G' H' Hs Hs' : Hp} {env env' : Ev} {σ : L2.St} {x : V} {o : Opd}
/-- later -/
theorem OpdR.later (r : OpdR K G H env σ Hs x o) (st : Step (Ow env σ) G H (Ow env' σ) G' H') : OpdR K G' H' env' σ Hs x o := by
  cases o with
  | pu d => exact Pu.mono st.g r
  | bo i => exact r
  | fr xs =>
    obtain ⟨a, ys, rfl, h1, h2, h3, h4, h5⟩ := r
    refine ⟨a, ys, rfl, st.n a (by rw [h2]; simp) h1 h4, st.h a _ h2 h4, h3.mono st.g, fun z => ?_, h5⟩
    exact (st.o a z).elim h4 (by rw [h2]; simp)
  | fo xs =>
    obtain ⟨a, ys, rfl, h1, h2, h3, h4, h5⟩ := r
    refine ⟨a, ys, rfl, st.n a (by rw [h2]; simp) h1 h4, st.h a _ h2 h4, h3.mono st.g, fun z => ?_, h5⟩
    exact (st.o a z).elim h4 (by rw [h2]; simp)
theorem OpdR.start (r : OpdR K G H env σ Hs x o) (h : ∀ a, Hs a = none → Hs' a = none) : OpdR K G H env σ Hs' x o := by
  cases o with
  | pu d => exact r
  | bo i => exact r
  | fr xs => obtain ⟨a, ys, h1, h2, h3, h4, h5, h6⟩ := r; exact ⟨a, ys, h1, h2, h3, h4, h5, h _ h6⟩
  | fo xs => obtain ⟨a, ys, h1, h2, h3, h4, h5, h6⟩ := r; exact ⟨a, ys, h1, h2, h3, h4, h5, h _ h6⟩
/-- what is read now -/
inductive Rdv (K : PySem.W.Frag) (G H : Hp) : D → V → Prop
  | pu {d : D} {x : V} : Pu K G d x → Rdv K G H d x
  | li {xs : List D} {ys : List V} {a : Addr} : H a = some (.lst ys) → PuA K G xs ys → Rdv K G H (.list xs) (.ref a)
theorem Rdv.list {d : D} {xs : List D} (s : Sub G H) (r : Rdv K G H d x) (e : d = .list xs) : ∃ a ys, x = .ref a ∧ H a = some (.lst ys) ∧ PuA K G xs ys := by
  subst e
  cases r with
  | pu p => cases p with
    | lst h q => exact ⟨_, _, rfl, s _ _ h, q⟩
  | li h q => exact ⟨_, _, rfl, h, q⟩
theorem Rdv.tuple {d : D} {xs : List D} (r : Rdv K G H d x) (e : d = .tuple xs) : ∃ a ys, x = .ref a ∧ SqT K G a ys ∧ PuA K G xs ys := by
  subst e
  cases r with
  | pu p => cases p with
    | tup h q => exact ⟨_, _, rfl, h, q⟩
theorem Rdv.int {d : D} {i : Int} (r : Rdv K G H d x) (e : d = .int i) : x = .int i := by
  subst e
  cases r with
  | pu p => cases p; rfl
theorem Rdv.bl {d : D} {i : Bool} (r : Rdv K G H d x) (e : d = .bool i) : x = .bl i := by
  subst e
  cases r with
  | pu p => cases p; rfl
theorem Rdv.str {d : D} {i : Str} (r : Rdv K G H d x) (e : d = .str i) : x = .str i := by
  subst e
  cases r with
  | pu p => cases p; rfl
theorem Rdv.dp {d : D} (s : Sub G H) (r : Rdv K G H d x) : Dp K H x d := by
  cases r with
  | pu p => exact (p.mono s).dp
  | li h q => exact .lst (SqL.of h) (q.mono s).dp
theorem rdp_ok (s : Sr K γ G H env σ) (r : OpdR K G H env σ Hs x o) {d : D} (e : rdp env o = some d) : Rdv K G H d x := by
  cases o with
  | pu d' =>
    have e' : d' = d := by simpa [rdp] using e
    subst e'
    exact .pu r
  | fr xs =>
    have e' : PyData.list xs = d := by simpa [rdp] using e
    subst e'
    obtain ⟨a, ys, rfl, h1, h2, h3, _⟩ := r
    exact .li h2 h3
  | fo xs => simp [rdp] at e
  | bo i =>
    have r' : σ[i]? = some (some x) := r
    simp only [rdp] at e
    split at e
    · rename_i t xs q
      cases e
      obtain ⟨a, ys, h1, h2, h3, h4, _⟩ := s.ow_at q
      rw [r'] at h1; cases h1
      exact .li h3 h4
    · cases e
/-- .. the script too -/
inductive Rds (K : PySem.W.Frag) (G H : Hp) : D → V → Prop
  | rd {d : D} {x : V} : Rdv K G H d x → Rds K G H d x
  | sc {xs : List D} {ys : List V} {a : Addr} : SqL K H a ys → PuA K G xs ys → Rds K G H (.list xs) (.ref a)
theorem Rds.list {d : D} {xs : List D} (s : Sub G H) (r : Rds K G H d x) (e : d = .list xs) : ∃ a ys, x = .ref a ∧ SqL K H a ys ∧ PuA K G xs ys := by
  cases r with
  | rd r =>
    obtain ⟨a, ys, h1, h2, h3⟩ := r.list s e
    exact ⟨a, ys, h1, SqL.of h2, h3⟩
  | sc h q =>
    cases e
    exact ⟨_, _, rfl, h, q⟩
theorem Rds.dp {d : D} (s : Sub G H) (r : Rds K G H d x) : Dp K H x d := by
  cases r with
  | rd r => exact r.dp s
  | sc h q => exact .lst h (q.mono s).dp
theorem rds_ok (s : Sr K γ G H env σ) (r : OpdR K G H env σ Hs x o) {d : D} (e : rds env o = some d) : Rds K G H d x := by
  cases o with
  | pu d' => exact .rd (rdp_ok s r (by simpa [rdp, rds] using e))
  | fr xs => exact .rd (rdp_ok s r (by simpa [rdp, rds] using e))
  | fo xs => simp [rds] at e
  | bo i =>
    have r' : σ[i]? = some (some x) := r
    simp only [rds] at e
    split at e
    · rename_i t xs q
      exact .rd (rdp_ok s r (by simp only [rdp, q]; exact e))
    · rename_i t xs q
      cases e
      obtain ⟨a, ys, h1, h2, h3⟩ := s.slot i _ q
      rw [r'] at h1; cases h1
      exact .sc h2.sq h3
    · cases e
/-- frozen: told from now on -/
theorem frz_ok {O : Addr → Prop} (s : Sr K γ G H env σ) (st : Step O G' H' (Ow env σ) G H) (r : OpdR K G H env σ H' x o) {d : D} (e : frzd o = some d) :
    ∃ G1, Sr K γ G1 H env σ ∧ Step O G' H' (Ow env σ) G1 H ∧ Sub G G1 ∧ Pu K G1 d x ∧ (∀ b, H b ≠ none → G1 b = G b ∨ x = .ref b) := by
  cases o with
  | pu d' =>
    have e' : d' = d := by simpa [frzd] using e
    subst e'
    exact ⟨G, s, st, Sub.refl G, r, fun _ _ => .inl rfl⟩
  | fr xs =>
    have e' : PyData.list xs = d := by simpa [frzd] using e
    subst e'
    obtain ⟨a, ys, rfl, h1, h2, h3, h4, h5⟩ := r
    refine ⟨upd G a (.lst ys), s.tell h2 h1 h4, st.tell (.inl h5) h1, sub_tell h1, .lst upd_same (h3.mono (sub_tell h1)), fun b _ => ?_⟩
    by_cases q : b = a
    · exact .inr (by rw [q])
    · exact .inl (upd_ne q)
  | bo i => simp [frzd] at e
  | fo xs => simp [frzd] at e
end
end Rf

set_option Elab.async false
set_option linter.all false
set_option maxRecDepth 100000
set_option maxHeartbeats 4000000
namespace Rf
open PySem PySem.Spec PyProof.Rows L2

/-- only new objects came -/
structure Ext (G H G' H' : Hp) : Prop where
  g : Sub G G'
  h : Sub H H'
  s : Sub G' H'
  n : ∀ a, H a ≠ none → G a = none → G' a = none
theorem Ext.refl {G H : Hp} (s : Sub G H) : Ext G H G H := ⟨Sub.refl G, Sub.refl H, s, fun _ _ e => e⟩
theorem up_sub {H : Hp} {p : Addr} {o : HO} (hp : H p = none) : Sub H (upd H p o) := fun a u e => by rw [upd_ne (ne_of_none e hp)]; exact e
theorem none_of {G H : Hp} (s : Sub G H) {p : Addr} (hp : H p = none) : G p = none := by
  cases q : G p with
  | none => rfl
  | some u => rw [s _ _ q] at hp; cases hp
theorem Ext.newH {G H : Hp} (s : Sub G H) {p : Addr} {o : HO} (hp : H p = none) : Ext G H G (upd H p o) := ⟨Sub.refl G, up_sub hp, s.trans (up_sub hp), fun _ _ e => e⟩
theorem Ext.newG {G H : Hp} (s : Sub G H) {p : Addr} {o : HO} (hp : H p = none) : Ext G H (upd G p o) (upd H p o) := by
  refine ⟨up_sub (none_of s hp), up_sub hp, fun a u e => ?_, fun a h1 h2 => ?_⟩
  · by_cases q : a = p
    · subst q; rw [upd_same] at e ⊢; exact e
    · rw [upd_ne q] at e ⊢; exact s _ _ e
  · rw [upd_ne (fun z => by subst z; exact h1 hp)]; exact h2
theorem Ext.trans {G H G1 H1 G2 H2 : Hp} (a : Ext G H G1 H1) (b : Ext G1 H1 G2 H2) : Ext G H G2 H2 :=
  ⟨a.g.trans b.g, a.h.trans b.h, b.s, fun x h1 h2 => b.n x (by
    cases q : H x with
    | none => exact absurd q h1
    | some u => rw [a.h _ _ q]; simp) (a.n x h1 h2)⟩
section
variable {K : PySem.W.Frag} {γ : Gam} {G H G' H' : Hp} {env : Ev} {σ : L2.St}
theorem Sr.ext (s : Sr K γ G H env σ) (x : Ext G H G' H') : Sr K γ G' H' env σ := by
  refine ⟨x.s, s.len, fun i sl e => ?_, s.inj⟩
  have q := s.slot i sl e
  cases sl with
  | emp => trivial
  | val d => obtain ⟨v, h1, h2⟩ := q; exact ⟨v, h1, h2.mono x.g⟩
  | own t xs =>
    obtain ⟨a, ys, h1, h2, h3, h4, h5⟩ := q
    exact ⟨a, ys, h1, x.n a (by rw [h3]; simp) h2, x.h _ _ h3, h4.mono x.g, h5⟩
  | scr t xs =>
    obtain ⟨a, ys, h1, h2, h3⟩ := q
    refine ⟨a, ys, h1, ?_, h3.mono x.g⟩
    rcases h2 with ⟨o, h2⟩ | h2
    · exact .inl ⟨o, x.h _ _ h2⟩
    · exact .inr h2
theorem Step.ext {O : Addr → Prop} (x : Ext G H G' H') : Step O G H O G' H' :=
  ⟨x.g, fun a o e _ => x.h a o e, fun a h1 h2 _ => x.n a h1 h2, fun a h1 => by
    cases q : H a with
    | none => exact absurd q h1
    | some u => rw [x.h _ _ q]; simp, fun _ h => .inl h⟩
end
/-- what came of an operation -/
def ResR (K : PySem.W.Frag) (G H Hs : Hp) (x : V) : Opd → Prop
  | .pu d => Pu K G d x
  | .fr xs => ∃ a ys, x = .ref a ∧ G a = none ∧ H a = some (.lst ys) ∧ PuA K G xs ys ∧ Hs a = none
  | _ => False
def RQ (K : PySem.W.Frag) (G H : Hp) (res : Opd) (Q : VK) : Prop := ∀ G' H' x, Ext G H G' H' → ResR K G' H' H x res → Q x H'
section
variable {K : PySem.W.Frag} {γ : Gam} {G H G' H' Hs : Hp} {env : Ev} {σ : L2.St} {Q : VK} {x : V} {d : D} {xs : List D} {ys : List V}
theorem RQ.pu (q : RQ K G H (.pu d) Q) (s : Sub G H) (r : Pu K G d x) : Q x H := q G H x (Ext.refl s) r
theorem RQ.fr (q : RQ K G H (.fr xs) Q) (s : Sub G H) (r : PuA K G xs ys) {p : Addr} (hp : H p = none) : Q (.ref p) (upd H p (.lst ys)) :=
  q G _ _ (Ext.newH s hp) ⟨p, ys, rfl, none_of s hp, upd_same, r, hp⟩
theorem RQ.tup (q : RQ K G H (.pu (.tuple xs)) Q) (s : Sub G H) (r : PuA K G xs ys) {p : Addr} (hp : H p = none) : Q (.ref p) (upd H p (.tup ys)) :=
  q (upd G p (.tup ys)) _ _ (Ext.newG s hp) (.tup (SqT.of upd_same) (r.mono (up_sub (none_of s hp))))
theorem no_ow (s : Sr K γ G H env σ) {a : Addr} (h : H a = none) : ¬ Ow env σ a := fun z => by
  obtain ⟨_, ys, e⟩ := s.ow_some z
  rw [h] at e; cases e
theorem opd_of (s : Sr K γ G H env σ) {o : Opd} (x' : Ext G H G' H') (r : ResR K G' H' H x o) : OpdR K G' H' env σ H x o := by
  cases o with
  | pu d => exact r
  | fr xs =>
    obtain ⟨a, ys, h1, h2, h3, h4, h5⟩ := r
    exact ⟨a, ys, h1, h2, h3, h4, no_ow s h5, h5⟩
  | bo i => exact r.elim
  | fo xs => exact r.elim
end
theorem lenOk_le {n : Nat} (h : lenOk n = true) : n ≤ sizeLine := by
  rw [sizeLine_eq]; exact Nat.le_of_ble_eq_true h
theorem small_bd {i : Int} (h : small64 i = true) : -(2 ^ 64) < i ∧ i < 2 ^ 64 := by
  have h1 : i.natAbs < 18446744073709551616 := by
    unfold small64 at h
    exact Nat.le_of_ble_eq_true h
  omega
theorem ands {a b : Bool} (h : (a && b) = true) : a = true ∧ b = true := by simpa using h
theorem mulOk_ok {i j : Int} (h : mulOk i j = true) : IntMulOk i j := by
  unfold mulOk at h
  simp only [Bool.or_eq_true] at h
  rcases h with (h | h) | h
  · exact L2.CMul.ok (.inl (small_bd h))
  · exact L2.CMul.ok (.inr (small_bd h))
  · exact L2.CMulW.ok (show i.natAbs.log2 + j.natAbs.log2 < 1000000 from Nat.le_of_ble_eq_true h)

/-! ### operators -/
def rBin (K : PySem.W.Frag) (o : BOp) : R2 := fun x y H Q => ∃ G p q res, Sub G H ∧ Rdv K G H p x ∧ Rdv K G H q y ∧ binV o p q = some res ∧ RQ K G H res Q
def bopOf : BOp → Operator
  | .add => .Add | .sub => .Sub | .mul => .Mult | .fdiv => .FloorDiv | .mod => .Mod | .pow => .Pow
section
variable {X : Cx}
theorem op_mulI : OpR X (binaryOp .Mult) (rI (fun i j => mulOk i j = true) fun i j => .int (i * j)) := opI fun _ _ _ _ _ _ _ hc q => mul_int q (mulOk_ok hc)
theorem op_bin (o : BOp) : OpR X (binaryOp (bopOf o)) (rBin X.K o) := by
  intro pins s σ H x y v u Q I rx ry h
  obtain ⟨G, p, q, res, sb, rp, rq, e, hq⟩ := h
  have fin : ∀ {d : D} {z : V}, res = .pu d → Pu X.K G d z → Q z H := fun {d z} e1 e2 => by subst e1; exact RQ.pu hq sb e2
  cases o with
  | add =>
    cases p <;> cases q <;> simp only [binV] at e <;> (try cases e)
    · have e1 := rp.int rfl; have e2 := rq.int rfl; subst e1; subst e2
      exact L2.op_add pins s σ H _ _ v u Q I rx ry ⟨_, _, rfl, rfl, fin rfl (.int _)⟩
    · rename_i a b
      have e1 := rp.str rfl; have e2 := rq.str rfl; subst e1; subst e2
      split at e <;> (try cases e)
      rename_i hz
      exact L2.op_add_str pins s σ H _ _ v u Q I rx ry ⟨_, _, rfl, rfl, lenOk_le hz, fin rfl (.str _)⟩
    · rename_i a b
      split at e <;> (try cases e)
      rename_i hz
      obtain ⟨l, ys, rfl, h1, h2⟩ := rp.list sb rfl
      obtain ⟨m, zs, rfl, h3, h4⟩ := rq.list sb rfl
      exact L2.op_cat pins s σ H _ _ v u Q I rx ry ⟨l, m, ys, zs, rfl, rfl, h1, h3, by rw [← h2.length, ← h4.length]; exact lenOk_le hz, fun p hp => RQ.fr hq sb (h2.append h4) hp⟩
    · rename_i a b
      split at e <;> (try cases e)
      rename_i hz
      obtain ⟨l, ys, rfl, h1, h2⟩ := rp.tuple rfl
      obtain ⟨m, zs, rfl, h3, h4⟩ := rq.tuple rfl
      have hz' : ys.length + zs.length ≤ sizeLine := by rw [← h2.length, ← h4.length]; exact lenOk_le hz
      have r1 : Pu X.K G (.tuple a) (.ref l) := .tup h1 h2
      have r2 : Pu X.K G (.tuple b) (.ref m) := .tup h3 h4
      refine L2.op_catA pins s σ H _ _ v u Q I rx ry ⟨l, m, ys, zs, rfl, rfl, sqT_sub sb h1, sqT_sub sb h3, hz', fun e1 => ?_, fun _ e2 => ?_, fun _ _ p hp => RQ.tup hq sb (h2.append h4) hp⟩
      · subst e1
        cases h2
        exact fin rfl r2
      · subst e2
        cases h4
        exact fin (by rw [List.append_nil]) r1
  | sub =>
    cases p <;> cases q <;> simp only [binV] at e <;> (try cases e)
    have e1 := rp.int rfl; have e2 := rq.int rfl; subst e1; subst e2
    exact L2.op_sub pins s σ H _ _ v u Q I rx ry ⟨_, _, rfl, rfl, fin rfl (.int _)⟩
  | mul =>
    cases p <;> cases q <;> simp only [binV] at e <;> (try cases e)
    · have e1 := rp.int rfl; have e2 := rq.int rfl; subst e1; subst e2
      split at e <;> (try cases e)
      rename_i hz
      exact op_mulI pins s σ H _ _ v u Q I rx ry ⟨_, _, rfl, rfl, hz, fin rfl (.int _)⟩
    · rename_i a k
      split at e <;> (try cases e)
      rename_i hz
      obtain ⟨hz1, hz4⟩ := ands hz
      obtain ⟨hz2, hz3⟩ := ands hz1
      obtain ⟨_, hz2⟩ := ands hz2
      obtain ⟨l, ys, rfl, h1, h2⟩ := rp.list sb rfl
      have e2 := rq.int rfl; subst e2
      have b1 := of_decide_eq_true hz2
      have b2 := of_decide_eq_true hz3
      exact L2.op_rep pins s σ H _ _ v u Q I rx ry ⟨l, k, ys, rfl, rfl, h1, by omega, by omega, by rw [← h2.length]; exact lenOk_le hz4, fun p hp => RQ.fr hq sb (h2.rep _) hp⟩
    · rename_i a k
      split at e <;> (try cases e)
      rename_i hz
      obtain ⟨hz1, hz4⟩ := ands hz
      obtain ⟨hz2, hz3⟩ := ands hz1
      obtain ⟨hz0, hz2⟩ := ands hz2
      obtain ⟨l, ys, rfl, h1, h2⟩ := rp.tuple rfl
      have e2 := rq.int rfl; subst e2
      have b1 := of_decide_eq_true hz0
      have b2 := of_decide_eq_true hz2
      have b3 : a.length ≤ 1000 := Nat.le_of_ble_eq_true hz3
      refine L2.op_repT pins s σ H _ _ v u Q I rx ry ⟨l, k, ys, rfl, rfl, sqT_sub sb h1, ?_, b1, b2, by rw [← h2.length]; exact b3, fun p hp => RQ.tup hq sb (h2.rep _) hp⟩
      rintro rfl
      cases h2
      simp at hz4
  | fdiv =>
    cases p <;> cases q <;> simp only [binV] at e <;> (try cases e)
    have e1 := rp.int rfl; have e2 := rq.int rfl; subst e1; subst e2
    split at e <;> (try cases e)
    rename_i hz
    obtain ⟨h1, h2⟩ := ands hz
    exact L2.op_fdivW pins s σ H _ _ v u Q I rx ry ⟨_, _, rfl, rfl, ⟨of_decide_eq_true h1, Nat.le_of_ble_eq_true h2⟩, fin rfl (.int _)⟩
  | mod =>
    cases p <;> cases q <;> simp only [binV] at e <;> (try cases e)
    have e1 := rp.int rfl; have e2 := rq.int rfl; subst e1; subst e2
    split at e <;> (try cases e)
    rename_i hz
    exact L2.op_mod pins s σ H _ _ v u Q I rx ry ⟨_, _, rfl, rfl, of_decide_eq_true hz, fin rfl (.int _)⟩
  | pow =>
    cases p <;> cases q <;> simp only [binV] at e <;> (try cases e)
    have e1 := rp.int rfl; have e2 := rq.int rfl; subst e1; subst e2
    split at e <;> (try cases e)
    rename_i hz
    obtain ⟨h12, h3⟩ := ands hz
    obtain ⟨h1, h2⟩ := ands h12
    refine L2.op_pow pins s σ H _ _ v u Q I rx ry ⟨_, _, rfl, rfl, ⟨of_decide_eq_true h1, of_decide_eq_true h2, ?_⟩, fin rfl (.int _)⟩
    exact Nat.le_of_ble_eq_true h3
end
end Rf

set_option Elab.async false
set_option linter.all false
set_option maxRecDepth 100000
set_option maxHeartbeats 4000000
namespace Rf
open PySem PySem.Spec PyProof.Rows L2
section
variable {K : PySem.W.Frag} {G H : Hp} {x : V} {d : D}
theorem Rds.tuple {xs : List D} (r : Rds K G H d x) (e : d = .tuple xs) : ∃ a ys, x = .ref a ∧ SqT K G a ys ∧ PuA K G xs ys := by
  cases r with
  | rd r => exact r.tuple e
  | sc h q => cases e
theorem Rds.int {i : Int} (r : Rds K G H d x) (e : d = .int i) : x = .int i := by
  cases r with
  | rd r => exact r.int e
  | sc h q => cases e
theorem Rds.bl {i : Bool} (r : Rds K G H d x) (e : d = .bool i) : x = .bl i := by
  cases r with
  | rd r => exact r.bl e
  | sc h q => cases e
theorem Rds.str {i : Str} (r : Rds K G H d x) (e : d = .str i) : x = .str i := by
  cases r with
  | rd r => exact r.str e
  | sc h q => cases e
theorem Rds.non (r : Rds K G H d x) (e : d = .none) : x = .non := by
  subst e
  cases r with
  | rd r => cases r with
    | pu p => cases p; rfl
theorem Rds.pu (r : Pu K G d x) : Rds K G H d x := .rd (.pu r)
end

/-! ### comparisons -/
def copOf : COp → CmpOp
  | .eq => .Eq | .ne => .NotEq | .lt => .Lt | .le => .LtE | .gt => .Gt | .ge => .GtE | .isN => .Is | .notN => .IsNot | .isB => .Is | .notB => .IsNot | .mem => .In | .nmem => .NotIn
def rCmpV (K : PySem.W.Frag) (o : COp) : R2 := fun x y H Q => ∃ G p q r, Sub G H ∧ Rds K G H p x ∧ Rds K G H q y ∧ cmpV o p q = some r ∧ Q (.bl r) H
theorem scal_ok {K : PySem.W.Frag} {G H : Hp} {p q : D} {x y : V} {r : Bool} (rp : Rds K G H p x) (rq : Rds K G H q y) (e : scalD p q = some r) : scal x y = true ∧ decide (x = y) = r := by
  cases p <;> cases q <;> simp only [scalD] at e <;> (try cases e)
  all_goals (first
    | (have a := rp.non rfl) | (have a := rp.int rfl) | (have a := rp.bl rfl) | (have a := rp.str rfl))
  all_goals (first
    | (have b := rq.non rfl) | (have b := rq.int rfl) | (have b := rq.bl rfl) | (have b := rq.str rfl))
  all_goals (subst a; subst b; simp [scal])
section
variable {X : Cx}
theorem op_eqV (hu : X.A.units + 65 < cLine) : OpR X (compareOp .Eq) (rCmpV X.K .eq) := by
  intro pins s σ H x y v u Q I rx ry h
  obtain ⟨G, p, q, r, sb, rp, rq, e, hq⟩ := h
  have e' : eqD p q = some r := e
  unfold eqD at e'
  split at e'
  · rename_i k hk
    cases e'
    obtain ⟨h1, h2⟩ := scal_ok rp rq hk
    exact L2.op_eq pins s σ H x y v u Q I rx ry ⟨h1, by rw [h2]; exact hq⟩
  · split at e' <;> (try cases e')
    rename_i hs
    obtain ⟨h1, h2⟩ := ands hs
    exact L2.op_eqD (by omega) pins s σ H x y v u Q I rx ry ⟨p, q, rp.dp sb, rq.dp sb, h1, h2, hq⟩
theorem op_neV (hu : X.A.units + 65 < cLine) : OpR X (compareOp .NotEq) (rCmpV X.K .ne) := by
  intro pins s σ H x y v u Q I rx ry h
  obtain ⟨G, p, q, r, sb, rp, rq, e, hq⟩ := h
  have e0 : (eqD p q).map not = some r := e
  cases e1 : eqD p q with
  | none => rw [e1] at e0; cases e0
  | some k =>
    rw [e1] at e0
    have e2 : (!k) = r := Option.some.inj e0
    subst e2
    have e' : eqD p q = some k := e1
    unfold eqD at e'
    split at e'
    · rename_i k' hk
      cases e'
      obtain ⟨h1, h2⟩ := scal_ok rp rq hk
      exact L2.op_ne pins s σ H x y v u Q I rx ry ⟨h1, by rw [h2]; exact hq⟩
    · split at e' <;> (try cases e')
      rename_i hs
      obtain ⟨h1, h2⟩ := ands hs
      exact L2.op_neD (by omega) pins s σ H x y v u Q I rx ry ⟨p, q, rp.dp sb, rq.dp sb, h1, h2, hq⟩
theorem mem_ok {K : PySem.W.Frag} {G H : Hp} (sb : Sub G H) {p q : D} {x y : V} {r : Bool} (rp : Rds K G H p x) (rq : Rds K G H q y) (e : memD p q = some r) :
    ∃ ds, (q = .list ds ∨ q = .tuple ds) ∧ Dp K H x p ∧ Dp K H y q ∧ SeqAt.shaped p = true ∧ SeqAt.shaped (.list ds) = true ∧ r = ds.any fun z => PyData.eqv z p := by
  cases q <;> simp only [memD] at e <;> (try cases e)
  · split at e <;> (try cases e)
    rename_i ds hs
    obtain ⟨h1, h2⟩ := ands hs
    exact ⟨ds, .inl rfl, rp.dp sb, rq.dp sb, h1, h2, rfl⟩
  · split at e <;> (try cases e)
    rename_i ds hs
    obtain ⟨h1, h2⟩ := ands hs
    exact ⟨ds, .inr rfl, rp.dp sb, rq.dp sb, h1, h2, rfl⟩
theorem op_memV (hu : X.A.units + 65 < cLine) : OpR X (compareOp .In) (rCmpV X.K .mem) := by
  intro pins s σ H x y v u Q I rx ry h
  obtain ⟨G, p, q, r, sb, rp, rq, e, hq⟩ := h
  obtain ⟨ds, hq', dx, dy, h1, h2, rfl⟩ := mem_ok sb rp rq e
  obtain ⟨as, r1⟩ := Dp.reads I p x v dx rx
  obtain ⟨bs, r2⟩ := Dp.reads I q y u dy ry
  rcases hq' with rfl | rfl
  · exact SeqAt.in_list_reads r2 r1 (SeqAt.canLay_of_shaped h2) (SeqAt.canLay_of_shaped h1) (room_in_shaped h1 hu) ⟨.bl _, H, I, rfl, hq⟩
  · exact SeqAt.in_tuple_reads r2 r1 (SeqAt.canLay_of_shaped h2) (SeqAt.canLay_of_shaped h1) (room_in_shaped h1 hu) ⟨.bl _, H, I, rfl, hq⟩
theorem op_nmemV (hu : X.A.units + 65 < cLine) : OpR X (compareOp .NotIn) (rCmpV X.K .nmem) := by
  intro pins s σ H x y v u Q I rx ry h
  obtain ⟨G, p, q, r, sb, rp, rq, e, hq⟩ := h
  have e0 : (memD p q).map not = some r := e
  cases e1 : memD p q with
  | none => rw [e1] at e0; cases e0
  | some k =>
    rw [e1] at e0
    have e2 : (!k) = r := Option.some.inj e0
    subst e2
    obtain ⟨ds, hq', dx, dy, h1, h2, rfl⟩ := mem_ok sb rp rq e1
    obtain ⟨as, r1⟩ := Dp.reads I p x v dx rx
    obtain ⟨bs, r2⟩ := Dp.reads I q y u dy ry
    rcases hq' with rfl | rfl
    · exact SeqAt.notIn_list_reads r2 r1 (SeqAt.canLay_of_shaped h2) (SeqAt.canLay_of_shaped h1) (room_in_shaped h1 hu) ⟨.bl _, H, I, rfl, hq⟩
    · exact SeqAt.notIn_tuple_reads r2 r1 (SeqAt.canLay_of_shaped h2) (SeqAt.canLay_of_shaped h1) (room_in_shaped h1 hu) ⟨.bl _, H, I, rfl, hq⟩
theorem non_iff {K : PySem.W.Frag} {G H : Hp} {p : D} {x : V} (rp : Rds K G H p x) : decide (x = .non) = isNon p := by
  cases rp with
  | rd r => cases r with
    | pu a => cases a <;> simp [isNon]
    | li _ _ => simp [isNon]
  | sc _ _ => simp [isNon]
theorem op_cmpV (hu : X.A.units + 65 < cLine) (o : COp) : OpR X (compareOp (copOf o)) (rCmpV X.K o) := by
  cases o with
  | eq => exact op_eqV hu
  | ne => exact op_neV hu
  | mem => exact op_memV hu
  | nmem => exact op_nmemV hu
  | lt =>
    intro pins s σ H x y v u Q I rx ry h
    obtain ⟨G, p, q, r, sb, rp, rq, e, hq⟩ := h
    cases p <;> cases q <;> simp only [cmpV] at e <;> (try cases e)
    have e1 := rp.int rfl; have e2 := rq.int rfl; subst e1; subst e2
    exact L2.op_lt pins s σ H _ _ v u Q I rx ry ⟨_, _, rfl, rfl, hq⟩
  | le =>
    intro pins s σ H x y v u Q I rx ry h
    obtain ⟨G, p, q, r, sb, rp, rq, e, hq⟩ := h
    cases p <;> cases q <;> simp only [cmpV] at e <;> (try cases e)
    have e1 := rp.int rfl; have e2 := rq.int rfl; subst e1; subst e2
    exact L2.op_le pins s σ H _ _ v u Q I rx ry ⟨_, _, rfl, rfl, hq⟩
  | gt =>
    intro pins s σ H x y v u Q I rx ry h
    obtain ⟨G, p, q, r, sb, rp, rq, e, hq⟩ := h
    cases p <;> cases q <;> simp only [cmpV] at e <;> (try cases e)
    have e1 := rp.int rfl; have e2 := rq.int rfl; subst e1; subst e2
    exact L2.op_gt pins s σ H _ _ v u Q I rx ry ⟨_, _, rfl, rfl, hq⟩
  | ge =>
    intro pins s σ H x y v u Q I rx ry h
    obtain ⟨G, p, q, r, sb, rp, rq, e, hq⟩ := h
    cases p <;> cases q <;> simp only [cmpV] at e <;> (try cases e)
    have e1 := rp.int rfl; have e2 := rq.int rfl; subst e1; subst e2
    exact L2.op_ge pins s σ H _ _ v u Q I rx ry ⟨_, _, rfl, rfl, hq⟩
  | isN =>
    intro pins s σ H x y v u Q I rx ry h
    obtain ⟨G, p, q, r, sb, rp, rq, e, hq⟩ := h
    cases q with
    | none =>
      have e2 := rq.non rfl
      have e' : isNon p = r := Option.some.inj (show some (isNon p) = some r from e)
      exact L2.op_isN pins s σ H x y v u Q I rx ry ⟨e2, by rw [non_iff rp, e']; exact hq⟩
    | _ => simp [cmpV] at e
  | notN =>
    intro pins s σ H x y v u Q I rx ry h
    obtain ⟨G, p, q, r, sb, rp, rq, e, hq⟩ := h
    cases q with
    | none =>
      have e2 := rq.non rfl
      have e' : (!isNon p) = r := Option.some.inj (show some (!isNon p) = some r from e)
      exact L2.op_notN pins s σ H x y v u Q I rx ry ⟨e2, by rw [non_iff rp, e']; exact hq⟩
    | _ => simp [cmpV] at e
  | isB =>
    intro pins s σ H x y v u Q I rx ry h
    obtain ⟨G, p, q, r, sb, rp, rq, e, hq⟩ := h
    cases p <;> cases q <;> simp only [cmpV] at e <;> (try cases e)
    have e1 := rp.bl rfl; have e2 := rq.bl rfl; subst e1; subst e2
    exact L2.op_isBl pins s σ H _ _ v u Q I rx ry ⟨_, _, rfl, rfl, hq⟩
  | notB =>
    intro pins s σ H x y v u Q I rx ry h
    obtain ⟨G, p, q, r, sb, rp, rq, e, hq⟩ := h
    cases p <;> cases q <;> simp only [cmpV] at e <;> (try cases e)
    have e1 := rp.bl rfl; have e2 := rq.bl rfl; subst e1; subst e2
    exact L2.op_notBl pins s σ H _ _ v u Q I rx ry ⟨_, _, rfl, rfl, hq⟩
end

/-! ### items, slices -/
section
variable {X : Cx}
theorem atI_pu {K : PySem.W.Frag} {G : Hp} {xs : List D} {ys : List V} {i : Int} {d : D} (r : PuA K G xs ys) (e : ixOf xs i = some d) : ∃ v, atI ys i = some v ∧ Pu K G d v := by
  have e' : (ixN xs.length i).bind (fun j => xs[j]?) = some d := e
  cases h : ixN xs.length i with
  | none => rw [h] at e'; cases e'
  | some j =>
    rw [h] at e'
    obtain ⟨v, h1, h2⟩ := r.get (show xs[j]? = some d from e')
    refine ⟨v, ?_, h2⟩
    show (ixN ys.length i).bind (fun j => ys[j]?) = some v
    rw [← r.length, h]
    exact h1
def rIdxV (K : PySem.W.Frag) : R2 := fun x y H Q => ∃ G p k r, Sub G H ∧ Rds K G H p x ∧ y = .int k ∧ idxV p (.int k) = some r ∧ ∀ z, Pu K G r z → Q z H
theorem ix_V : IxR X (rIdxV X.K) := by
  intro value slice pins s σ H x y v u Q I rx ry h hs
  obtain ⟨G, p, k, r, sb, rp, rfl, e, hq⟩ := h
  cases p <;> simp only [idxV] at e <;> (try cases e)
  · obtain ⟨a, ys, rfl, h1, h2⟩ := rp.list sb rfl
    obtain ⟨z, h3, h4⟩ := atI_pu h2 e
    exact L2.ix_list value slice pins s σ H _ _ v u Q I rx ry ⟨a, ys, k, z, rfl, rfl, h1, h3, hq z h4⟩ hs
  · obtain ⟨a, ys, rfl, h1, h2⟩ := rp.tuple rfl
    obtain ⟨z, h3, h4⟩ := atI_pu h2 e
    exact L2.ix_tup value slice pins s σ H _ _ v u Q I rx ry ⟨a, ys, k, z, rfl, rfl, sqT_sub sb h1, h3, hq z h4⟩ hs
theorem cut_pu {K : PySem.W.Frag} {G : Hp} {xs : List D} {ys : List V} (r : PuA K G xs ys) (lo hi : Option Int) : PuA K G (cutL xs lo hi) (cutV ys lo hi) := by
  unfold cutL cutV
  rw [r.length]
  exact (r.drop _).take _
def rSlcV (K : PySem.W.Frag) : V → Option Int → Option Int → Hp → VK → Prop := fun x lo hi H Q => ∃ G p res, Sub G H ∧ Rds K G H p x ∧ slcV p lo hi = some res ∧ RQ K G H res Q
theorem sl_V : SlR X (rSlcV X.K) := by
  intro pins s σ H x v vl vu lo hi sl Q I rx hs pl pu h
  obtain ⟨G, p, res, sb, rp, e, hq⟩ := h
  cases p <;> simp only [slcV] at e <;> (try cases e)
  · obtain ⟨a, ys, rfl, h1, h2⟩ := rp.list sb rfl
    exact L2.sl_list pins s σ H _ v vl vu lo hi sl Q I rx hs pl pu ⟨a, ys, rfl, h1, fun q hp => RQ.fr hq sb (cut_pu h2 lo hi) hp⟩
  · obtain ⟨a, ys, rfl, h1, h2⟩ := rp.tuple rfl
    refine L2.sl_tupA pins s σ H _ v vl vu lo hi sl Q I rx hs pl pu ⟨a, ys, rfl, sqT_sub sb h1, fun hw => ?_, fun _ q hp => RQ.tup hq sb (cut_pu h2 lo hi) hp⟩
    refine RQ.pu hq sb (.tup h1 ?_)
    have c := cut_pu h2 lo hi
    have ec : cutV ys lo hi = ys := by
      unfold cutV
      rw [hw.1, hw.2]
      simp
    rw [ec] at c
    exact c
end

/-! ### sorting -/
section
open PySem.W
variable {α : Type} {le : α → α → Bool}
theorem mem_ins {a x : α} : ∀ {l : List α}, x ∈ ins le a l → x = a ∨ x ∈ l
  | [], h => by simpa [ins] using h
  | b :: r, h => by
    unfold ins at h
    split at h
    · simpa using h
    · rcases List.mem_cons.mp h with e | h
      · exact .inr (by rw [e]; exact List.mem_cons_self)
      · exact (mem_ins h).imp id (List.mem_cons_of_mem _)
theorem ins_sorted (T : TotalLe le) (a : α) : ∀ {l : List α}, l.Pairwise (fun a b => le a b = true) → (ins le a l).Pairwise (fun a b => le a b = true)
  | [], _ => by simp [ins]
  | b :: r, h => by
    obtain ⟨h1, h2⟩ := List.pairwise_cons.mp h
    unfold ins
    split
    · rename_i hab
      refine List.pairwise_cons.mpr ⟨fun x hx => ?_, h⟩
      rcases List.mem_cons.mp hx with e | hx
      · rw [e]; exact hab
      · exact T.trans _ _ _ hab (h1 x hx)
    · rename_i hab
      refine List.pairwise_cons.mpr ⟨fun x hx => ?_, ins_sorted T a h2⟩
      rcases mem_ins hx with e | hx
      · rw [e]; exact (T.total a b).resolve_left hab
      · exact h1 x hx
theorem ins_filter (c a : α) : ∀ (l : List α), (ins le a l).filter (sameRank le c) = (a :: l).filter (sameRank le c) ∨ ¬ TotalLe le
  | [] => .inl rfl
  | b :: r => by
    by_cases T : TotalLe le
    · refine .inl ?_
      unfold ins
      split
      · rfl
      · rename_i hab
        have ih := (ins_filter c a r).resolve_right (fun z => z T)
        have e1 : (b :: ins le a r).filter (sameRank le c) = (if sameRank le c b = true then [b] else []) ++ (ins le a r).filter (sameRank le c) := by
          rw [List.filter_cons]; split <;> rfl
        rw [e1, ih, List.filter_cons, List.filter_cons, List.filter_cons]
        cases ha : sameRank le c a with
        | false => cases hb : sameRank le c b <;> simp
        | true =>
          cases hb : sameRank le c b with
          | false => simp
          | true =>
            exfalso
            unfold sameRank at ha hb
            obtain ⟨a1, a2⟩ := ands ha
            obtain ⟨b1, b2⟩ := ands hb
            exact hab (T.trans _ _ _ a2 b1)
    · exact .inr T
theorem isort_eq (T : TotalLe le) (l : List α) : isort le l = l.mergeSort le := by
  refine sort_unique T ?_ fun c => ?_
  · induction l with
    | nil => exact List.Pairwise.nil
    | cons a r ih => exact ins_sorted T a ih
  · induction l with
    | nil => rfl
    | cons a r ih =>
      show (ins le a (isort le r)).filter _ = _
      rw [(ins_filter c a _).resolve_right (fun z => z T), List.filter_cons, List.filter_cons, ih]
end
end Rf

set_option Elab.async false
set_option linter.all false
set_option maxRecDepth 100000
set_option maxHeartbeats 4000000
namespace Rf
open PySem PySem.Spec PyProof.Rows L2

/-- arguments, read now -/
inductive RdsA (K : PySem.W.Frag) (G H : Hp) : List D → List V → Prop
  | nil : RdsA K G H [] []
  | cons {d : D} {v : V} {ds : List D} {vs : List V} : Rds K G H d v → RdsA K G H ds vs → RdsA K G H (d :: ds) (v :: vs)
section
variable {K : PySem.W.Frag} {G H : Hp}
theorem RdsA.one {d : D} {vs : List V} (r : RdsA K G H [d] vs) : ∃ v, vs = [v] ∧ Rds K G H d v := by
  cases r with
  | cons a b => cases b; exact ⟨_, rfl, a⟩
theorem RdsA.two {d e : D} {vs : List V} (r : RdsA K G H [d, e] vs) : ∃ v w, vs = [v, w] ∧ Rds K G H d v ∧ Rds K G H e w := by
  cases r with
  | cons a b => cases b with
    | cons c t => cases t; exact ⟨_, _, rfl, a, c⟩
theorem bools_ok : ∀ {ds : List D} {ys : List V} {bs : List Bool}, PuA K G ds ys → boolsOf ds = some bs → ys = bs.map V.bl
  | [], _, _, .nil, e => by simp [boolsOf] at e; subst e; rfl
  | d :: ds, _, bs, .cons a b, e => by
    cases d <;> simp only [boolsOf] at e <;> (try cases e)
    cases h : boolsOf ds with
    | none => rw [h] at e; cases e
    | some cs =>
      rw [h] at e
      have e' := Option.some.inj e
      subst e'
      cases a
      rw [bools_ok b h]; rfl
theorem ints_ok : ∀ {ds : List D} {ys : List V} {ns : List Int}, PuA K G ds ys → intsOf ds = some ns → ys = ns.map V.int
  | [], _, _, .nil, e => by simp [intsOf] at e; subst e; rfl
  | d :: ds, _, ns, .cons a b, e => by
    cases d <;> simp only [intsOf] at e <;> (try cases e)
    cases h : intsOf ds with
    | none => rw [h] at e; cases e
    | some cs =>
      rw [h] at e
      have e' := Option.some.inj e
      subst e'
      cases a
      rw [ints_ok b h]; rfl
end
/-! ### what repr shows -/
mutual
theorem rOk_lay : ∀ d : D, rOk d = true → d.canLay0 = true ∧ d.showable = true ∧ d.leavesShort 1000 = true
  | .none, _ => ⟨rfl, rfl, rfl⟩
  | .bool _, _ => ⟨rfl, rfl, rfl⟩
  | .int i, h => by
    have h' : (Nat.blt i.natAbs 1000000000000 || (Nat.blt i.natAbs.log2 1920 && Nat.ble (PyData.shown (.int i)).length 1000)) = true := by simpa only [rOk] using h
    refine ⟨rfl, ?_⟩
    rw [Bool.or_eq_true] at h'
    rcases h' with h' | h'
    · have h1 : i.natAbs < 1000000000000 := Nat.le_of_ble_eq_true h'
      have h2 : i.natAbs.log2 < 1920 := log2_small (Nat.lt_of_lt_of_le h1 (by
        have e : (1000000000000 : Nat) ≤ 2 ^ 40 := by decide
        exact Nat.le_trans e (Nat.pow_le_pow_right (by decide) (by decide))))
      have h3 := PyData.shown_int_le (i := i) (by simpa using h1)
      simp only [PyData.showable, PyData.leavesShort, decide_eq_true_eq]
      exact ⟨h2, by omega⟩
    · obtain ⟨h1, h2⟩ := ands h'
      simp only [PyData.showable, PyData.leavesShort, decide_eq_true_eq]
      exact ⟨Nat.le_of_ble_eq_true h1, Nat.le_of_ble_eq_true h2⟩
  | .str x, h => by
    have h' : (PyData.strOk x && Nat.ble (reprText x).length 1000) = true := by simpa only [rOk] using h
    obtain ⟨h1, h2⟩ := ands h'
    have c : PyData.canLay0 (.str x) = true := by simpa only [PyData.canLay0] using h1
    exact ⟨c, by simp only [PyData.showable], PyData.leavesShort_of_canLay0 1000 (.str x) c (by simp only [PyData.intsShort])⟩
  | .list xs, h => by
    have := rOkAll_lay xs (by simpa only [rOk] using h)
    simp only [PyData.canLay0, PyData.showable, PyData.leavesShort]
    exact this
  | .tuple xs, h => by
    have := rOkAll_lay xs (by simpa only [rOk] using h)
    simp only [PyData.canLay0, PyData.showable, PyData.leavesShort]
    exact this
  | .dict _, h => by simp only [rOk] at h; exact nomatch h
theorem rOkAll_lay : ∀ ds : List D, rOkAll ds = true → PyData.canLayAll0 ds = true ∧ PyData.showableAll ds = true ∧ PyData.leavesShortAll 1000 ds = true
  | [], _ => ⟨rfl, rfl, rfl⟩
  | d :: ds, h => by
    have h' : (rOk d && rOkAll ds) = true := by simpa only [rOkAll] using h
    obtain ⟨h1, h2⟩ := ands h'
    obtain ⟨a1, a2, a3⟩ := rOk_lay d h1
    obtain ⟨b1, b2, b3⟩ := rOkAll_lay ds h2
    simp only [PyData.canLayAll0, PyData.showableAll, PyData.leavesShortAll, a1, a2, a3, b1, b2, b3]
    exact ⟨rfl, rfl, rfl⟩
end
theorem reprOk_ok {d : D} (h : reprOk d = true) : d.canLay0 = true ∧ d.showable = true ∧ d.depth ≤ 64 ∧ d.shown.length ≤ sizeLine := by
  unfold reprOk at h
  obtain ⟨h12, h3⟩ := ands h
  obtain ⟨h1, h2⟩ := ands h12
  obtain ⟨a1, a2, a3⟩ := rOk_lay d h1
  have b : d.bulk ≤ 15000 := Nat.le_of_ble_eq_true h3
  refine ⟨a1, a2, Nat.le_of_ble_eq_true h2, ?_⟩
  have := PyData.shown_le_bulk 1000 (by decide) d a3
  rw [sizeLine_eq]
  have : (1000 + 2) * d.bulk ≤ 1002 * 15000 := Nat.mul_le_mul (by decide) b
  omega
section
variable {X : Cx}
/-- repr of data -/
theorem repr_run {pins : List (Addr × Obj)} {s : Shared} {σ : L2.St} {H : Hp} {x : V} {u : Value} {d : D} {Q : VK} (hg : X.A.guards = some []) (hu : X.A.units + 65 < cLine) (I : Inv X pins σ H s) (r : RelV x u) (dp : Dp X.K H x d) (ok : reprOk d = true)
    (q : Q (.str d.shown) H) : wpAny (model X.prog X.w) X.A (call (.builtin "repr") [u]) (EP X pins σ Q) X.xe s := by
  obtain ⟨h1, h2, h3, h4⟩ := reprOk_ok ok
  have ref : ∀ a as, u = .ref a → Reads s.heap (.ref a) d as → wpAny (model X.prog X.w) X.A (call (.builtin "repr") [u]) (EP X pins σ Q) X.xe s := by
    rintro a as rfl rd
    refine repr_of_reads' rd h2 (fun z => ?_) hg (by omega) (fun _ _ e => e) (fun h' t tk hk => ?_) h4
    · rw [PyData.hasDict_of_canLay d h1] at z; cases z
    · exact ⟨.str d.shown, H, I.kept (t' := tk) hk, ⟨_, rfl⟩, q⟩
  obtain ⟨as, rd⟩ := Dp.reads I d x u dp r
  cases rd with
  | none => exact PySem.P.repr_of_none ⟨.str _, H, I.tok _, ⟨_, rfl⟩, q⟩
  | bool b => exact PySem.P.repr_of_bool ⟨.str _, H, I.tok _, ⟨_, rfl⟩, q⟩
  | int i t =>
    have hz : i.natAbs.log2 < 1920 := by simpa only [PyData.showable, decide_eq_true_eq] using h2
    exact PySem.P.repr_of_int hz ⟨.str _, H, I.tok _, ⟨_, rfl⟩, q⟩
  | str y t => exact PySem.P.repr_of_str ⟨.str _, H, I.tok _, ⟨_, rfl⟩, q⟩ h4
  | list a1 a2 a3 a4 => exact ref _ _ rfl (.list a1 a2 a3 a4)
  | tuple a1 a2 a3 a4 => exact ref _ _ rfl (.tuple a1 a2 a3 a4)
  | dict a1 a2 a3 a4 a5 => simp only [PyData.canLay0] at h1; exact nomatch h1
end
/-! ### sorted -/
section
open PySem.W
theorem alikes_ok {d : D} : ∀ {l : List D}, alikes d l = true → ∀ e ∈ l, alike d e = true ∧ alike e d = true
  | [], _, e, he => by cases he
  | a :: r, h, e, he => by
    have h' : (alike d a && alike a d && alikes d r) = true := h
    obtain ⟨h12, h3⟩ := ands h'
    obtain ⟨h1, h2⟩ := ands h12
    rcases List.mem_cons.mp he with q | q
    · rw [q]; exact ⟨h1, h2⟩
    · exact alikes_ok h3 e q
theorem allAlike_ok : ∀ {l : List D}, allAlike l = true → AllAlike l
  | [], _ => fun d hd => by cases hd
  | a :: r, h => by
    have h' : (alike a a && alikes a r && allAlike r) = true := h
    obtain ⟨h12, h3⟩ := ands h'
    obtain ⟨h1, h2⟩ := ands h12
    intro d hd d' hd'
    rcases List.mem_cons.mp hd with q | q <;> rcases List.mem_cons.mp hd' with q' | q'
    · rw [q, q']; exact h1
    · rw [q]; exact (alikes_ok h2 d' q').1
    · rw [q']; exact (alikes_ok h2 d q).2
    · exact allAlike_ok h3 d q d' q'
theorem depth_mem : ∀ {l : List D} {d : D}, d ∈ l → d.depth ≤ PyData.depthAll l
  | a :: r, d, h => by
    simp only [PyData.depthAll]
    rcases List.mem_cons.mp h with q | q
    · rw [q]; exact Nat.le_max_left _ _
    · exact Nat.le_trans (depth_mem q) (Nat.le_max_right _ _)
/-- items with what stands for them -/
def pairs : List D → List V → List (D × V)
  | d :: ds, v :: vs => (d, v) :: pairs ds vs
  | _, _ => []
variable {K : PySem.W.Frag} {G H : Hp}
theorem pairs_fst : ∀ {ds : List D} {vs : List V}, PuA K G ds vs → (pairs ds vs).map Prod.fst = ds
  | _, _, .nil => rfl
  | _, _, .cons a b => by simp only [pairs, List.map_cons, pairs_fst b]
theorem pairs_snd : ∀ {ds : List D} {vs : List V}, PuA K G ds vs → (pairs ds vs).map Prod.snd = vs
  | _, _, .nil => rfl
  | _, _, .cons a b => by simp only [pairs, List.map_cons, pairs_snd b]
theorem pairs_pu : ∀ {ds : List D} {vs : List V}, PuA K G ds vs → ∀ p ∈ pairs ds vs, Pu K G p.1 p.2
  | _, _, .nil, p, hp => by cases hp
  | _, _, .cons a b, p, hp => by
    rcases List.mem_cons.mp hp with q | q
    · rw [q]; exact a
    · exact pairs_pu b p q
theorem puA_of : ∀ {l : List (D × V)}, (∀ p ∈ l, Pu K G p.1 p.2) → PuA K G (l.map Prod.fst) (l.map Prod.snd)
  | [], _ => .nil
  | p :: l, h => .cons (h p List.mem_cons_self) (puA_of fun q hq => h q (List.mem_cons_of_mem _ hq))
theorem each_pairs : ∀ {ds : List D} {vs : List V} {us : List Value}, PuA K G ds vs → Vals vs us → EachIs (fun (u : Value) (p : D × V) => RelV p.2 u) us (pairs ds vs)
  | _, _, _, .nil, .nil => .nil
  | _, _, _, .cons a b, .cons r t => .cons r (each_pairs b t)
theorem vals_each : ∀ {us : List Value} {ps : List (D × V)}, EachIs (fun (u : Value) (p : D × V) => RelV p.2 u) us ps → Vals (ps.map Prod.snd) us
  | _, _, .nil => .nil
  | _, _, .cons a b => .cons a (vals_each b)
end
section
variable {X : Cx}
open PySem.W in
theorem sorted_run {pins : List (Addr × Obj)} {s : Shared} {σ : L2.St} {G H : Hp} {a : Addr} {ds es : List D} {ys : List V} {Q : VK} (hu : X.A.units + 67 < cLine) (I : Inv X pins σ H s) (sb : Sub G H) (hl : SqL X.K H a ys) (pa : PuA X.K G ds ys) (ok : sortV ds = some es)
    (q : RQ X.K G H (.fr es) Q) : wpAny (model X.prog X.w) X.A (call (.builtin "sorted") [.ref a]) (EP X pins σ Q) X.xe s := by
  unfold sortV at ok
  split at ok <;> (try cases ok)
  rename_i hok
  unfold sortOk at hok
  obtain ⟨h12, h3⟩ := ands hok
  obtain ⟨h1, h2⟩ := ands h12
  have h3' : PyData.depthAll ds ≤ 64 := Nat.le_of_ble_eq_true h3
  obtain ⟨its, rv, pl, hz⟩ := I.list hl
  have pf := pairs_fst pa
  have ps := pairs_snd pa
  have hn : (pairs ds ys).length = ys.length := by
    have e := congrArg List.length ps
    rw [List.length_map] at e
    exact e
  have T : TotalLe (dataLe false (id : D → D)) := sortLe_total _ _ _
  have rd : ∀ {us : List Value} {l : List (D × V)}, (∀ p ∈ l, Pu X.K G p.1 p.2) → EachIs (fun (u : Value) (p : D × V) => RelV p.2 u) us l → EachIs (fun u (p : D × V) => ∃ as, Reads s.heap u (Prod.fst p) as) us l := by
    intro us l
    induction l generalizing us with
    | nil => intro _ h; cases h; exact .nil
    | cons p l ih =>
      intro hp h
      cases h with
      | cons r t => exact .cons (Dp.reads I _ _ _ ((hp p List.mem_cons_self).mono sb).dp r) (ih (fun z hz => hp z (List.mem_cons_of_mem _ hz)) t)
  refine sorted_data (β := D × V) (enc := Prod.fst) (R := fun (u : Value) (p : D × V) => RelV p.2 u) (bs := pairs ds ys) pl.isList (each_pairs pa rv) (rd (pairs_pu pa) (each_pairs pa rv)) ?_ ?_ ?_ ?_ ?_
  · rw [pf]; exact allAlike_ok h1
  · rw [pf]
    rw [Bool.or_eq_true] at h2
    rcases h2 with h2 | h2
    · refine .inl fun d hd => ?_
      have := List.all_eq_true.mp h2 d hd
      cases d with
      | tuple xs => cases xs with
        | nil => simp [tupNE] at this
        | cons x r => exact ⟨x, r, rfl⟩
      | _ => simp [tupNE] at this
    · refine .inr fun d hd => ?_
      have := List.all_eq_true.mp h2 d hd
      refine ⟨?_, fun xs => ?_⟩ <;> (rintro rfl; simp [noTupNone] at this)
  · rw [hn]; exact hz
  · intro p hp
    have : p.1 ∈ ds := by rw [← pf]; exact List.mem_map_of_mem hp
    have := depth_mem this
    omega
  · intro out ho eo
    obtain ⟨c, hc⟩ := sortedAll_at s.heap its out.toArray
    have sm := sort_maps (r := dataLe false (Prod.fst : D × V → D)) (s := dataLe false (id : D → D)) Prod.fst (l := pairs ds ys) (fun a _ b _ => rfl)
    have e1 : ((pairs ds ys).mergeSort (dataLe false Prod.fst)).map Prod.fst = isort (dataLe false id) ds := sm.trans (by rw [pf, isort_eq T])
    have v1 := vals_each eo
    have mem : ∀ p ∈ (pairs ds ys).mergeSort (dataLe false Prod.fst), Pu X.K G p.1 p.2 := fun p hp => pairs_pu pa p ((List.mergeSort_perm _ _).mem_iff.mp hp)
    have pu1 := puA_of mem
    rw [e1] at pu1
    have hf : H (s.heap.objs.size + 1) = none := I.hok.fresh (Nat.le_succ _)
    refine ⟨.ref (s.heap.objs.size + 1), upd H (s.heap.objs.size + 1) (.lst (((pairs ds ys).mergeSort (dataLe false Prod.fst)).map Prod.snd)), ?_, rfl, RQ.fr q sb pu1 hf⟩
    refine I.laid (t' := s.toks) (fun b o e => sortedAll_old e) (Nat.le_succ _) ⟨?_, out, c, v1, hc⟩
    rw [List.length_map, List.length_mergeSort, hn]; exact hz
end
end Rf

set_option Elab.async false
set_option linter.all false
set_option maxRecDepth 100000
set_option maxHeartbeats 4000000
namespace Rf
open PySem PySem.Spec PyProof.Rows L2

def rBlt (K : PySem.W.Frag) (b : Blt) : List V → Hp → VK → Prop := fun vs H Q => ∃ G ds res, Sub G H ∧ RdsA K G H ds vs ∧ bltV b ds = some res ∧ RQ K G H res Q
def bltName : Blt → Str
  | .len => "len" | .abs => "abs" | .max2 => "max" | .min2 => "min" | .int1 => "int" | .tuple1 => "tuple" | .list1 => "list" | .all1 => "all" | .any1 => "any" | .sum1 => "sum" | .sorted1 => "sorted" | .repr1 => "repr" | .gcd2 => "gcd" | .divmod2 => "divmod"
/-- a built-in function's id, or a built-in type's name -/
inductive BK where
  | fn (id : String) | ty (n : String)
def bltKind : Blt → BK
  | .len => .fn "len" | .abs => .fn "abs" | .max2 => .fn "max" | .min2 => .fn "min" | .int1 => .ty "int" | .tuple1 => .ty "tuple" | .list1 => .ty "list" | .all1 => .fn "all" | .any1 => .fn "any" | .sum1 => .fn "sum" | .sorted1 => .fn "sorted" | .repr1 => .fn "repr" | .gcd2 => .fn "math.gcd" | .divmod2 => .fn "divmod"
def BK.val : BK → Value
  | .fn id => .builtin id
  | .ty n => .type n
section
variable {X : Cx}
theorem call_blt (hc : X.calm = true) (hg : X.A.guards = some []) (hu : X.A.units + 67 < cLine) (b : Blt) : CallR X (bltKind b).val (rBlt X.K b) := by
  intro pins s σ H vs us Q I r h
  obtain ⟨G, ds, res, sb, ra, e, hq⟩ := h
  have fin : ∀ {d : D} {z : V}, res = .pu d → Pu X.K G d z → Q z H := fun {d z} e1 e2 => by subst e1; exact RQ.pu hq sb e2
  have i1 : ∀ {n : Int}, res = .pu (.int n) → Q (.int n) H := fun e1 => fin e1 (.int _)
  cases b with
  | len =>
    match ds, e with
    | [.list xs], e =>
      cases e
      obtain ⟨v, rfl, rv⟩ := ra.one
      obtain ⟨a, ys, rfl, h1, h2⟩ := rv.list sb rfl
      exact L2.call_len_seq pins s σ H _ us Q I r ⟨a, ys, rfl, .inl h1, by rw [← h2.length]; exact i1 rfl⟩
    | [.tuple xs], e =>
      cases e
      obtain ⟨v, rfl, rv⟩ := ra.one
      obtain ⟨a, ys, rfl, h1, h2⟩ := rv.tuple rfl
      exact L2.call_len_seq pins s σ H _ us Q I r ⟨a, ys, rfl, .inr (sqT_sub sb h1), by rw [← h2.length]; exact i1 rfl⟩
    | [.str z], e =>
      simp only [bltV] at e
      split at e <;> (try cases e)
      rename_i hz
      obtain ⟨v, rfl, rv⟩ := ra.one
      have e2 := rv.str rfl; subst e2
      exact L2.call_len_str pins s σ H _ us Q I r ⟨z, rfl, lenOk_le hz, i1 rfl⟩
  | abs =>
    match ds, e with
    | [.int i], e =>
      cases e
      obtain ⟨v, rfl, rv⟩ := ra.one
      have e2 := rv.int rfl; subst e2
      exact L2.call_abs pins s σ H _ us Q I r ⟨i, rfl, i1 rfl⟩
  | max2 =>
    match ds, e with
    | [.int i, .int j], e =>
      cases e
      obtain ⟨v, w, rfl, rv, rw'⟩ := ra.two
      have e2 := rv.int rfl; have e3 := rw'.int rfl; subst e2; subst e3
      exact L2.call_max2 hc pins s σ H _ us Q I r ⟨i, j, rfl, i1 rfl⟩
  | min2 =>
    match ds, e with
    | [.int i, .int j], e =>
      cases e
      obtain ⟨v, w, rfl, rv, rw'⟩ := ra.two
      have e2 := rv.int rfl; have e3 := rw'.int rfl; subst e2; subst e3
      exact L2.call_min2 hc pins s σ H _ us Q I r ⟨i, j, rfl, i1 rfl⟩
  | int1 =>
    match ds, e with
    | [.int i], e =>
      cases e
      obtain ⟨v, rfl, rv⟩ := ra.one
      have e2 := rv.int rfl; subst e2
      exact L2.call_int1 pins s σ H _ us Q I r (.inl ⟨i, rfl, i1 rfl⟩)
  | tuple1 =>
    match ds, e with
    | [.list xs], e =>
      cases e
      obtain ⟨v, rfl, rv⟩ := ra.one
      obtain ⟨a, ys, rfl, h1, h2⟩ := rv.list sb rfl
      exact L2.call_tuple_of pins s σ H _ us Q I r ⟨a, ys, rfl, .inl ⟨h1, fun p hp => RQ.tup hq sb h2 hp⟩⟩
    | [.tuple xs], e =>
      cases e
      obtain ⟨v, rfl, rv⟩ := ra.one
      obtain ⟨a, ys, rfl, h1, h2⟩ := rv.tuple rfl
      exact L2.call_tuple_of pins s σ H _ us Q I r ⟨a, ys, rfl, .inr ⟨sqT_sub sb h1, RQ.pu hq sb (.tup h1 h2)⟩⟩
  | list1 =>
    match ds, e with
    | [.list xs], e =>
      cases e
      obtain ⟨v, rfl, rv⟩ := ra.one
      obtain ⟨a, ys, rfl, h1, h2⟩ := rv.list sb rfl
      exact L2.call_list_of pins s σ H _ us Q I r ⟨a, ys, rfl, .inl h1, fun p hp => RQ.fr hq sb h2 hp⟩
    | [.tuple xs], e =>
      cases e
      obtain ⟨v, rfl, rv⟩ := ra.one
      obtain ⟨a, ys, rfl, h1, h2⟩ := rv.tuple rfl
      exact L2.call_list_of pins s σ H _ us Q I r ⟨a, ys, rfl, .inr (sqT_sub sb h1), fun p hp => RQ.fr hq sb h2 hp⟩
  | all1 =>
    match ds, e with
    | [.list xs], e =>
      simp only [bltV] at e
      cases hb : boolsOf xs with
      | none => rw [hb] at e; cases e
      | some bs =>
        rw [hb] at e
        have e' := Option.some.inj e
        obtain ⟨v, rfl, rv⟩ := ra.one
        obtain ⟨a, ys, rfl, h1, h2⟩ := rv.list sb rfl
        have := bools_ok h2 hb; subst this
        exact L2.cr_all hc pins s σ H _ us Q I r ⟨a, bs, rfl, h1, fin e'.symm (.bl _)⟩
  | any1 =>
    match ds, e with
    | [.list xs], e =>
      simp only [bltV] at e
      cases hb : boolsOf xs with
      | none => rw [hb] at e; cases e
      | some bs =>
        rw [hb] at e
        have e' := Option.some.inj e
        obtain ⟨v, rfl, rv⟩ := ra.one
        obtain ⟨a, ys, rfl, h1, h2⟩ := rv.list sb rfl
        have := bools_ok h2 hb; subst this
        exact L2.cr_any hc pins s σ H _ us Q I r ⟨a, bs, rfl, h1, fin e'.symm (.bl _)⟩
  | sum1 =>
    match ds, e with
    | [.list xs], e =>
      simp only [bltV] at e
      cases hb : intsOf xs with
      | none => rw [hb] at e; cases e
      | some ns =>
        rw [hb] at e
        have e' := Option.some.inj e
        obtain ⟨v, rfl, rv⟩ := ra.one
        obtain ⟨a, ys, rfl, h1, h2⟩ := rv.list sb rfl
        have := ints_ok h2 hb; subst this
        exact L2.cr_sum hc pins s σ H _ us Q I r ⟨a, ns, rfl, h1, fin e'.symm (.int _)⟩
  | sorted1 =>
    match ds, e with
    | [.list xs], e =>
      simp only [bltV] at e
      cases hb : sortV xs with
      | none => rw [hb] at e; cases e
      | some es =>
        rw [hb] at e
        have e' : res = .fr es := (Option.some.inj e).symm
        subst e'
        obtain ⟨v, rfl, rv⟩ := ra.one
        obtain ⟨a, ys, rfl, h1, h2⟩ := rv.list sb rfl
        obtain ⟨u, rfl, ru⟩ := vals1 r
        cases ru
        exact sorted_run hu I sb h1 h2 hb hq
  | repr1 =>
    match ds, e with
    | [d], e =>
      simp only [bltV] at e
      split at e <;> (try cases e)
      rename_i hz
      obtain ⟨v, rfl, rv⟩ := ra.one
      obtain ⟨u, rfl, ru⟩ := vals1 r
      exact repr_run hg (by omega) I ru (rv.dp sb) hz (fin rfl (.str _))
  | gcd2 =>
    match ds, e with
    | [.int i, .int j], e =>
      cases e
      obtain ⟨v, w, rfl, rv, rw'⟩ := ra.two
      have e2 := rv.int rfl; have e3 := rw'.int rfl; subst e2; subst e3
      exact L2.cr_gcd pins s σ H _ us Q I r ⟨i, j, rfl, i1 rfl⟩
  | divmod2 =>
    match ds, e with
    | [.int i, .int j], e =>
      simp only [bltV] at e
      split at e <;> (try cases e)
      rename_i hz
      obtain ⟨h1, h2⟩ := ands hz
      obtain ⟨v, w, rfl, rv, rw'⟩ := ra.two
      have e2 := rv.int rfl; have e3 := rw'.int rfl; subst e2; subst e3
      exact L2.call_divmod pins s σ H _ us Q I r ⟨i, j, rfl, ⟨of_decide_eq_true h1, of_decide_eq_true h2⟩, fun p hp => RQ.tup hq sb (.cons (.int _) (.cons (.int _) .nil)) hp⟩
/-! ### isinstance -/
def tyN : Ty → String
  | .int => "int" | .bool => "bool" | .str => "str" | .list => "list" | .tuple => "tuple" | .dict => "dict"
def dTy : D → String
  | .none => "NoneType" | .bool _ => "bool" | .int _ => "int" | .str _ => "str" | .list _ => "list" | .tuple _ => "tuple" | .dict _ => "dict"
theorem tyX_of {K : PySem.W.Frag} {G H : Hp} (sb : Sub G H) {d : D} {x : V} (r : Rdv K G H d x) : TyX K H x (.type (dTy d)) := by
  cases r with
  | li h q => exact .base (.lst h)
  | pu p =>
    cases p with
    | non => exact .base .non
    | bl b => exact .base (.bl b)
    | int i => exact .base (.int i)
    | str z => exact .base (.str z)
    | lst h q => exact .base (.lst (sb _ _ h))
    | tup h q =>
      rcases sqT_sub sb h with (h | ⟨o, h⟩) | ⟨o, its, n, h1, h2, _⟩
      · exact .base (.tup h)
      · exact .fTuple h
      · exact .kTuple h1 h2
theorem kit_is (K : PySem.W.Frag) (d : D) (t : Ty) : PySem.W.kitOne K (.type (dTy d)) (.type (tyN t)) = some (tyIs t d) := by
  have h0 : ∀ t, kitB "NoneType" (tyN t) = some (tyIs t .none) := by intro t; cases t <;> decide +kernel
  have h1 : ∀ t, kitB "bool" (tyN t) = some (tyIs t (.bool true)) := by intro t; cases t <;> decide +kernel
  have h2 : ∀ t, kitB "int" (tyN t) = some (tyIs t (.int 0)) := by intro t; cases t <;> decide +kernel
  have h3 : ∀ t, kitB "str" (tyN t) = some (tyIs t (.str "")) := by intro t; cases t <;> decide +kernel
  have h4 : ∀ t, kitB "list" (tyN t) = some (tyIs t (.list [])) := by intro t; cases t <;> decide +kernel
  have h5 : ∀ t, kitB "tuple" (tyN t) = some (tyIs t (.tuple [])) := by intro t; cases t <;> decide +kernel
  have h6 : ∀ t, kitB "dict" (tyN t) = some (tyIs t (.dict [])) := by intro t; cases t <;> decide +kernel
  cases d with
  | none => exact kit_ty (h0 t)
  | bool b => exact kit_ty ((h1 t).trans (by cases t <;> rfl))
  | int i => exact kit_ty ((h2 t).trans (by cases t <;> rfl))
  | str x => exact kit_ty ((h3 t).trans (by cases t <;> rfl))
  | list xs => exact kit_ty ((h4 t).trans (by cases t <;> rfl))
  | tuple xs => exact kit_ty ((h5 t).trans (by cases t <;> rfl))
  | dict kvs => exact kit_ty ((h6 t).trans (by cases t <;> rfl))
theorem kit_any (K : PySem.W.Frag) (d : D) : ∀ ts : List Ty, PySem.W.kitAny K (.type (dTy d)) (ts.map fun t => .type (tyN t)) = some (ts.any fun t => tyIs t d)
  | [] => rfl
  | t :: ts => by
    rw [List.map_cons, List.any_cons]
    refine kitAny_cons (kit_is K d t) (fun h => ?_) (fun h => ?_)
    · rw [h, Bool.false_or]; exact kit_any K d ts
    · rw [h, Bool.true_or]
end
end Rf

set_option Elab.async false
set_option linter.all false
set_option maxRecDepth 100000
set_option maxHeartbeats 4000000
/-! Rf: is an IR text what a text of the row says? -/
namespace Rf
open PySem PySem.Spec PyProof.Rows L2

/-- where one stands: the names by slot, the scope, which names' cells are one's own -/
structure SC where
  N : List Str
  sc : Scope
  fn : Str → Bool
/-- a program: its defs (name, parameters, IR), its constants, the built-ins that it names, whether gcd is imported -/
structure Pg where
  fns : List (Str × List Str × Fn)
  gl : List (Str × D)
  bn : List Str
  gcd : Bool
  kws : List (Nat × List Str × List Nat)
abbrev Pg.C (pg : Pg) : List D := pg.gl.map (·.2)
abbrev Pg.T (pg : Pg) : List Fn := pg.fns.map (·.2.2)
abbrev Pg.F (pg : Pg) (k : Nat) : FT := callN pg.C pg.T k

def okName (x : Str) : Bool := !(x == ("__debug__" : Str)) && !(x == ("__classdict__" : Str)) && !(x == ("__name__" : Str))
def visB (sc : Scope) (x : Str) : Bool := match sc.names.lookup x with
  | some .local => true
  | some .cell => true
  | some .free => true
  | _ => false
def locB (c : SC) (x : Str) : Bool := match c.sc.names.lookup x with
  | some .local => true
  | some .cell => c.fn x
  | _ => false
def slotB (c : SC) (i : Nat) (x : Str) : Bool := decide (c.N[i]? = some x) && visB c.sc x && okName x
def storeB (c : SC) (i : Nat) (x : Str) : Bool := decide (c.N[i]? = some x) && locB c x
def glB (c : SC) (x : Str) : Bool := okName x && match c.sc.names.lookup x with
  | some .globalImplicit => true
  | _ => false
/-- a built-in by its name -/
def bltB (pg : Pg) (c : SC) (x : Str) : Bool := glB c x && pg.bn.contains x
def fnB (pg : Pg) (c : SC) (f : Nat) (x : Str) : Bool := glB c x && match pg.fns[f]? with
  | some (y, _, _) => decide (x = y)
  | none => false
def arity (pg : Pg) (f : Nat) : Nat := match pg.fns[f]? with
  | some (_, ps, _) => ps.length
  | none => 0
def kwB (pg : Pg) (f : Nat) (p : List Nat) (ks : List Str) : Bool := pg.kws.contains (f, ks, p)
def constB : D → Const → Bool
  | .none, .none => true
  | .bool a, .bool b => a == b
  | .int i, .int j => decide (i = j)
  | .str x, .str y => decide (x = y)
  | _, _ => false
def bopB : BOp → Operator → Bool
  | .add, .Add => true
  | .sub, .Sub => true
  | .mul, .Mult => true
  | .fdiv, .FloorDiv => true
  | .mod, .Mod => true
  | .pow, .Pow => true
  | _, _ => false
def copB : COp → CmpOp → Bool
  | .eq, .Eq => true
  | .ne, .NotEq => true
  | .lt, .Lt => true
  | .le, .LtE => true
  | .gt, .Gt => true
  | .ge, .GtE => true
  | .isN, .Is => true
  | .notN, .IsNot => true
  | .isB, .Is => true
  | .notB, .IsNot => true
  | .mem, .In => true
  | .nmem, .NotIn => true
  | _, _ => false
def notStar : Expr → Bool
  | .Starred .. => false
  | _ => true
def notSlice : Expr → Bool
  | .Slice .. => false
  | _ => true
def notSet : Expr → Bool
  | .Set .. => false
  | _ => true
def tyOf : Str → Option Ty := fun x =>
  if x = ("int" : Str) then some .int else if x = ("bool" : Str) then some .bool else if x = ("str" : Str) then some .str else if x = ("list" : Str) then some .list else if x = ("tuple" : Str) then some .tuple else if x = ("dict" : Str) then some .dict else none
def tysB (pg : Pg) (c : SC) : List Ty → List Expr → Bool
  | [], [] => true
  | t :: ts, .Name x _ :: es => bltB pg c x && decide (x = Str.ofString (tyN t)) && tysB pg c ts es
  | _, _ => false
def kwNames : List Keyword → Option (List Str)
  | [] => some []
  | ⟨some n, _, _⟩ :: r => (kwNames r).map (n :: ·)
  | _ => none
def mthName : Mth → Str
  | .append => "append" | .extend => "extend" | .pop0 => "pop" | .pop1 => "pop" | .insert => "insert"
/-- the context of a comprehension's block -/
def blkSC (c : SC) (scope : Scope) : SC := ⟨c.N, relS scope c.sc, fun x => scope.names.lookup x == some .cell⟩
def ownN (c : SC) (own : List Nat) : List (Str × Nat) := own.map fun i => ((c.N[i]?).getD Str.empty, i)

mutual
def chkE (pg : Pg) : SC → IE → Expr → Bool
  | c, .var i, e => match e with
    | .Name x _ => slotB c i x
    | _ => false
  | c, .frz i, e => match e with
    | .Name x _ => slotB c i x
    | _ => false
  | c, .cst d, e => match e with
    | .Constant k _ _ => constB d k
    | _ => false
  | c, .glo n, e => match e with
    | .Name x _ => glB c x && (match pg.gl[n]? with | some (y, _) => decide (x = y) | none => false)
    | _ => false
  | c, .bin o a b, e => match e with
    | .BinOp l op r _ => bopB o op && chkE pg c a l && chkE pg c b r
    | _ => false
  | c, .neg a, e => match e with
    | .UnaryOp .USub l _ => chkE pg c a l
    | _ => false
  | c, .cmp o a b, e => match e with
    | .Compare l [op] [r] _ => copB o op && notSet r && chkE pg c a l && chkE pg c b r
    | _ => false
  | c, .chn o o' a b d, e => match e with
    | .Compare l [op, op'] [m, r] _ => copB o op && copB o' op' && notSet r && chkE pg c a l && chkE pg c b m && chkE pg c d r
    | _ => false
  | c, .and2 a b, e => match e with
    | .BoolOp .And (x :: y :: r) p => chkE pg c a x && (match r with
      | [] => chkE pg c b y
      | z :: r => chkE pg c b (.BoolOp .And (y :: z :: r) p))
    | _ => false
  | c, .or2 a b, e => match e with
    | .BoolOp .Or (x :: y :: r) p => chkE pg c a x && (match r with
      | [] => chkE pg c b y
      | z :: r => chkE pg c b (.BoolOp .Or (y :: z :: r) p))
    | _ => false
  | c, .nt a, e => match e with
    | .UnaryOp .Not l _ => chkE pg c a l
    | _ => false
  | c, .ite k a b, e => match e with
    | .IfExp x y z _ => chkE pg c k x && chkE pg c a y && chkE pg c b z
    | _ => false
  | c, .tup es, e => match e with
    | .Tuple xs _ _ => chkEs pg c es xs
    | _ => false
  | c, .lst es, e => match e with
    | .List xs _ => chkEs pg c es xs
    | _ => false
  | c, .idx a i, e => match e with
    | .Subscript x y _ => notSlice y && chkE pg c a x && chkE pg c i y
    | _ => false
  | c, .slc a lo hi, e => match e with
    | .Subscript x (.Slice l h none _) _ => chkE pg c a x && chkO pg c lo l && chkO pg c hi h
    | _ => false
  | c, .rev a, e => match e with
    | .Subscript x (.Slice none none (some (.UnaryOp .USub (.Constant (.int 1) _ _) _)) _) _ => chkE pg c a x
    | _ => false
  | c, .call f es, e => match e with
    | .Call (.Name x _) xs [] _ => fnB pg c f x && chkEs pg c es xs
    | _ => false
  | c, .callk f p es, e => match e with
    | .Call (.Name x _) [] kws _ => fnB pg c f x && (match kwNames kws with
      | some ks => kwB pg f p ks
      | none => false) && chkKs pg c es kws
    | _ => false
  | c, .blt b es, e => match e with
    | .Call (.Name x _) (y :: xs) [] _ => glB c x && (match b with | .gcd2 => pg.gcd | _ => pg.bn.contains x) && decide (x = bltName b) && chkEs pg c es (y :: xs)
    | _ => false
  | c, .isi a ts, e => match e with
    | .Call (.Name x _) [y, t] [] _ => bltB pg c x && decide (x = ("isinstance" : Str)) && notStar y && chkE pg c a y && (match t with
      | .Name _ _ => tysB pg c ts [t]
      | .Tuple us _ _ => Nat.ble ts.length 1000 && tysB pg c ts us
      | _ => false)
    | _ => false
  | c, .lrg lo hi, e => match e with
    | .Call (.Name x _) [.Call (.Name y _) xs [] _] [] _ => bltB pg c x && decide (x = ("list" : Str)) && bltB pg c y && decide (y = ("range" : Str)) && (match xs with
      | [h] => (match lo with | .cst (.int 0) => true | _ => false) && notStar h && chkE pg c hi h
      | [l, h] => notStar l && notStar h && chkE pg c lo l && chkE pg c hi h
      | _ => false)
    | _ => false
  | c, .trg lo hi, e => match e with
    | .Call (.Name x _) [.Call (.Name y _) xs [] _] [] _ => bltB pg c x && decide (x = ("tuple" : Str)) && bltB pg c y && decide (y = ("range" : Str)) && (match xs with
      | [h] => (match lo with | .cst (.int 0) => true | _ => false) && notStar h && chkE pg c hi h
      | [l, h] => notStar l && notStar h && chkE pg c lo l && chkE pg c hi h
      | _ => false)
    | _ => false
  | c, .lc elt tg it cd own, e => match e with
    | .ListComp x [⟨t, i, fs, 0⟩] scope _ => blkC c.N c.sc scope (ownN c own) && chkI pg c it t i && notSet i && noSub tg && (tgS tg).all (fun i => own.contains i) && chkT pg (blkSC c scope) tg t && (match fs, cd with
        | [], .non => true
        | [f], .som d => chkE pg (blkSC c scope) d f
        | _, _ => false) && chkE pg (blkSC c scope) elt x
    | _ => false
  | c, .mth m i es, e => match e with
    | .Call (.Attribute (.Name x _) n ap) xs [] p => slotB c i x && decide (n = mthName m) && (ap.endLine == p.line) && Nat.blt xs.length 30 && chkEs pg c es xs
    | _ => false
  | c, .rpr es, e => match e with
    | .Call (.Name x _) [.List xs _] [] _ => bltB pg c x && decide (x = ("repr" : Str)) && chkEs pg c es xs
    | _ => false
  | c, .giv a, e => chkE pg c a e
def chkEs (pg : Pg) : SC → IEs → List Expr → Bool
  | _, .nil, es => match es with
    | [] => true
    | _ => false
  | c, .cons a as, es => match es with
    | e :: r => notStar e && chkE pg c a e && chkEs pg c as r
    | _ => false
def chkKs (pg : Pg) : SC → IEs → List Keyword → Bool
  | _, .nil, es => match es with
    | [] => true
    | _ => false
  | c, .cons a as, es => match es with
    | ⟨_, e, _⟩ :: r => chkE pg c a e && chkKs pg c as r
    | _ => false
def chkO (pg : Pg) : SC → IO → Option Expr → Bool
  | _, .non, e => match e with
    | none => true
    | _ => false
  | c, .som a, e => match e with
    | some e => chkE pg c a e
    | _ => false
def chkI (pg : Pg) : SC → II → Expr → Expr → Bool
  | c, .it a, _, e => chkE pg c a e
  | c, .rng lo hi, _, e => match e with
    | .Call (.Name y _) xs [] _ => bltB pg c y && decide (y = ("range" : Str)) && (match xs with
      | [h] => (match lo with | .cst (.int 0) => true | _ => false) && notStar h && chkE pg c hi h
      | [l, h] => notStar l && notStar h && chkE pg c lo l && chkE pg c hi h
      | _ => false)
    | _ => false
  | c, .enu a, t, e => match e, t with
    | .Call (.Name y _) [x] [] _, .Tuple _ _ _ => bltB pg c y && decide (y = ("enumerate" : Str)) && notStar x && chkE pg c a x
    | _, _ => false
  | c, .zip a b, t, e => match e, t with
    | .Call (.Name z _) [x, y] [] _, .Tuple _ _ _ => bltB pg c z && decide (z = ("zip" : Str)) && notStar x && notStar y && chkE pg c a x && chkE pg c b y
    | _, _ => false
def chkT (pg : Pg) : SC → IT → Expr → Bool
  | c, .nm i, e => match e with
    | .Name x _ => storeB c i x
    | _ => false
  | c, .tp ts, e => match e with
    | .Tuple xs _ _ => chkTs pg c ts xs
    | _ => false
  | c, .sub i a, e => match e with
    | .Subscript (.Name x _) y _ => slotB c i x && notSlice y && chkE pg c a y
    | _ => false
def chkTs (pg : Pg) : SC → ITs → List Expr → Bool
  | _, .nil, es => match es with
    | [] => true
    | _ => false
  | c, .cons t ts, es => match es with
    | e :: r => notStar e && chkT pg c t e && chkTs pg c ts r
    | _ => false
end
end Rf

set_option Elab.async false
set_option linter.all false
set_option maxRecDepth 100000
set_option maxHeartbeats 4000000
/-! Rf: what the checks say of the text's forms. -/
namespace Rf
open PySem PySem.Spec PyProof.Rows L2

theorem star_cons {e : Expr} {es : List Expr} {env : Env} (h : notStar e = true) : starEach (e :: es) env = (false, eval e env) :: starEach es env := by
  cases e <;> first | rfl | cases h
def noStars : List Expr → Bool
  | [] => true
  | e :: r => notStar e && noStars r
theorem plain_any {env : Env} {pos : Pos} : ∀ {es : List Expr}, noStars es = true → (backTo pos (starEach es env)).any (·.1) = false
  | [], _ => rfl
  | e :: r, h => by
    obtain ⟨h1, h2⟩ := ands h
    rw [star_cons h1]
    show (false || (backTo pos (starEach r env)).any (·.1)) = false
    rw [plain_any h2]; rfl
theorem plain_all {env : Env} {pos : Pos} : ∀ {es : List Expr}, noStars es = true → (backTo pos (starEach es env)).all (fun x => !x.1) = true
  | [], _ => rfl
  | e :: r, h => by
    obtain ⟨h1, h2⟩ := ands h
    rw [star_cons h1]
    show (true && (backTo pos (starEach r env)).all (fun x => !x.1)) = true
    rw [plain_all h2]; rfl
theorem star_all {env : Env} : ∀ {es : List Expr}, noStars es = true → starEach es env = es.map fun e => (false, eval e env)
  | [], _ => rfl
  | e :: r, h => by
    obtain ⟨h1, h2⟩ := ands h
    rw [star_cons h1, star_all h2]; rfl
theorem plainIx {b : Expr} (h : notSlice b = true) : PlainIx b := fun o i => by
  cases b <;> first | rfl | cases h
theorem mark_no {b : Expr} {op : CmpOp} (h : notSet b = true) : behindInMarks op b = false := by
  cases b <;> first | rfl | cases h
theorem last_no {b c : Expr} {op op' : CmpOp} (h : notSet c = true) : lastMarks [op, op'] [b, c] = false := by
  show behindInMarks op' c = false
  exact mark_no h
theorem fold_no {b : Expr} {env : Env} (h : notSet b = true) (x : Value) : foldedSetIterable b env x = pure x := by
  cases b <;> first | rfl | cases h
theorem asg_cons {e : Expr} {es : List Expr} {env : Env} (h : notStar e = true) : assignEach (e :: es) env = (false, assign e env) :: assignEach es env := by
  cases e <;> first | rfl | cases h
theorem asg_len {env : Env} : ∀ {es : List Expr}, (assignEach es env).length = es.length
  | [] => rfl
  | e :: r => by cases e <;> (show (assignEach r env).length + 1 = _; rw [asg_len]; rfl)
theorem asg_nost {env : Env} : ∀ {es : List Expr}, noStars es = true → (assignEach es env).findIdx? (·.1) = none
  | [], _ => rfl
  | e :: r, h => by
    obtain ⟨h1, h2⟩ := ands h
    rw [asg_cons h1, List.findIdx?_cons]
    simp [asg_nost h2]
theorem asg_sub {o i : Expr} {pos : Pos} {env : Env} (h : notSlice i = true) (v : Value) : assign (.Subscript o i pos) env v = (do
      let ov ← holding [v] (eval o env)
      let iv ← holding [v, ov] (eval i env)
      standAt pos
      holding [v, ov, iv] (setItem ov iv v)
      release [v, ov, iv] []) := by
  cases i <;> first | rfl | cases h

theorem vis_of {sc : Scope} {x : Str} (h : visB sc x = true) : Vis sc x := by
  unfold visB at h
  split at h
  · exact .inl (by assumption)
  · exact .inr (.inl (by assumption))
  · exact .inr (.inr (by assumption))
  · cases h
theorem locB_of {c : SC} {x : Str} (h : locB c x = true) : Loc c.sc x ∧ (c.fn x = true ∨ c.sc.names.lookup x = some .local) := by
  unfold locB at h
  split at h
  · rename_i e; exact ⟨.inl e, .inr e⟩
  · rename_i e; exact ⟨.inr e, .inl h⟩
  · cases h
theorem okName_of {x : Str} (h : okName x = true) : (x == ("__debug__" : Str)) = false ∧ (x == ("__classdict__" : Str)) = false ∧ x ≠ ("__name__" : Str) := by
  unfold okName at h
  obtain ⟨h1, h3⟩ := ands h
  obtain ⟨h1, h2⟩ := ands h1
  refine ⟨by simpa using h1, by simpa using h2, by simpa using h3⟩
theorem slotB_of {c : SC} {i : Nat} {x : Str} (h : slotB c i x = true) : c.N[i]? = some x ∧ Vis c.sc x ∧ (x == ("__debug__" : Str)) = false ∧ (x == ("__classdict__" : Str)) = false := by
  unfold slotB at h
  obtain ⟨h1, h3⟩ := ands h
  obtain ⟨h1, h2⟩ := ands h1
  obtain ⟨a, b, _⟩ := okName_of h3
  exact ⟨of_decide_eq_true h1, vis_of h2, a, b⟩
theorem storeB_of {c : SC} {i : Nat} {x : Str} (h : storeB c i x = true) : c.N[i]? = some x ∧ Loc c.sc x ∧ (c.fn x = true ∨ c.sc.names.lookup x = some .local) := by
  unfold storeB at h
  obtain ⟨h1, h2⟩ := ands h
  obtain ⟨a, b⟩ := locB_of h2
  exact ⟨of_decide_eq_true h1, a, b⟩
theorem glB_of {c : SC} {x : Str} (h : glB c x = true) : c.sc.names.lookup x = some .globalImplicit ∧ (x == ("__debug__" : Str)) = false ∧ x ≠ ("__name__" : Str) := by
  unfold glB at h
  obtain ⟨h1, h2⟩ := ands h
  obtain ⟨a, _, b⟩ := okName_of h1
  refine ⟨?_, a, b⟩
  split at h2
  · assumption
  · cases h2
end Rf

set_option Elab.async false
set_option linter.all false
set_option maxRecDepth 100000
set_option maxHeartbeats 4000000
/-! Rf: contexts, what a def promises, readings. -/
namespace Rf
open PySem PySem.Spec PyProof.Rows L2

/-! ### a def's promise -/
def ArR (K : PySem.W.Frag) (G H : Hp) : Ar → V → Prop
  | .pu d, x => Pu K G d x
  | .io xs, x => ∃ a ys, x = .ref a ∧ G a = none ∧ H a = some (.lst ys) ∧ PuA K G xs ys
  | .sc xs, x => ∃ a ys, x = .ref a ∧ ScrR K H a ys ∧ PuA K G xs ys
inductive ArsR (K : PySem.W.Frag) (G H : Hp) : List Ar → List V → Prop
  | nil : ArsR K G H [] []
  | cons {a : Ar} {x : V} {as : List Ar} {xs : List V} : ArR K G H a x → ArsR K G H as xs → ArsR K G H (a :: as) (x :: xs)
theorem ArsR.length {K : PySem.W.Frag} {G H : Hp} : ∀ {as : List Ar} {xs : List V}, ArsR K G H as xs → as.length = xs.length
  | _, _, .nil => rfl
  | _, _, .cons _ b => congrArg Nat.succ (ArsR.length b)
def ioAd : List Ar → List V → List Addr
  | .io _ :: as, .ref a :: vs => a :: ioAd as vs
  | _ :: as, _ :: vs => ioAd as vs
  | _, _ => []
inductive OutsR (K : PySem.W.Frag) (G H : Hp) : List Addr → List (List D) → Prop
  | nil : OutsR K G H [] []
  | cons {a : Addr} {ys : List V} {xs : List D} {as : List Addr} {xss : List (List D)} : G a = none → H a = some (.lst ys) → PuA K G xs ys → OutsR K G H as xss → OutsR K G H (a :: as) (xs :: xss)
def RvR (K : PySem.W.Frag) (G H Hs : Hp) (x : V) : Rv → Prop
  | .pu d => Pu K G d x
  | .fr xs => ∃ a ys, x = .ref a ∧ G a = none ∧ H a = some (.lst ys) ∧ PuA K G xs ys ∧ Hs a = none
structure CallQ (K : PySem.W.Frag) (G H : Hp) (ads : List Addr) (outs : List (List D)) (rv : Rv) (G' H' : Hp) (x : V) : Prop where
  sub : Sub G' H'
  g : Sub G G'
  h : ∀ a o, H a = some o → a ∉ ads → H' a = some o
  n : ∀ a, H a ≠ none → G a = none → a ∉ ads → G' a = none
  f : ∀ a, H a ≠ none → H' a ≠ none
  o : OutsR K G' H' ads outs
  r : RvR K G' H' H x rv
def spF (K : PySem.W.Frag) (F : FT) (f n : Nat) : Sp := fun vs H Q _ => ∃ G as rv outs, Sub G H ∧ ArsR K G H as vs ∧ (ioAd as vs).Nodup ∧ F f as = some (rv, outs) ∧ vs.length = n ∧
  ∀ G' H' x, CallQ K G H (ioAd as vs) outs rv G' H' x → Q x H'

/-- a call's end: it returns -/
def GR (outer : List Env) (P : Program) (w : World) (H : Hp) (s : Shared) (Q : VK) (r : Result) (s' : Shared) : Prop :=
  match r with
  | .ok (.ret u) => CE outer P w H s Q u s'
  | _ => False
structure FnG (P : Program) (w : World) (K : PySem.W.Frag) (mg : Str → Option Value) (base : Heap) (k : Nat) (f : Addr) (fd : FuncData) (ps : List Str) (sp : Sp) : Prop where
  len : ∀ vs H Q E, sp vs H Q E → vs.length = ps.length
  run : ∀ (A : Around) (outer : List Env) (s : Shared) (H : Hp) (args : Args) (us : List Value) (vs : List V) (Q : VK) (E : XK), Room k A → A.guards = some [] → Env0 P w K mg base A outer s H → BindsTo s fd args (ps.zip us) → Vals vs us → sp vs H Q E →
    codeAny (model P w) A (.call (.ref f) args) (GR outer P w H s Q) s
structure BindG (kws : List (Nat × List Str × List Nat)) (K : PySem.W.Frag) (f : Nat) (fd : FuncData) (ps : List Str) : Prop where
  pos : ∀ (s : Shared) (us : List Value), K.In s.heap → us.length = ps.length → BindsTo s fd ⟨us, []⟩ (ps.zip us)
  kw : ∀ ks p, (f, ks, p) ∈ kws → ∀ (s : Shared) (ws : List Value), K.In s.heap → ws.length = ks.length → ∃ us, pick ws p = some us ∧ BindsTo s fd ⟨[], ks.zip ws⟩ (ps.zip us)
structure PgOk (pg : Pg) (k : Nat) (P : Program) (w : World) (K : PySem.W.Frag) (mg : Str → Option Value) (base : Heap) : Prop where
  gl : ∀ (n : Nat) (y : Str) (d : D), pg.gl[n]? = some (y, d) → ∃ v u, mg y = some u ∧ RelV v u ∧ ∀ G, Pu K G d v
  bn : ∀ x, x ∈ pg.bn → mg x = none
  gcd : pg.gcd = true → mg "gcd" = some (.builtin "math.gcd")
  fns : ∀ (f : Nat) (x : Str) (ps : List Str) (fn : Fn), pg.fns[f]? = some (x, ps, fn) → ∃ a fd, mg x = some (.ref a) ∧ PySem.W.keepIn K (.ref a) = true ∧ fn.np = ps.length ∧ BindG pg.kws K f fd ps ∧ FnG P w K mg base k a fd ps (spF K (pg.F k) f ps.length)
structure XOk (pg : Pg) (k : Nat) (c : SC) (X : Cx) : Prop where
  N : X.N = c.N
  nd : X.N.Nodup
  sc : X.env.scope = c.sc
  fn : X.fn = c.fn
  calm : X.calm = true
  room : Room k X.A
  gds : X.A.guards = some []
  pg : PgOk pg k X.prog X.w X.K X.mg X.base
section
variable {pg : Pg} {k : Nat} {c : SC} {X : Cx}
theorem XOk.u67 (h : XOk pg k c X) : X.A.units + 67 < cLine := by have := h.room.un; omega
theorem XOk.u65 (h : XOk pg k c X) : X.A.units + 65 < cLine := by have := h.room.un; omega
theorem XOk.gl (h : XOk pg k c X) {x : Str} (e : glB c x = true) : Gl X x ∧ (x == ("__debug__" : Str)) = false ∧ x ≠ ("__name__" : Str) := by
  obtain ⟨a, b, d⟩ := glB_of e
  refine ⟨?_, b, d⟩
  show X.env.scope.names.lookup x = _
  rw [h.sc]; exact a
theorem XOk.blt (h : XOk pg k c X) {x : Str} (e : bltB pg c x = true) : Gl X x ∧ X.mg x = none ∧ (x == ("__debug__" : Str)) = false ∧ x ≠ ("__name__" : Str) := by
  obtain ⟨e1, e2⟩ := ands e
  obtain ⟨a, b, d⟩ := h.gl e1
  exact ⟨a, h.pg.bn x (by simpa using e2), b, d⟩
end

/-! ### the state behind -/
section
variable {O O' : Addr → Prop} {G H G' H' : Hp}
theorem Step.fb (st : Step O G H O' G' H') (a : Addr) (h : H' a = none) : H a = none := by
  cases q : H a with
  | none => rfl
  | some u => exact absurd h (st.f a (by rw [q]; simp))
end
def KE (K : PySem.W.Frag) (γ : Gam) (G H : Hp) (env : Ev) (σ : L2.St) (env' : Ev) (o : Opd) (Q : VK) : Prop := ∀ G' H' x, Sr K γ G' H' env' σ → Step (Ow env σ) G H (Ow env' σ) G' H' → OpdR K G' H' env' σ H x o → Q x H'
def tE (F : FT) (C : List D) (K : PySem.W.Frag) (γ : Gam) (ie : IE) : TE := fun σ H Q => ∃ G env o env', Sr K γ G H env σ ∧ evE F C ie env = some (o, env') ∧ KE K γ G H env σ env' o Q
def tT (F : FT) (C : List D) (K : PySem.W.Frag) (γ : Gam) (ie : IE) : TT := fun σ H Q => ∃ G env b env', Sr K γ G H env σ ∧ evE F C ie env = some (.pu (.bool b), env') ∧
  ∀ G' H', Sr K γ G' H' env' σ → Step (Ow env σ) G H (Ow env' σ) G' H' → Q b H'
def notFr : Opd → Bool
  | .fr _ => false
  | _ => true
inductive OpasR (K : PySem.W.Frag) (G H : Hp) (env : Ev) (σ : L2.St) (Hs : Hp) : List V → List Opd → Prop
  | nil : OpasR K G H env σ Hs [] []
  | cons {x : V} {o : Opd} {xs : List V} {os : List Opd} : OpdR K G H env σ Hs x o → notFr o = true → OpasR K G H env σ Hs xs os → OpasR K G H env σ Hs (x :: xs) (o :: os)
def tA (F : FT) (C : List D) (K : PySem.W.Frag) (γ : Gam) (es : IEs) : TA := fun σ H Q => ∃ G env os env', Sr K γ G H env σ ∧ evA F C es env = some (os, env') ∧
  ∀ G' H' xs, Sr K γ G' H' env' σ → Step (Ow env σ) G H (Ow env' σ) G' H' → OpasR K G' H' env' σ H xs os → Q xs H'
/-- items: each a value from now on -/
def tP (F : FT) (C : List D) (K : PySem.W.Frag) (γ : Gam) (es : IEs) : TA := fun σ H Q => ∃ G env ds env', Sr K γ G H env σ ∧ evP F C es env = some (ds, env') ∧
  ∀ G' H' xs, Sr K γ G' H' env' σ → Step (Ow env σ) G H (Ow env' σ) G' H' → PuA K G' ds xs → Q xs H'
def tO (F : FT) (C : List D) (K : PySem.W.Frag) (γ : Gam) (io : IO) : TO := fun σ H Q => ∃ G env i env', Sr K γ G H env σ ∧ evO F C io env = some (i, env') ∧
  ∀ G' H', Sr K γ G' H' env' σ → Step (Ow env σ) G H (Ow env' σ) G' H' → Q i H'

theorem PE.weak {X : Cx} {e : Expr} {t t' : TE} (h : PE X e t) (w : ∀ σ H Q, t' σ H Q → t σ H Q) : PE X e t' := ⟨fun pins s σ H Q I q => h.run pins s σ H Q I (w _ _ _ q)⟩
theorem PT.weak {X : Cx} {e : Expr} {t t' : TT} (h : PT X e t) (w : ∀ σ H Q, t' σ H Q → t σ H Q) : PT X e t' := ⟨fun pins s σ H Q I q => h.run pins s σ H Q I (w _ _ _ q)⟩
theorem PW.weak {X : Cx} {e : Expr} {t t' : TT} (h : PW X e t) (w : ∀ σ H Q, t' σ H Q → t σ H Q) : PW X e t' := ⟨fun wh pins s σ H Q I q => h.run wh pins s σ H Q I (w _ _ _ q)⟩
theorem PA.weak {X : Cx} {e : List Expr} {t t' : TA} (h : PA X e t) (w : ∀ σ H Q, t' σ H Q → t σ H Q) : PA X e t' := ⟨fun pos pins s σ H Q I q => h.run pos pins s σ H Q I (w _ _ _ q)⟩
theorem PK.weak {X : Cx} {e : List Keyword} {t t' : TA} (h : PK X e t) (w : ∀ σ H Q, t' σ H Q → t σ H Q) : PK X e t' := ⟨fun pos pins s σ H Q I q => h.run pos pins s σ H Q I (w _ _ _ q)⟩
theorem PO.weak {X : Cx} {e : Option Expr} {t t' : TO} (h : PO X e t) (w : ∀ σ H Q, t' σ H Q → t σ H Q) : PO X e t' := ⟨fun pins s σ H Q I q => h.run pins s σ H Q I (w _ _ _ q)⟩

section
variable {K : PySem.W.Frag} {γ : Gam} {G H G1 H1 G2 H2 : Hp} {env env1 env2 : Ev} {σ : L2.St} {o : Opd} {Q : VK} {x : V} {d : D}
theorem KE.fin (k : KE K γ G H env σ env1 o Q) (s : Sr K γ G1 H1 env1 σ) (st : Step (Ow env σ) G H (Ow env1 σ) G1 H1) : RQ K G1 H1 o Q := fun G' H' x e r =>
  k G' H' x (s.ext e) (st.trans (Step.ext e)) ((opd_of s e r).start st.fb)
theorem KE.pu (k : KE K γ G H env σ env1 (.pu d) Q) (s : Sr K γ G1 H1 env1 σ) (st : Step (Ow env σ) G H (Ow env1 σ) G1 H1) (r : Pu K G1 d x) : Q x H1 := k G1 H1 x s st r
theorem rdsAll_ok (s : Sr K γ G1 H1 env1 σ) : ∀ {os : List Opd} {xs : List V} {ds : List D}, OpasR K G1 H1 env1 σ H xs os → rdsAll env1 os = some ds → RdsA K G1 H1 ds xs
  | _, _, _, .nil, e => by simp [rdsAll] at e; subst e; exact .nil
  | _, _, _, .cons r _ rr, e => by
    simp only [rdsAll] at e
    split at e
    · rename_i d ds h1 h2
      cases e
      exact .cons (rds_ok s r h1) (rdsAll_ok s rr h2)
    · cases e
theorem OpasR.later {Hs G' H' : Hp} {env' : Ev} (st : Step (Ow env σ) G H (Ow env' σ) G' H') : ∀ {os : List Opd} {xs : List V}, OpasR K G H env σ Hs xs os → OpasR K G' H' env' σ Hs xs os
  | _, _, .nil => .nil
  | _, _, .cons r n rr => .cons (r.later st) n (OpasR.later st rr)
theorem OpasR.start {Hs Hs' : Hp} (h : ∀ a, Hs a = none → Hs' a = none) : ∀ {os : List Opd} {xs : List V}, OpasR K G H env σ Hs xs os → OpasR K G H env σ Hs' xs os
  | _, _, .nil => .nil
  | _, _, .cons r n rr => .cons (r.start h) n (OpasR.start h rr)
theorem OpasR.length {Hs : Hp} : ∀ {os : List Opd} {xs : List V}, OpasR K G H env σ Hs xs os → os.length = xs.length
  | _, _, .nil => rfl
  | _, _, .cons _ _ b => congrArg Nat.succ (OpasR.length b)
/-- a new list given away as a value -/
theorem thaw_ok {G0 H0 : Hp} {env0 : Ev} (s : Sr K γ G H env σ) (st : Step (Ow env0 σ) G0 H0 (Ow env σ) G H) (r : OpdR K G H env σ H0 x o) :
    ∃ G1, Sr K γ G1 H env σ ∧ Step (Ow env0 σ) G0 H0 (Ow env σ) G1 H ∧ OpdR K G1 H env σ H0 x (thaw o) ∧ notFr (thaw o) = true := by
  cases o with
  | pu d => exact ⟨G, s, st, r, rfl⟩
  | bo i => exact ⟨G, s, st, r, rfl⟩
  | fo xs => exact ⟨G, s, st, r, rfl⟩
  | fr xs =>
    obtain ⟨G1, a, b, _, e, _⟩ := frz_ok (d := .list xs) s st r rfl
    exact ⟨G1, a, b, e, rfl⟩
end
end Rf

set_option Elab.async false
set_option linter.all false
set_option maxRecDepth 100000
set_option maxHeartbeats 4000000
/-! Rf: names, constants, operators, tests, displays, subscripts. -/
namespace Rf
open PySem PySem.Spec PyProof.Rows L2

section
variable {X : Cx} {F : FT} {C : List D} {γ : Gam} {a b c : Expr} {ia ib ic : IE} {pos : Pos}

theorem opd_bl {K : PySem.W.Frag} {G H Hs : Hp} {env : Ev} {σ : L2.St} {x : V} {b : Bool} (r : OpdR K G H env σ Hs x (.pu (.bool b))) : x = .bl b := by
  have r' : Pu K G (.bool b) x := r
  cases r'; rfl
theorem opd_int {K : PySem.W.Frag} {G H Hs : Hp} {env : Ev} {σ : L2.St} {x : V} {b : Int} (r : OpdR K G H env σ Hs x (.pu (.int b))) : x = .int b := by
  have r' : Pu K G (.int b) x := r
  cases r'; rfl
theorem pt_plain {e : Expr} {ie : IE} (h : PE X e (tE F C X.K γ ie)) (he : ∀ whole, isTrue e X.env whole = (do let v ← whole; standAt e.pos; holding [v] (truthy v))) : PT X e (tT F C X.K γ ie) := by
  refine PT.weak (pt_val h he) fun σ H Q ⟨G, env, b, env', sr, ev, k⟩ => ?_
  exact ⟨G, env, _, env', sr, ev, fun G' H' x s st r => ⟨b, opd_bl r, k G' H' s st⟩⟩

theorem e_var {i : Nat} {x : Str} (hN : X.N[i]? = some x) (hv : Vis X.env.scope x) (hd : (x == ("__debug__" : Str)) = false) (hcd : (x == ("__classdict__" : Str)) = false) : PE X (.Name x pos) (tE F C X.K γ (.var i)) := by
  refine PE.weak (pe_var hN hv hd hcd) fun σ H Q ⟨G, env, o, env', sr, ev, k⟩ => ?_
  simp only [evE] at ev
  split at ev
  · rename_i d q
    cases ev
    obtain ⟨v, h1, h2⟩ := sr.slot i _ q
    exact ⟨v, h1, k G H v sr Step.refl h2⟩
  · rename_i t xs q
    cases ev
    obtain ⟨l, ys, h1, _⟩ := sr.slot i _ q
    exact ⟨_, h1, k G H _ sr Step.refl h1⟩
  · rename_i t xs q
    cases ev
    obtain ⟨l, ys, h1, _⟩ := sr.slot i _ q
    exact ⟨_, h1, k G H _ sr Step.refl h1⟩
  · cases ev

theorem ownAt_set {env : Ev} {σ : L2.St} {i j : Nat} {l : Addr} {d : D} (h : OwnAt (env.set i (.val d)) σ j l) : OwnAt env σ j l ∧ j ≠ i := by
  obtain ⟨⟨t, xs, e⟩, h1⟩ := h
  by_cases q : i = j
  · subst q
    rw [List.getElem?_set] at e
    simp only [if_true] at e
    split at e <;> cases e
  · rw [List.getElem?_set_ne q] at e
    exact ⟨⟨⟨t, xs, e⟩, h1⟩, fun z => q z.symm⟩
theorem e_frz {i : Nat} {x : Str} (hN : X.N[i]? = some x) (hv : Vis X.env.scope x) (hd : (x == ("__debug__" : Str)) = false) (hcd : (x == ("__classdict__" : Str)) = false) : PE X (.Name x pos) (tE F C X.K γ (.frz i)) := by
  refine PE.weak (pe_var hN hv hd hcd) fun σ H Q ⟨G, env, o, env', sr, ev, k⟩ => ?_
  simp only [evE] at ev
  split at ev
  · rename_i d q
    cases ev
    obtain ⟨v, h1, h2⟩ := sr.slot i _ q
    exact ⟨v, h1, k G H v sr Step.refl h2⟩
  · rename_i xs q
    cases ev
    obtain ⟨l, ys, h1, h2, h3, h4, h5⟩ := sr.ow_at q
    have up : Sub G (upd G l (.lst ys)) := sub_tell h2
    have pl : Pu X.K (upd G l (.lst ys)) (.list xs) (.ref l) := .lst upd_same (h4.mono up)
    have hi : i < env.length := (List.getElem?_eq_some_iff.mp q).1
    refine ⟨_, h1, k (upd G l (.lst ys)) H _ ⟨fun b u e => ?_, by simpa using sr.len, fun j s e => ?_, fun j j' b h h' => ?_⟩ ⟨up, fun _ _ e _ => e, fun b h1 h2 h3 => ?_, fun _ e => e, fun b hb => ?_⟩ pl⟩
    · by_cases z : b = l
      · subst z; rw [upd_same] at e; cases e; exact h3
      · rw [upd_ne z] at e; exact sr.sub _ _ e
    · by_cases z : i = j
      · subst z
        rw [List.getElem?_set_self hi] at e
        cases e
        exact ⟨_, h1, pl⟩
      · rw [List.getElem?_set_ne z] at e
        have q' := sr.slot j s e
        cases s with
        | emp => trivial
        | val d => obtain ⟨v, e1, e2⟩ := q'; exact ⟨v, e1, e2.mono up⟩
        | own t zs =>
          obtain ⟨m, ws, e1, e2, e3, e4, e5⟩ := q'
          refine ⟨m, ws, e1, ?_, e3, e4.mono up, e5⟩
          rw [upd_ne]
          · exact e2
          · rintro rfl
            exact z (sr.inj i j m h5 ⟨⟨_, _, e⟩, e1⟩)
        | scr t zs => obtain ⟨m, ws, e1, e2, e3⟩ := q'; exact ⟨m, ws, e1, e2, e3.mono up⟩
    · exact sr.inj j j' b (ownAt_set h).1 (ownAt_set h').1
    · rw [upd_ne (fun z => h3 (by subst z; exact ⟨i, h5⟩))]; exact h2
    · obtain ⟨j, hj⟩ := hb
      exact .inl ⟨j, (ownAt_set hj).1⟩
  · cases ev

theorem e_cst {d : D} {cc : Const} {j} (h : constB d cc = true) : PE X (.Constant cc j pos) (tE F C X.K γ (.cst d)) := by
  have key : ∀ {v : V}, PE X (.Constant cc j pos) (tC v) → (∀ G, Pu X.K G d v) → PE X (.Constant cc j pos) (tE F C X.K γ (.cst d)) := fun {v} h1 h2 =>
    PE.weak h1 fun σ H Q ⟨G, env, o, env', sr, ev, k⟩ => by
      simp only [evE] at ev
      cases ev
      exact k G H v sr Step.refl (h2 G)
  cases d <;> cases cc <;> simp only [constB] at h <;> (try cases h)
  · exact key pe_non fun _ => .non
  · rename_i x y
    have e : x = y := by simpa using h
    subst e
    exact key pe_bl fun _ => .bl _
  · rename_i x y
    have e : x = y := of_decide_eq_true h
    subst e
    exact key pe_int fun _ => .int _
  · rename_i x y
    have e : x = y := of_decide_eq_true h
    subst e
    exact key pe_str fun _ => .str _
theorem e_glo {n : Nat} {x : Str} {d : D} {v : V} {u : Value} (hC : C[n]? = some d) (hg : Gl X x) (hm : X.mg x = some u) (r : RelV v u) (p : ∀ G, Pu X.K G d v) (hd : (x == ("__debug__" : Str)) = false) : PE X (.Name x pos) (tE F C X.K γ (.glo n)) :=
  PE.weak (pe_glob hg hm r hd) fun σ H Q ⟨G, env, o, env', sr, ev, k⟩ => by
    simp only [evE, hC] at ev
    cases ev
    exact k G H v sr Step.refl (p G)

theorem e_bin {o : BOp} {op : Operator} (ho : bopB o op = true) (ha : PE X a (tE F C X.K γ ia)) (hb : PE X b (tE F C X.K γ ib)) : PE X (.BinOp a op b pos) (tE F C X.K γ (.bin o ia ib)) := by
  have e : op = bopOf o := by cases o <;> cases op <;> first | rfl | cases ho
  subst e
  refine PE.weak (pe_op (op_bin o) ha hb) fun σ H Q ⟨G, env, o', env', sr, ev, k⟩ => ?_
  simp only [evE] at ev
  split at ev
  · cases ev
  rename_i x e1 h1
  split at ev
  · cases ev
  rename_i y e2 h2
  split at ev
  · rename_i p q hp hq
    obtain ⟨res, hr, he⟩ := Option.map_eq_some_iff.mp ev
    cases he
    exact ⟨G, env, x, e1, sr, h1, fun G1 H1 v s1 st1 r1 => ⟨G1, e1, y, _, s1, h2, fun G2 H2 u s2 st2 r2 =>
      ⟨G2, p, q, _, s2.sub, rdp_ok s2 (r1.later st2) hp, rdp_ok s2 r2 hq, hr, k.fin s2 (st1.trans st2)⟩⟩⟩
  · cases ev
theorem e_neg (ha : PE X a (tE F C X.K γ ia)) : PE X (.UnaryOp .USub a pos) (tE F C X.K γ (.neg ia)) := by
  refine PE.weak (pe_un un_neg ha) fun σ H Q ⟨G, env, o', env', sr, ev, k⟩ => ?_
  simp only [evE] at ev
  split at ev
  · rename_i d e1 h1
    obtain ⟨res, hr, he⟩ := Option.map_eq_some_iff.mp ev
    cases he
    cases d <;> simp only [negV] at hr <;> cases hr
    rename_i i
    exact ⟨G, env, _, _, sr, h1, fun G1 H1 v s1 st1 r1 => ⟨i, opd_int r1, k.pu s1 st1 (.int _)⟩⟩
  · cases ev
theorem cop_of {o : COp} {op : CmpOp} (ho : copB o op = true) : op = copOf o := by cases o <;> cases op <;> first | rfl | cases ho
theorem cmp_red {o : COp} {σ : L2.St} {H : Hp} {Q : VK} (h : tE F C X.K γ (.cmp o ia ib) σ H Q) : tOp (rCmpV X.K o) (tE F C X.K γ ia) (tE F C X.K γ ib) σ H Q := by
  obtain ⟨G, env, o', env', sr, ev, k⟩ := h
  simp only [evE] at ev
  split at ev
  · cases ev
  rename_i x e1 h1
  split at ev
  · cases ev
  rename_i y e2 h2
  split at ev
  · rename_i p q hp hq
    obtain ⟨res, hr, he⟩ := Option.map_eq_some_iff.mp ev
    cases he
    exact ⟨G, env, x, e1, sr, h1, fun G1 H1 v s1 st1 r1 => ⟨G1, e1, y, _, s1, h2, fun G2 H2 u s2 st2 r2 =>
      ⟨G2, p, q, _, s2.sub, rds_ok s2 (r1.later st2) hp, rds_ok s2 r2 hq, hr, k.pu s2 (st1.trans st2) (.bl _)⟩⟩⟩
  · cases ev
/-- a test, from the value's reading -/
theorem tT_tE {ie : IE} {K : PySem.W.Frag} {σ : L2.St} {H : Hp} {Q : Bool → Hp → Prop} (h : tT F C K γ ie σ H Q) : tE F C K γ ie σ H (fun x H' => ∃ b, x = .bl b ∧ Q b H') := by
  obtain ⟨G, env, b, env', sr, ev, k⟩ := h
  exact ⟨G, env, _, env', sr, ev, fun G' H' x s st r => ⟨b, opd_bl r, k G' H' s st⟩⟩
theorem e_cmp {o : COp} {op : CmpOp} (hu : X.A.units + 65 < cLine) (ho : copB o op = true) (hs : notSet b = true) (ha : PE X a (tE F C X.K γ ia)) (hb : PE X b (tE F C X.K γ ib)) : PE X (.Compare a [op] [b] pos) (tE F C X.K γ (.cmp o ia ib)) := by
  have e := cop_of ho
  subst e
  exact PE.weak (pe_cmpR (op_cmpV hu o) ha hb (mark_no hs)) fun _ _ _ h => cmp_red h
theorem t_cmp {o : COp} {op : CmpOp} (hu : X.A.units + 65 < cLine) (ho : copB o op = true) (hs : notSet b = true) (ha : PE X a (tE F C X.K γ ia)) (hb : PE X b (tE F C X.K γ ib)) : PT X (.Compare a [op] [b] pos) (tT F C X.K γ (.cmp o ia ib)) := by
  have e := cop_of ho
  subst e
  exact PT.weak (pt_cmpR (op_cmpV hu o) ha hb (mark_no hs)) fun _ _ _ h => cmp_red (tT_tE h)
theorem chn_red {o o' : COp} {σ : L2.St} {H : Hp} {Q : VK} (h : tE F C X.K γ (.chn o o' ia ib ic) σ H Q) : tChain (rCmpV X.K o) (rCmpV X.K o') (tE F C X.K γ ia) (tE F C X.K γ ib) (tE F C X.K γ ic) σ H Q := by
  obtain ⟨G, env, oo, env', sr, ev, k⟩ := h
  simp only [evE] at ev
  split at ev
  · cases ev
  rename_i x e1 h1
  split at ev
  · cases ev
  rename_i y e2 h2
  split at ev
  · rename_i p q hp hq
    refine ⟨G, env, x, e1, sr, h1, fun G1 H1 v s1 st1 r1 => ⟨G1, e1, y, e2, s1, h2, fun G2 H2 u s2 st2 r2 => ?_⟩⟩
    split at ev
    · cases ev
    · rename_i hc
      cases ev
      exact ⟨G2, p, q, false, s2.sub, rds_ok s2 (r1.later st2) hp, rds_ok s2 r2 hq, hc, false, rfl, k.pu s2 (st1.trans st2) (.bl _)⟩
    · rename_i hc
      split at ev
      · cases ev
      rename_i z e3 h3
      split at ev
      · rename_i q' r hq' hr'
        obtain ⟨res, hr, he⟩ := Option.map_eq_some_iff.mp ev
        cases he
        refine ⟨G2, p, q, true, s2.sub, rds_ok s2 (r1.later st2) hp, rds_ok s2 r2 hq, hc, true, rfl, ?_⟩
        rw [if_pos rfl]
        exact ⟨G2, e2, z, _, s2, h3, fun G3 H3 w s3 st3 r3 => ⟨G3, q', r, _, s3.sub, rds_ok s3 (r2.later st3) hq', rds_ok s3 r3 hr', hr, k.pu s3 ((st1.trans st2).trans st3) (.bl _)⟩⟩
      · cases ev
  · cases ev
theorem e_chn {o o' : COp} {op op' : CmpOp} (hu : X.A.units + 65 < cLine) (ho : copB o op = true) (ho' : copB o' op' = true) (hs : notSet c = true) (ha : PE X a (tE F C X.K γ ia)) (hb : PE X b (tE F C X.K γ ib)) (hc : PE X c (tE F C X.K γ ic)) :
    PE X (.Compare a [op, op'] [b, c] pos) (tE F C X.K γ (.chn o o' ia ib ic)) := by
  have e := cop_of ho; have e' := cop_of ho'
  subst e; subst e'
  exact PE.weak (pe_chain (op_cmpV hu o) (op_cmpV hu o') ha hb hc (last_no hs)) fun _ _ _ h => chn_red h
theorem t_chn {o o' : COp} {op op' : CmpOp} (hu : X.A.units + 65 < cLine) (ho : copB o op = true) (ho' : copB o' op' = true) (hs : notSet c = true) (ha : PE X a (tE F C X.K γ ia)) (hb : PE X b (tE F C X.K γ ib)) (hc : PE X c (tE F C X.K γ ic)) :
    PT X (.Compare a [op, op'] [b, c] pos) (tT F C X.K γ (.chn o o' ia ib ic)) := by
  have e := cop_of ho; have e' := cop_of ho'
  subst e; subst e'
  exact PT.weak (pt_chain (op_cmpV hu o) (op_cmpV hu o') ha hb hc (last_no hs)) fun _ _ _ h => chn_red (tT_tE h)

/-! ### and, or, not, if-else -/
theorem and_cases {env env' : Ev} {o : Opd} (ev : evE F C (.and2 ia ib) env = some (o, env')) :
    (∃ e1, evE F C ia env = some (.pu (.bool true), e1) ∧ evE F C ib e1 = some (o, env')) ∨ (evE F C ia env = some (.pu (.bool false), env') ∧ o = .pu (.bool false)) := by
  simp only [evE] at ev
  split at ev
  · rename_i e1 h1; exact .inl ⟨e1, h1, ev⟩
  · rename_i e1 h1; cases ev; exact .inr ⟨h1, rfl⟩
  · cases ev
theorem or_cases {env env' : Ev} {o : Opd} (ev : evE F C (.or2 ia ib) env = some (o, env')) :
    (∃ e1, evE F C ia env = some (.pu (.bool false), e1) ∧ evE F C ib e1 = some (o, env')) ∨ (evE F C ia env = some (.pu (.bool true), env') ∧ o = .pu (.bool true)) := by
  simp only [evE] at ev
  split at ev
  · rename_i e1 h1; exact .inl ⟨e1, h1, ev⟩
  · rename_i e1 h1; cases ev; exact .inr ⟨h1, rfl⟩
  · cases ev
theorem KE.later {K : PySem.W.Frag} {G H G1 H1 : Hp} {env env1 env2 : Ev} {σ : L2.St} {o : Opd} {Q : VK} (k : KE K γ G H env σ env2 o Q) (st : Step (Ow env σ) G H (Ow env1 σ) G1 H1) : KE K γ G1 H1 env1 σ env2 o Q := fun G' H' x s st' r =>
  k G' H' x s (st.trans st') (r.start st.fb)
theorem and_redV {K : PySem.W.Frag} {σ : L2.St} {H : Hp} {Q : VK} (h : tE F C K γ (.and2 ia ib) σ H Q) : tAndV (tE F C K γ ia) (tE F C K γ ib) σ H Q := by
  obtain ⟨G, env, o, env', sr, ev, k⟩ := h
  rcases and_cases ev with ⟨e1, h1, h2⟩ | ⟨h1, rfl⟩
  · refine ⟨G, env, _, e1, sr, h1, fun G1 H1 x s1 st1 r1 => ⟨true, opd_bl r1, ?_⟩⟩
    rw [if_pos rfl]
    exact ⟨G1, e1, o, env', s1, h2, k.later st1⟩
  · exact ⟨G, env, _, env', sr, h1, fun G1 H1 x s1 st1 r1 => ⟨false, opd_bl r1, k.pu s1 st1 (.bl _)⟩⟩
theorem or_redV {K : PySem.W.Frag} {σ : L2.St} {H : Hp} {Q : VK} (h : tE F C K γ (.or2 ia ib) σ H Q) : tOrV (tE F C K γ ia) (tE F C K γ ib) σ H Q := by
  obtain ⟨G, env, o, env', sr, ev, k⟩ := h
  rcases or_cases ev with ⟨e1, h1, h2⟩ | ⟨h1, rfl⟩
  · exact ⟨G, env, _, e1, sr, h1, fun G1 H1 x s1 st1 r1 => ⟨false, opd_bl r1, ⟨G1, e1, o, env', s1, h2, k.later st1⟩⟩⟩
  · refine ⟨G, env, _, env', sr, h1, fun G1 H1 x s1 st1 r1 => ⟨true, opd_bl r1, ?_⟩⟩
    rw [if_pos rfl]
    exact k.pu s1 st1 (.bl _)
theorem and_redT {K : PySem.W.Frag} {σ : L2.St} {H : Hp} {Q : Bool → Hp → Prop} (h : tT F C K γ (.and2 ia ib) σ H Q) : tAnd (tT F C K γ ia) (tT F C K γ ib) σ H Q := by
  obtain ⟨G, env, b, env', sr, ev, k⟩ := h
  rcases and_cases ev with ⟨e1, h1, h2⟩ | ⟨h1, e⟩
  · refine ⟨G, env, true, e1, sr, h1, fun G1 H1 s1 st1 => ?_⟩
    show (if true = true then tT F C K γ ib σ H1 Q else _)
    rw [if_pos rfl]
    exact ⟨G1, e1, b, env', s1, h2, fun G' H' s st => k G' H' s (st1.trans st)⟩
  · cases e
    exact ⟨G, env, false, env', sr, h1, fun G1 H1 s1 st1 => k G1 H1 s1 st1⟩
theorem or_redT {K : PySem.W.Frag} {σ : L2.St} {H : Hp} {Q : Bool → Hp → Prop} (h : tT F C K γ (.or2 ia ib) σ H Q) : tOr (tT F C K γ ia) (tT F C K γ ib) σ H Q := by
  obtain ⟨G, env, b, env', sr, ev, k⟩ := h
  rcases or_cases ev with ⟨e1, h1, h2⟩ | ⟨h1, e⟩
  · exact ⟨G, env, false, e1, sr, h1, fun G1 H1 s1 st1 => ⟨G1, e1, b, env', s1, h2, fun G' H' s st => k G' H' s (st1.trans st)⟩⟩
  · cases e
    refine ⟨G, env, true, env', sr, h1, fun G1 H1 s1 st1 => ?_⟩
    show (if true = true then Q true H1 else _)
    rw [if_pos rfl]
    exact k G1 H1 s1 st1
theorem e_not (ha : PE X a (tE F C X.K γ ia)) : PE X (.UnaryOp .Not a pos) (tE F C X.K γ (.nt ia)) := by
  refine PE.weak (pe_not ha) fun σ H Q ⟨G, env, o, env', sr, ev, k⟩ => ?_
  simp only [evE] at ev
  split at ev
  · rename_i b e1 h1
    cases ev
    exact ⟨G, env, _, _, sr, h1, fun G1 H1 x s1 st1 r1 => ⟨b, opd_bl r1, k.pu s1 st1 (.bl _)⟩⟩
  · cases ev
theorem t_not (ha : PT X a (tT F C X.K γ ia)) : PT X (.UnaryOp .Not a pos) (tT F C X.K γ (.nt ia)) := by
  refine PT.weak (pt_not ha) fun σ H Q ⟨G, env, o, env', sr, ev, k⟩ => ?_
  simp only [evE] at ev
  split at ev
  · rename_i b e1 h1
    cases ev
    exact ⟨G, env, _, _, sr, h1, fun G1 H1 s1 st1 => k G1 H1 s1 st1⟩
  · cases ev
theorem ite_cases {env env' : Ev} {o : Opd} (ev : evE F C (.ite ic ia ib) env = some (o, env')) : ∃ d e1, evE F C ic env = some (.pu (.bool d), e1) ∧ evE F C (if d = true then ia else ib) e1 = some (o, env') := by
  simp only [evE] at ev
  split at ev
  · rename_i e1 h1; exact ⟨true, e1, h1, ev⟩
  · rename_i e1 h1; exact ⟨false, e1, h1, ev⟩
  · cases ev
theorem e_ite (hc : PT X c (tT F C X.K γ ic)) (ha : PE X a (tE F C X.K γ ia)) (hb : PE X b (tE F C X.K γ ib)) : PE X (.IfExp c a b pos) (tE F C X.K γ (.ite ic ia ib)) := by
  refine PE.weak (pe_ifExp hc ha hb) fun σ H Q ⟨G, env, o, env', sr, ev, k⟩ => ?_
  obtain ⟨d, e1, h1, h2⟩ := ite_cases ev
  refine ⟨G, env, d, e1, sr, h1, fun G1 H1 s1 st1 => ?_⟩
  cases d with
  | true => exact ⟨G1, e1, o, env', s1, h2, k.later st1⟩
  | false => exact ⟨G1, e1, o, env', s1, h2, k.later st1⟩
theorem t_ite (hc : PT X c (tT F C X.K γ ic)) (ha : PT X a (tT F C X.K γ ia)) (hb : PT X b (tT F C X.K γ ib)) : PT X (.IfExp c a b pos) (tT F C X.K γ (.ite ic ia ib)) := by
  refine ⟨fun pins s σ H Q I ⟨G, env, bb, env', sr, ev, k⟩ => ?_⟩
  obtain ⟨d, e1, h1, h2⟩ := ite_cases ev
  show wpAny _ _ (do if ← isTrue c X.env (eval c X.env) then isTrue a X.env (eval a X.env) else isTrue b X.env (eval b X.env)) _ _ _
  refine wpAny_bind (thn (hc.run pins s σ H (fun q H1 => q = d ∧ ∃ G1, Sr X.K γ G1 H1 e1 σ ∧ Step (Ow env σ) G H (Ow e1 σ) G1 H1) I ⟨G, env, d, e1, sr, h1, fun G1 H1 s1 st1 => ⟨rfl, G1, s1, st1⟩⟩) fun q s1 ⟨H1, I1, e, G1, sr1, st1⟩ => ?_)
  subst e
  cases q with
  | true => exact ha.run pins s1 σ H1 Q I1 ⟨G1, e1, bb, env', sr1, h2, fun G' H' s st => k G' H' s (st1.trans st)⟩
  | false => exact hb.run pins s1 σ H1 Q I1 ⟨G1, e1, bb, env', sr1, h2, fun G' H' s st => k G' H' s (st1.trans st)⟩

/-! ### displays, subscripts -/
variable {es : List Expr} {ies : IEs} {x1 : Nat}
theorem e_tup {x1} (h : PA X es (tP F C X.K γ ies)) : PE X (.Tuple es x1 pos) (tE F C X.K γ (.tup ies)) := by
  refine PE.weak (pe_tup h) fun σ H Q ⟨G, env, o, env', sr, ev, k⟩ => ?_
  simp only [evE] at ev
  split at ev
  · rename_i ds e1 h1
    split at ev
    · rename_i hz
      cases ev
      exact ⟨G, env, ds, _, sr, h1, fun G1 H1 xs s1 st1 r1 => ⟨by rw [← r1.length]; exact lenOk_le hz, fun p hp => RQ.tup (k.fin s1 st1) s1.sub r1 hp⟩⟩
    · cases ev
  · cases ev
theorem e_lst (h : PA X es (tP F C X.K γ ies)) : PE X (.List es pos) (tE F C X.K γ (.lst ies)) := by
  refine PE.weak (pe_lst h) fun σ H Q ⟨G, env, o, env', sr, ev, k⟩ => ?_
  simp only [evE] at ev
  split at ev
  · rename_i ds e1 h1
    split at ev
    · rename_i hz
      cases ev
      exact ⟨G, env, ds, _, sr, h1, fun G1 H1 xs s1 st1 r1 => ⟨by rw [← r1.length]; exact lenOk_le hz, fun p hp => RQ.fr (k.fin s1 st1) s1.sub r1 hp⟩⟩
    · cases ev
  · cases ev
theorem e_idx (hs : notSlice b = true) (ha : PE X a (tE F C X.K γ ia)) (hb : PE X b (tE F C X.K γ ib)) : PE X (.Subscript a b pos) (tE F C X.K γ (.idx ia ib)) := by
  refine PE.weak (pe_ix ix_V ha hb (plainIx hs)) fun σ H Q ⟨G, env, o', env', sr, ev, k⟩ => ?_
  simp only [evE] at ev
  split at ev
  · cases ev
  rename_i x e1 h1
  split at ev
  · rename_i kk e2 h2
    split at ev
    · rename_i d hd
      obtain ⟨r, hr, he⟩ := Option.map_eq_some_iff.mp ev
      cases he
      refine ⟨G, env, x, e1, sr, h1, fun G1 H1 v s1 st1 r1 => ⟨G1, e1, _, _, s1, h2, fun G2 H2 u s2 st2 r2 => ?_⟩⟩
      have hk : ∃ i, kk = .int i := by
        cases d <;> cases kk <;> simp only [idxV] at hr <;> first | exact ⟨_, rfl⟩ | cases hr
      obtain ⟨i, rfl⟩ := hk
      exact ⟨G2, d, i, r, s2.sub, rds_ok s2 (r1.later st2) hd, opd_int r2, hr, fun z pz => k.pu s2 (st1.trans st2) pz⟩
    · cases ev
  · cases ev
theorem o_non : PO X none (tO F C X.K γ .non) := PO.weak po_none fun σ H Q ⟨G, env, i, env', sr, ev, k⟩ => by
  simp only [evO] at ev
  cases ev
  exact k G H sr Step.refl
theorem o_som {e : Expr} {ie : IE} (h : PE X e (tE F C X.K γ ie)) : PO X (some e) (tO F C X.K γ (.som ie)) := PO.weak (po_some h) fun σ H Q ⟨G, env, i, env', sr, ev, k⟩ => by
  simp only [evO] at ev
  split at ev
  · rename_i j e1 h1
    cases ev
    exact ⟨G, env, _, _, sr, h1, fun G1 H1 x s1 st1 r1 => ⟨j, opd_int r1, k G1 H1 s1 st1⟩⟩
  · cases ev
theorem e_slc {lo hi : Option Expr} {il ih : IO} {p2 : Pos} (ha : PE X a (tE F C X.K γ ia)) (hl : PO X lo (tO F C X.K γ il)) (hh : PO X hi (tO F C X.K γ ih)) : PE X (.Subscript a (.Slice lo hi none p2) pos) (tE F C X.K γ (.slc ia il ih)) := by
  refine PE.weak (pe_slice sl_V ha hl hh) fun σ H Q ⟨G, env, o', env', sr, ev, k⟩ => ?_
  simp only [evE] at ev
  split at ev
  · cases ev
  rename_i x e1 h1
  split at ev
  · cases ev
  rename_i l e2 h2
  split at ev
  · cases ev
  rename_i u e3 h3
  split at ev
  · rename_i d hd
    obtain ⟨r, hr, he⟩ := Option.map_eq_some_iff.mp ev
    cases he
    exact ⟨G, env, x, e1, sr, h1, fun G1 H1 v s1 st1 r1 => ⟨G1, e1, l, e2, s1, h2, fun G2 H2 s2 st2 => ⟨G2, e2, u, _, s2, h3, fun G3 H3 s3 st3 =>
      ⟨G3, d, _, s3.sub, rds_ok s3 ((r1.later st2).later st3) hd, hr, k.fin s3 ((st1.trans st2).trans st3)⟩⟩⟩⟩
  · cases ev
end
end Rf

set_option Elab.async false
set_option linter.all false
set_option maxRecDepth 100000
set_option maxHeartbeats 4000000
/-! Rf: arguments, built-in calls, ranges, methods. -/
namespace Rf
open PySem PySem.Spec PyProof.Rows L2

section
variable {X : Cx} {F : FT} {C : List D} {γ : Gam} {a b c e : Expr} {ia ib ic ie : IE} {es : List Expr} {ies : IEs} {pos p : Pos}

theorem a_nil : PA X [] (tA F C X.K γ .nil) := PA.weak pa_nil fun σ H Q ⟨G, env, os, env', sr, ev, k⟩ => by
  simp only [evA] at ev
  cases ev
  exact k G H [] sr Step.refl .nil
theorem tA_cons {K : PySem.W.Frag} {σ : L2.St} {H : Hp} {Q : List V → Hp → Prop} (h : tA F C K γ (.cons ie ies) σ H Q) : tCons (tE F C K γ ie) (tA F C K γ ies) σ H Q := by
  obtain ⟨G, env, os, env', sr, ev, k⟩ := h
  simp only [evA] at ev
  split at ev
  · cases ev
  rename_i o e1 h1
  split at ev
  · cases ev
  rename_i os' e2 h2
  cases ev
  refine ⟨G, env, o, e1, sr, h1, fun G1 H1 x s1 st1 r1 => ?_⟩
  obtain ⟨G1', s1', st1', r1', nf⟩ := thaw_ok s1 st1 r1
  exact ⟨G1', e1, os', _, s1', h2, fun G2 H2 xs s2 st2 r2 => k G2 H2 (x :: xs) s2 (st1'.trans st2) (.cons (r1'.later st2) nf (r2.start st1'.fb))⟩
theorem a_cons (hs : notStar e = true) (he : PE X e (tE F C X.K γ ie)) (hr : PA X es (tA F C X.K γ ies)) : PA X (e :: es) (tA F C X.K γ (.cons ie ies)) :=
  PA.weak (pa_cons he hr (star_cons hs)) fun _ _ _ h => tA_cons h
theorem k_nil : PK X [] (tA F C X.K γ .nil) := PK.weak pk_nil fun σ H Q ⟨G, env, os, env', sr, ev, k⟩ => by
  simp only [evA] at ev
  cases ev
  exact k G H [] sr Step.refl .nil
theorem k_cons {nm : Option Str} {kpos : Pos} {kws : List Keyword} (he : PE X e (tE F C X.K γ ie)) (hr : PK X kws (tA F C X.K γ ies)) : PK X (⟨nm, e, kpos⟩ :: kws) (tA F C X.K γ (.cons ie ies)) :=
  PK.weak (pk_cons he hr) fun _ _ _ h => tA_cons h
theorem p_nil : PA X [] (tP F C X.K γ .nil) := PA.weak pa_nil fun σ H Q ⟨G, env, os, env', sr, ev, k⟩ => by
  simp only [evP] at ev
  cases ev
  exact k G H [] sr Step.refl .nil
theorem p_cons (hs : notStar e = true) (he : PE X e (tE F C X.K γ ie)) (hr : PA X es (tP F C X.K γ ies)) : PA X (e :: es) (tP F C X.K γ (.cons ie ies)) := by
  refine PA.weak (pa_cons he hr (star_cons hs)) fun σ H Q ⟨G, env, ds, env', sr, ev, k⟩ => ?_
  simp only [evP] at ev
  split at ev
  · cases ev
  rename_i o e1 h1
  split at ev
  · cases ev
  rename_i d hd
  split at ev
  · cases ev
  rename_i ds' e2 h2
  cases ev
  refine ⟨G, env, o, e1, sr, h1, fun G1 H1 x s1 st1 r1 => ?_⟩
  obtain ⟨G1', s1', st1', _, r1', _⟩ := frz_ok s1 st1 r1 hd
  exact ⟨G1', e1, ds', _, s1', h2, fun G2 H2 xs s2 st2 r2 => k G2 H2 (x :: xs) s2 (st1'.trans st2) (.cons (r1'.mono st2.g) r2)⟩

/-! ### built-in calls -/
theorem boot_blt (b : Blt) (h : b ≠ .gcd2) : bootBuiltins (bltName b) = some (bltKind b).val := by
  cases b <;> first | exact absurd rfl h | decide +kernel
theorem e_blt {bl : Blt} {x : Str} (hcalm : X.calm = true) (hgd : X.A.guards = some []) (hu : X.A.units + 67 < cLine) (hx : x = bltName bl) (hg : Gl X x) (hd : (x == ("__debug__" : Str)) = false) (hn : x ≠ ("__name__" : Str))
    (hm : if bl = .gcd2 then X.mg "gcd" = some (.builtin "math.gcd") else X.mg x = none) (hst : noStars (e :: es) = true) (ha : PA X (e :: es) (tA F C X.K γ ies)) : PE X (.Call (.Name x p) (e :: es) [] pos) (tE F C X.K γ (.blt bl ies)) := by
  obtain ⟨hs1, hs2⟩ := ands hst
  have red : ∀ {σ : L2.St} {H : Hp} {Q : VK}, tE F C X.K γ (.blt bl ies) σ H Q → tCB (rBlt X.K bl) (tA F C X.K γ ies) σ H Q := fun {σ H Q} ⟨G, env, o, env', sr, ev, k⟩ => by
    simp only [evE] at ev
    split at ev
    · cases ev
    rename_i os e1 h1
    split at ev
    · rename_i ds hds
      obtain ⟨res, hr, he⟩ := Option.map_eq_some_iff.mp ev
      cases he
      exact ⟨G, env, os, _, sr, h1, fun G1 H1 xs s1 st1 r1 => ⟨G1, ds, _, s1.sub, rdsAll_ok s1 r1 hds, hr, k.fin s1 st1⟩⟩
    · cases ev
  have hc := call_blt hcalm hgd hu bl
  by_cases hb : bl = .gcd2
  · subst hb
    subst hx
    rw [if_pos rfl] at hm
    exact PE.weak (pe_callBfun (id := "math.gcd") hc hg hm ha hd (star_cons hs1) (plain_any hs2)) fun _ _ _ h => red h
  · rw [if_neg hb] at hm
    have hv := boot_blt bl hb
    rw [← hx] at hv
    cases hk : bltKind bl with
    | fn id =>
      rw [hk] at hc hv
      exact PE.weak (pe_callB (id := id) hc hg hm hv ha hn hd (star_cons hs1) (plain_any hs2)) fun _ _ _ h => red h
    | ty n =>
      rw [hk] at hc hv
      exact PE.weak (pe_callTy (T := n) hc hg hm hv ha hn hd (star_cons hs1) (plain_any hs2)) fun _ _ _ h => red h

/-! ### isinstance -/
theorem boot_ty (t : Ty) : bootBuiltins (Str.ofString (tyN t)) = some (.type (tyN t)) := by cases t <;> decide +kernel
def tTys (ts : List Ty) : TA := fun _ H Q => Q (ts.map fun t => V.ty (tyN t)) H
theorem clsV_map (ts : List Ty) : Paired ClsV (ts.map fun t => V.ty (tyN t)) (ts.map fun t => Value.type (tyN t)) := by
  induction ts with
  | nil => exact .nil
  | cons t ts ih => exact .cons (.ty _) ih
/-- the type names of a tuple -/
theorem tys_pa {pg : Pg} {k : Nat} {sc : SC} (hX : XOk pg k sc X) : ∀ {ts : List Ty} {us : List Expr}, tysB pg sc ts us = true → PA X us (tTys ts) ∧ noStars us = true
  | [], [], _ => ⟨PA.weak pa_nil fun _ _ _ h => h, rfl⟩
  | [], _ :: _, h => by cases h
  | t :: ts, [], h => by cases h
  | t :: ts, u :: us, h => by
    cases u <;> first | (simp only [tysB] at h; cases h) | skip
    rename_i x q
    simp only [tysB] at h
    obtain ⟨h12, h3⟩ := ands h
    obtain ⟨h1, h2⟩ := ands h12
    obtain ⟨g1, g2, g3, g4⟩ := hX.blt h1
    obtain ⟨r1, r2⟩ := tys_pa hX h3
    have hx : x = Str.ofString (tyN t) := of_decide_eq_true h2
    have hv := boot_ty t
    rw [← hx] at hv
    exact ⟨PA.weak (pa_cons (pe_bltn (v := .ty (tyN t)) g1 g2 hv rfl g4 g3) r1 rfl) fun _ _ _ h => h, r2⟩
theorem e_isi1 {ts : List Ty} {y : Str} {q : Pos} {t : Ty} (hg : Gl X "isinstance") (hm : X.mg "isinstance" = none) (hs : notStar a = true) (ha : PE X a (tE F C X.K γ ia)) (ht : PE X (.Name y q) (tC (.ty (tyN t)))) :
    PE X (.Call (.Name "isinstance" p) [a, .Name y q] [] pos) (tE F C X.K γ (.isi ia [t])) := by
  refine PE.weak (pe_callB (call_isi) hg hm (by decide +kernel) (pa_cons ha (pa_cons ht pa_nil rfl) (star_cons hs)) (by decide) (by decide) (star_cons hs) rfl) fun σ H Q ⟨G, env, o, env', sr, ev, k⟩ => ?_
  simp only [evE] at ev
  split at ev
  · cases ev
  rename_i x e1 h1
  split at ev
  · rename_i d hd
    cases ev
    exact ⟨G, env, x, _, sr, h1, fun G1 H1 v s1 st1 r1 => ⟨v, .ty (tyN t), _, _, _, rfl, .ty _, tyX_of s1.sub (rdp_ok s1 r1 hd), kit_is X.K d t, by
      have := k.pu (x := .bl (tyIs t d)) s1 st1 (by simp; exact .bl _)
      exact this⟩⟩
  · cases ev
theorem e_isiT {ts : List Ty} {us : List Expr} {kk : Nat} {q : Pos} (hg : Gl X "isinstance") (hm : X.mg "isinstance" = none) (hs : notStar a = true) (ha : PE X a (tE F C X.K γ ia)) (ht : PA X us (tTys ts)) (hl : ts.length ≤ 1000) :
    PE X (.Call (.Name "isinstance" p) [a, .Tuple us kk q] [] pos) (tE F C X.K γ (.isi ia ts)) := by
  refine PE.weak (pe_callB (call_isiT) hg hm (by decide +kernel) (pa_cons ha (pa_cons (pe_tup ht) pa_nil rfl) (star_cons hs)) (by decide) (by decide) (star_cons hs) rfl) fun σ H Q ⟨G, env, o, env', sr, ev, k⟩ => ?_
  simp only [evE] at ev
  split at ev
  · cases ev
  rename_i x e1 h1
  split at ev
  · rename_i d hd
    cases ev
    refine ⟨G, env, x, _, sr, h1, fun G1 H1 v s1 st1 r1 => ⟨by rw [List.length_map, sizeLine_eq]; omega, fun l hl => ?_⟩⟩
    refine ⟨v, l, _, _, _, _, rfl, upd_same, clsV_map ts, tyX_of (s1.sub.trans (up_sub hl)) ?_, kit_any X.K d ts, ?_⟩
    · cases rdp_ok s1 r1 hd with
      | pu p => exact .pu p
      | li h q => exact .li (up_sub hl _ _ h) q
    · exact k G1 _ (.bl _) (s1.newH hl) (st1.trans (Step.newH hl)) (.bl _)
  · cases ev

/-! ### list(range(..)), tuple(range(..)) -/
theorem ups_pu {K : PySem.W.Frag} {G : Hp} : ∀ (n : Nat) (lo : Int), PuA K G (ups lo n) ((List.range n).map fun i => V.int (lo + (i : Nat)))
  | 0, _ => .nil
  | n + 1, lo => by
    rw [List.range_succ_eq_map, List.map_cons, List.map_map]
    refine .cons ?_ ?_
    · have e : lo + ((0 : Nat) : Int) = lo := by simp
      rw [e]; exact .int lo
    · have e : ((fun i : Nat => V.int (lo + (i : Nat))) ∘ Nat.succ) = fun i : Nat => V.int ((lo + 1) + (i : Nat)) := by
        funext i
        show V.int _ = V.int _
        congr 1
        have : ((Nat.succ i : Nat) : Int) = (i : Int) + 1 := by omega
        rw [this]; omega
      rw [e]
      exact ups_pu n (lo + 1)
theorem ups_length : ∀ (n : Nat) (lo : Int), (ups lo n).length = n
  | 0, _ => rfl
  | n + 1, lo => congrArg Nat.succ (ups_length n _)
theorem rng_ok {d e : D} {xs : List D} (h : rngV d e = some xs) : ∃ i j : Int, d = .int i ∧ e = .int j ∧ (-4611686018427387904 ≤ i ∧ i < 4611686018427387904 ∧ -4611686018427387904 ≤ j ∧ j < 4611686018427387904) ∧ xs = ups i (j - i).toNat := by
  cases d <;> cases e <;> simp only [rngV] at h <;> (try cases h)
  rename_i i j
  split at h
  · rename_i ok
    cases h
    unfold rngOk at ok
    obtain ⟨ok, h4⟩ := ands ok
    obtain ⟨ok, h3⟩ := ands ok
    obtain ⟨h1, h2⟩ := ands ok
    exact ⟨i, j, rfl, rfl, ⟨of_decide_eq_true h1, of_decide_eq_true h2, of_decide_eq_true h3, of_decide_eq_true h4⟩, rfl⟩
  · cases h
theorem rg_cases {il ih : IE} {mk : List D → Opd} {env env' : Ev} {o : Opd} {t : IE} (ht : t = .lrg il ih ∧ mk = .fr ∨ t = .trg il ih ∧ mk = (fun xs => .pu (.tuple xs))) (ev : evE F C t env = some (o, env')) :
    ∃ d e e1 xs, evE F C il env = some (.pu d, e1) ∧ evE F C ih e1 = some (.pu e, env') ∧ rngV d e = some xs ∧ lenOk xs.length = true ∧ o = mk xs := by
  rcases ht with ⟨rfl, rfl⟩ | ⟨rfl, rfl⟩ <;> simp only [evE] at ev
  all_goals
    split at ev
    · rename_i d e1 h1
      split at ev
      · rename_i e e2 h2
        split at ev
        · rename_i xs h3
          split at ev
          · rename_i h4
            cases ev
            exact ⟨d, e, e1, xs, h1, h2, h3, h4, rfl⟩
          · cases ev
        · cases ev
      · cases ev
    · cases ev
/-- range(..) written as an argument: its bounds -/
def tRG (F : FT) (C : List D) (K : PySem.W.Frag) (γ : Gam) (il ih : IE) : L2.St → Hp → (Int → Int → Hp → Prop) → Prop := fun σ H Q => ∃ G env i j e1 env', Sr K γ G H env σ ∧ evE F C il env = some (.pu (.int i), e1) ∧ evE F C ih e1 = some (.pu (.int j), env') ∧
  ∀ G' H', Sr K γ G' H' env' σ → Step (Ow env σ) G H (Ow env' σ) G' H' → Q i j H'
theorem PRg.weak {e : Expr} {t t' : L2.St → Hp → (Int → Int → Hp → Prop) → Prop} (h : PRg X e t) (w : ∀ σ H Q, t' σ H Q → t σ H Q) : PRg X e t' := fun pins s σ H Q I q => h pins s σ H Q I (w _ _ _ q)
theorem rg_1 (hg : Gl X "range") (hm : X.mg "range" = none) (hs : notStar a = true) (ha : PE X a (tE F C X.K γ ia)) : PRg X (.Call (.Name "range" p) [a] [] pos) (tRG F C X.K γ (.cst (.int 0)) ia) :=
  PRg.weak (prg_1 hg hm ha (star_cons hs)) fun σ H Q ⟨G, env, i, j, e1, env', sr, h1, h2, k⟩ => by
    simp only [evE] at h1
    cases h1
    exact ⟨G, env, _, env', sr, h2, fun G1 H1 x s1 st1 r1 => ⟨j, opd_int r1, k G1 H1 s1 st1⟩⟩
theorem rg_2 (hg : Gl X "range") (hm : X.mg "range" = none) (hs : notStar a = true) (hs2 : notStar b = true) (ha : PE X a (tE F C X.K γ ia)) (hb : PE X b (tE F C X.K γ ib)) : PRg X (.Call (.Name "range" p) [a, b] [] pos) (tRG F C X.K γ ia ib) :=
  PRg.weak (prg_2 hg hm ha hb (star_cons hs) (star_cons hs2) (plain_any (es := [b]) (by simp [noStars, hs2]))) fun σ H Q ⟨G, env, i, j, e1, env', sr, h1, h2, k⟩ =>
    ⟨G, env, _, e1, sr, h1, fun G1 H1 x s1 st1 r1 => ⟨G1, e1, _, env', s1, h2, fun G2 H2 y s2 st2 r2 => ⟨i, j, opd_int r1, opd_int r2, k G2 H2 s2 (st1.trans st2)⟩⟩⟩
theorem e_lrg {q : Pos} (hc : X.calm = true) (hg : Gl X "list") (hm : X.mg "list" = none) (hs : notStar e = true) (he : PRg X e (tRG F C X.K γ ia ib)) : PE X (.Call (.Name "list" p) [e] [] q) (tE F C X.K γ (.lrg ia ib)) := by
  refine PE.weak (pe_listRg hc hg hm he (star_cons hs)) fun σ H Q ⟨G, env, o, env', sr, ev, k⟩ => ?_
  obtain ⟨d, e', e1, xs, h1, h2, h3, h4, rfl⟩ := rg_cases (.inl ⟨rfl, rfl⟩) ev
  obtain ⟨i, j, rfl, rfl, bd, rfl⟩ := rng_ok h3
  refine ⟨G, env, i, j, e1, env', sr, h1, h2, fun G1 H1 s1 st1 => ⟨⟨by omega, by omega, by omega, by omega, ?_⟩, fun q hq => RQ.fr (k.fin s1 st1) s1.sub (ups_pu _ _) hq⟩⟩
  have := lenOk_le h4
  rw [ups_length, sizeLine_eq] at this
  omega
theorem e_trg {q : Pos} (hc : X.calm = true) (hg : Gl X "tuple") (hm : X.mg "tuple" = none) (hs : notStar e = true) (he : PRg X e (tRG F C X.K γ ia ib)) : PE X (.Call (.Name "tuple" p) [e] [] q) (tE F C X.K γ (.trg ia ib)) := by
  refine PE.weak (pe_tupRg hc hg hm he (star_cons hs)) fun σ H Q ⟨G, env, o, env', sr, ev, k⟩ => ?_
  obtain ⟨d, e', e1, xs, h1, h2, h3, h4, rfl⟩ := rg_cases (mk := fun xs => .pu (.tuple xs)) (.inr ⟨rfl, rfl⟩) ev
  obtain ⟨i, j, rfl, rfl, bd, rfl⟩ := rng_ok h3
  refine ⟨G, env, i, j, e1, env', sr, h1, h2, fun G1 H1 s1 st1 => ⟨⟨by omega, by omega, by omega, by omega, ?_⟩, fun q hq => RQ.tup (k.fin s1 st1) s1.sub (ups_pu _ _) hq⟩⟩
  have := lenOk_le h4
  rw [ups_length, sizeLine_eq] at this
  omega

/-! ### xs[::-1], repr([..]) -/
theorem e_rev {k : Nat} {p1 p2 p3 pos : Pos} (ha : PE X a (tE F C X.K γ ia)) : PE X (.Subscript a (.Slice none none (some (.UnaryOp .USub (.Constant (.int 1) k p1) p2)) p3) pos) (tE F C X.K γ (.rev ia)) := by
  refine PE.weak (pe_revL ha) fun σ H Q ⟨G, env, o, env', sr, ev, k⟩ => ?_
  simp only [evE] at ev
  split at ev
  · cases ev
  rename_i x e1 h1
  split at ev
  · rename_i d hd
    obtain ⟨r, hr, he⟩ := Option.map_eq_some_iff.mp ev
    cases he
    cases d <;> simp only [revV] at hr <;> cases hr
    rename_i xs
    refine ⟨G, env, x, _, sr, h1, fun G1 H1 v s1 st1 r1 => ?_⟩
    obtain ⟨l, ys, rfl, hl, pl⟩ := (rds_ok s1 r1 hd).list s1.sub rfl
    exact ⟨l, ys, rfl, hl, fun q hq => RQ.fr (k.fin s1 st1) s1.sub pl.reverse hq⟩
  · cases ev
def rReprD (K : PySem.W.Frag) : List V → Hp → VK → Prop := fun vs H Q => ∃ x d, vs = [x] ∧ Dp K H x d ∧ reprOk d = true ∧ Q (.str d.shown) H
theorem call_reprD (hgd : X.A.guards = some []) (hu : X.A.units + 65 < cLine) : CallR X (.builtin "repr") (rReprD X.K) := by
  intro pins s σ H vs us Q I r h
  obtain ⟨x, d, rfl, dp, ok, q⟩ := h
  obtain ⟨u, rfl, rx⟩ := Vals.one r
  exact repr_run hgd hu I rx dp ok q
theorem rdsA_dp {K : PySem.W.Frag} {G H : Hp} (sb : Sub G H) : ∀ {ds : List D} {vs : List V}, RdsA K G H ds vs → DpAll K H vs ds
  | _, _, .nil => .nil
  | _, _, .cons a b => .cons (a.dp sb) (rdsA_dp sb b)
theorem RdsA.newH {K : PySem.W.Frag} {G H : Hp} {q : Addr} {o : HO} (hq : H q = none) : ∀ {ds : List D} {vs : List V}, RdsA K G H ds vs → RdsA K G (upd H q o) ds vs
  | _, _, .nil => .nil
  | _, _, .cons a b => .cons (by
      cases a with
      | rd r => cases r with
        | pu p => exact .rd (.pu p)
        | li h t => exact .rd (.li (up_sub hq _ _ h) t)
      | sc h t =>
        refine .sc ?_ t
        rcases h with (h | ⟨ob, h⟩) | h
        · exact .inl (.inl (up_sub hq _ _ h))
        · exact .inl (.inr ⟨ob, up_sub hq _ _ h⟩)
        · exact .inr h) (RdsA.newH hq b)
theorem RdsA.length {K : PySem.W.Frag} {G H : Hp} : ∀ {ds : List D} {vs : List V}, RdsA K G H ds vs → ds.length = vs.length
  | _, _, .nil => rfl
  | _, _, .cons _ b => congrArg Nat.succ (RdsA.length b)
theorem e_rpr {q : Pos} (hgd : X.A.guards = some []) (hu : X.A.units + 65 < cLine) (hg : Gl X "repr") (hm : X.mg "repr" = none) (ha : PA X es (tA F C X.K γ ies)) : PE X (.Call (.Name "repr" p) [.List es q] [] pos) (tE F C X.K γ (.rpr ies)) := by
  refine PE.weak (pe_callB (call_reprD hgd hu) hg hm (by decide +kernel) (pa_cons (pe_lst ha) pa_nil rfl) (by decide) (by decide) rfl rfl) fun σ H Q ⟨G, env, o, env', sr, ev, k⟩ => ?_
  simp only [evE] at ev
  split at ev
  · cases ev
  rename_i os e1 h1
  split at ev
  · rename_i ds hds
    split at ev
    · rename_i hz
      cases ev
      obtain ⟨hz, hr⟩ := ands hz
      refine ⟨G, env, os, _, sr, h1, fun G1 H1 xs s1 st1 r1 => ?_⟩
      have ra := rdsAll_ok s1 r1 hds
      refine ⟨by rw [← ra.length]; exact lenOk_le hz, fun l hl => ⟨.ref l, .list ds, rfl, ?_, hr, ?_⟩⟩
      · exact .lst (SqL.of upd_same) (rdsA_dp (s1.sub.trans (up_sub hl)) (ra.newH hl))
      · exact k G1 _ _ (s1.newH hl) (st1.trans (Step.newH hl)) (.str _)
    · cases ev
  · cases ev
end
end Rf

set_option Elab.async false
set_option linter.all false
set_option maxRecDepth 100000
set_option maxHeartbeats 4000000
/-! Rf: methods of lists, calls of defs. -/
namespace Rf
open PySem PySem.Spec PyProof.Rows L2

theorem blt_lt {a b : Nat} (h : Nat.blt a b = true) : a < b := by
  unfold Nat.blt at h
  exact Nat.le_of_ble_eq_true h
theorem get_set {α : Type} {l : List α} {i j : Nat} {a b : α} (h : (l.set i a)[j]? = some b) : (j = i ∧ b = a) ∨ (j ≠ i ∧ l[j]? = some b) := by
  by_cases q : i = j
  · subst q
    rw [List.getElem?_set] at h
    simp only [if_true] at h
    split at h
    · cases h; exact .inl ⟨rfl, rfl⟩
    · cases h
  · rw [List.getElem?_set_ne q] at h
    exact .inr ⟨fun z => q z.symm, h⟩
section
variable {K : PySem.W.Frag} {γ : Gam} {G H : Hp} {env : Ev} {σ : L2.St}
theorem ownAt_own {i j t : Nat} {xs ys : List D} {a : Addr} (e : env[i]? = some (.own t xs)) (h : OwnAt (env.set i (.own t ys)) σ j a) : OwnAt env σ j a := by
  obtain ⟨⟨u, zs, q⟩, h1⟩ := h
  rcases get_set q with ⟨rfl, _⟩ | ⟨_, q⟩
  · exact ⟨⟨t, xs, e⟩, h1⟩
  · exact ⟨⟨u, zs, q⟩, h1⟩
/-- a list that slot i holds is changed -/
theorem Sr.mut (s : Sr K γ G H env σ) {i t : Nat} {xs xs' : List D} {a : Addr} {ys' : List V} (e : env[i]? = some (.own t xs)) (ha : σ[i]? = some (some (.ref a))) (p : PuA K G xs' ys') :
    Sr K γ G (upd H a (.lst ys')) (env.set i (.own t xs')) σ ∧ Step (Ow env σ) G H (Ow (env.set i (.own t xs')) σ) G (upd H a (.lst ys')) := by
  obtain ⟨a', ys, h1, h2, h3, h4, h5, h6⟩ := s.slot i _ e
  rw [ha] at h1; cases h1
  have own : OwnAt env σ i a := ⟨⟨t, xs, e⟩, ha⟩
  refine ⟨⟨fun b u q => ?_, by simpa using s.len, fun j sl q => ?_, fun j j' b q q' => s.inj j j' b (ownAt_own e q) (ownAt_own e q')⟩, ⟨Sub.refl G, fun b u q no => ?_, fun _ _ q _ => q, fun b q => ?_, fun b ⟨j, hj⟩ => .inl ⟨j, ownAt_own e hj⟩⟩⟩
  · rw [upd_ne (fun z => by subst z; rw [h2] at q; cases q)]; exact s.sub _ _ q
  · rcases get_set q with ⟨rfl, rfl⟩ | ⟨ne, q⟩
    · exact ⟨a, ys', ha, h2, upd_same, p, h5, h6⟩
    · have r := s.slot j sl q
      cases sl with
      | emp => trivial
      | val d => exact r
      | own u zs =>
        obtain ⟨m, ws, e1, e2, e3, e4⟩ := r
        refine ⟨m, ws, e1, e2, ?_, e4⟩
        rw [upd_ne]
        · exact e3
        · rintro rfl
          exact ne (s.inj j i m ⟨⟨_, _, q⟩, e1⟩ own)
      | scr u zs =>
        obtain ⟨m, ws, e1, e2, e3⟩ := r
        refine ⟨m, ws, e1, ?_, e3⟩
        rcases e2 with ⟨o, e2⟩ | e2
        · exact .inl ⟨o, by rw [upd_ne (fun z => by subst z; rw [h3] at e2; cases e2)]; exact e2⟩
        · exact .inr e2
  · rw [upd_ne (fun z => no (by subst z; exact ⟨i, own⟩))]; exact q
  · by_cases z : b = a
    · subst z; rw [upd_same]; simp
    · rw [upd_ne z]; exact q
end

section
variable {X : Cx} {F : FT} {C : List D} {γ : Gam} {a b c e : Expr} {ia ib ic ie : IE} {es : List Expr} {ies : IEs} {pos p ap : Pos}

theorem mth_cases {m : Mth} {i : Nat} {env env' : Ev} {o : Opd} (ev : evE F C (.mth m i ies) env = some (o, env')) :
    ∃ t xs os e1, env[i]? = some (.own t xs) ∧ evA F C ies env = some (os, e1) ∧ mthV m e1 i os = some (o, env') := by
  simp only [evE] at ev
  split at ev
  · rename_i t xs q
    split at ev
    · cases ev
    · rename_i os e1 h1
      exact ⟨t, xs, os, e1, q, h1, ev⟩
  · cases ev
/-- what a method's call does, at the values -/
theorem mth_run {m : Mth} {i : Nat} {G0 H0 G1 H1 : Hp} {env env1 env' : Ev} {σ : L2.St} {o : Opd} {Q : VK} {os : List Opd} {vs : List V} {a : Addr} (hv : mthV m env1 i os = some (o, env')) (k : KE X.K γ G0 H0 env σ env' o Q) (s : Sr X.K γ G1 H1 env1 σ) (st : Step (Ow env σ) G0 H0 (Ow env1 σ) G1 H1)
    (r : OpasR X.K G1 H1 env1 σ H0 vs os) (ha : σ[i]? = some (some (.ref a))) :
    (m = .append → rAppend (.ref a) vs H1 Q) ∧ (m = .extend → rExtend (.ref a) vs H1 Q) ∧ (m = .pop0 → rPop (.ref a) vs H1 Q) ∧ (m = .pop1 → rPopAt (.ref a) vs H1 Q) ∧
    (m = .insert → ∃ (l : Addr) (xs : List V) (j : Int) (y : V), V.ref a = .ref l ∧ vs = [.int j, y] ∧ H1 l = some (.lst xs) ∧ xs.length < sizeLine ∧ 0 ≤ j ∧ j < 2 ^ 63 ∧ Q .non (upd H1 l (.lst (xs.take j.toNat ++ [y] ++ xs.drop j.toNat)))) := by
  simp only [mthV] at hv
  split at hv
  · rename_i t xs q
    obtain ⟨a', ys, h1, h2, h3, h4, _⟩ := s.ow_at q
    rw [ha] at h1; cases h1
    have hl := h4.length
    have fin : ∀ {G2 : Hp} {xs' : List D} {ys' : List V} {z : V} {d : D}, Sr X.K γ G2 H1 env1 σ → Step (Ow env σ) G0 H0 (Ow env1 σ) G2 H1 → PuA X.K G2 xs' ys' → o = .pu d → env' = env1.set i (.own t xs') → Pu X.K G2 d z → Q z (upd H1 a (.lst ys')) := fun {G2 xs' ys' z d} s2 st2 p e1 e2 pz => by
      subst e1; subst e2
      obtain ⟨m1, m2⟩ := s2.mut q ha p
      exact k _ _ z m1 (st2.trans m2) pz
    cases m with
    | append =>
      refine ⟨fun _ => ?_, (fun z => nomatch z), (fun z => nomatch z), (fun z => nomatch z), (fun z => nomatch z)⟩
      cases os with
      | nil => cases hv
      | cons x os =>
        cases os with
        | cons _ _ => cases hv
        | nil =>
          simp only at hv
          split at hv
          · rename_i d hd
            split at hv
            · rename_i hz
              cases hv
              cases r with
              | cons r1 _ rr =>
                cases rr
                obtain ⟨G2, s2, st2, sb, pd, _⟩ := frz_ok s st r1 hd
                have hz' : xs.length < 16777216 := blt_lt hz
                exact ⟨a, ys, _, rfl, rfl, h3, by rw [sizeLine_eq, ← hl]; exact hz', fin s2 st2 ((h4.mono sb).append (.cons pd .nil)) rfl rfl .non⟩
            · cases hv
          · cases hv
    | extend =>
      refine ⟨(fun z => nomatch z), fun _ => ?_, (fun z => nomatch z), (fun z => nomatch z), (fun z => nomatch z)⟩
      cases os with
      | nil => cases hv
      | cons x os =>
        cases os with
        | cons _ _ => cases hv
        | nil =>
          simp only at hv
          split at hv
          · rename_i zs hd
            split at hv
            · rename_i hz
              cases hv
              cases r with
              | cons r1 _ rr =>
                cases rr
                obtain ⟨G2, s2, st2, sb, pd, _⟩ := frz_ok s st r1 hd
                cases pd with
                | lst g1 pz =>
                  exact ⟨a, _, ys, _, rfl, rfl, h3, s2.sub _ _ g1, by rw [← hl, ← pz.length]; exact lenOk_le hz, fin s2 st2 ((h4.mono sb).append pz) rfl rfl .non⟩
            · cases hv
          · cases hv
    | pop0 =>
      refine ⟨(fun z => nomatch z), (fun z => nomatch z), fun _ => ?_, (fun z => nomatch z), (fun z => nomatch z)⟩
      cases os with
      | cons _ _ => cases hv
      | nil =>
        simp only at hv
        split at hv
        · rename_i d hd
          cases hv
          cases r
          obtain ⟨y, hy, py⟩ := h4.get hd
          exact ⟨a, ys, y, rfl, rfl, h3, by rw [← hl]; exact hy, fin s st h4.dropLast rfl rfl py⟩
        · cases hv
    | pop1 =>
      refine ⟨(fun z => nomatch z), (fun z => nomatch z), (fun z => nomatch z), fun _ => ?_, (fun z => nomatch z)⟩
      rcases os with _ | ⟨x0, os⟩
      · cases hv
      rcases os with _ | ⟨x1, os⟩ <;> rcases x0 with d0 | _ | _ | _ <;> (try rcases d0 with _ | _ | kk | _ | _ | _ | _) <;> (try cases hv)
      simp only at hv
      split at hv
      · rename_i hz
        obtain ⟨z1, z2⟩ := ands hz
        have b1 := of_decide_eq_true z1
        have b2 := of_decide_eq_true z2
        split at hv
        · rename_i n hn
          split at hv
          · rename_i d hd
            cases hv
            cases r with
            | cons r1 _ rr =>
              cases rr
              obtain ⟨y, hy, py⟩ := h4.get hd
              have e1 := opd_int r1
              subst e1
              exact ⟨a, ys, kk, n, y, rfl, rfl, h3, by omega, by omega, by rw [← hl]; exact (ixN_seq hn).1, hy, fin s st (h4.eraseIdx n) rfl rfl py⟩
          · cases hv
        · cases hv
      · cases hv
    | insert =>
      refine ⟨(fun z => nomatch z), (fun z => nomatch z), (fun z => nomatch z), (fun z => nomatch z), fun _ => ?_⟩
      rcases os with _ | ⟨x0, os⟩
      · cases hv
      rcases os with _ | ⟨x, _ | ⟨x3, os⟩⟩ <;> rcases x0 with d0 | _ | _ | _ <;> (try rcases d0 with _ | _ | kk | _ | _ | _ | _) <;> (try cases hv)
      simp only at hv
      split at hv
      · rename_i d hd
        split at hv
        · rename_i hz
          obtain ⟨z12, z3⟩ := ands hz
          obtain ⟨z1, z2⟩ := ands z12
          have b1 := of_decide_eq_true z1
          have b2 := of_decide_eq_true z2
          have b3 : xs.length < 16777216 := blt_lt z3
          cases hv
          cases r with
          | cons r1 _ rr =>
            cases rr with
            | cons r2 _ rr =>
              cases rr
              have e1 := opd_int r1
              subst e1
              obtain ⟨G2, s2, st2, sb, pd, _⟩ := frz_ok s st r2 hd
              refine ⟨a, ys, kk, _, rfl, rfl, h3, by rw [sizeLine_eq, ← hl]; exact b3, b1, by omega, fin s2 st2 ?_ rfl rfl .non⟩
              rw [List.append_assoc]
              exact ((h4.mono sb).take _).append (.cons pd ((h4.mono sb).drop _))
        · cases hv
      · cases hv
  · cases hv
theorem e_mth {m : Mth} {i : Nat} {x n : Str} {q : Pos} (hN : X.N[i]? = some x) (hv : Vis X.env.scope x) (hd : (x == ("__debug__" : Str)) = false) (hcd : (x == ("__classdict__" : Str)) = false) (hn : n = mthName m) (hl : (ap.endLine == pos.line) = true) (hst : noStars es = true) (hz : es.length < 30) (h0 : es = [] → ies = .nil)
    (ha : PA X es (tA F C X.K γ ies)) : PE X (.Call (.Attribute (.Name x q) n ap) es [] pos) (tE F C X.K γ (.mth m i ies)) := by
  have red : ∀ {σ : L2.St} {H : Hp} {Q : VK}, tE F C X.K γ (.mth m i ies) σ H Q → ∃ l, σ[i]? = some (some (.ref l)) ∧ tyV X.K "list" (.ref l) H ∧ tA F C X.K γ ies σ H fun vs H1 =>
    (m = .append → rAppend (.ref l) vs H1 Q) ∧ (m = .extend → rExtend (.ref l) vs H1 Q) ∧ (m = .pop0 → rPop (.ref l) vs H1 Q) ∧ (m = .pop1 → rPopAt (.ref l) vs H1 Q) ∧
    (m = .insert → ∃ (l' : Addr) (xs : List V) (j : Int) (y : V), V.ref l = .ref l' ∧ vs = [.int j, y] ∧ H1 l' = some (.lst xs) ∧ xs.length < sizeLine ∧ 0 ≤ j ∧ j < 2 ^ 63 ∧ Q .non (upd H1 l' (.lst (xs.take j.toNat ++ [y] ++ xs.drop j.toNat)))) := fun {σ H Q} ⟨G, env, o, env', sr, ev, k⟩ => by
    obtain ⟨t, xs, os, e1, h0, h1, h2⟩ := mth_cases ev
    obtain ⟨l, ys, q1, q2, q3, q4, _⟩ := sr.ow_at h0
    exact ⟨l, q1, .inl ⟨rfl, ys, SqL.of q3⟩, G, env, os, e1, sr, h1, fun G1 H1 vs s1 st1 r1 => mth_run h2 k s1 st1 r1 q1⟩
  subst hn
  cases es with
  | nil =>
    have e0 := h0 rfl
    subst e0
    have no : m ≠ .pop0 → ∀ σ H Q, ¬ tE F C X.K γ (.mth m i .nil) σ H Q := fun hm σ H Q ⟨G, env, o, env', sr, ev, k⟩ => by
      obtain ⟨t, xs, os, e1, h0, h1, h2⟩ := mth_cases ev
      simp only [evA] at h1
      cases h1
      simp only [mthV, h0] at h2
      cases m <;> first | exact hm rfl | cases h2
    by_cases hm : m = .pop0
    · subst hm
      refine PE.weak (pe_bm0 (T := "list") (r := rPop) PySem.F.plainAttrs_list PySem.F.slot_list_pop PySem.F.type_list_pop mt_pop (pe_var hN hv hd hcd) rfl hl) fun σ H Q h => ?_
      obtain ⟨l, h1, h2, G, env, os, env', sr, ev, k⟩ := red h
      simp only [evA] at ev
      cases ev
      exact ⟨_, h1, h2, (k G H [] sr Step.refl .nil).2.2.1 rfl⟩
    · exact ⟨fun pins s σ H Q I h => (no hm σ H Q h).elim⟩
  | cons e es =>
    obtain ⟨hs1, hs2⟩ := ands hst
    have few : ((backTo pos (starEach (e :: es) X.env)).all (fun x => !x.1) && (backToKw pos (keywordEach [] X.env)).all (fun x => x.1.isSome)
      && decide ((e :: es).length + ([] : List Keyword).length + (if ([] : List Keyword).isEmpty then 0 else 1) < 30)) = true := by
      rw [plain_all hst]
      simp only [Bool.true_and, Bool.and_eq_true, decide_eq_true_eq]
      exact ⟨rfl, by simpa using hz⟩
    cases m with
    | append =>
      refine PE.weak (pe_bm (T := "list") (r := rAppend) PySem.F.plainAttrs_list PySem.F.slot_list_append PySem.F.type_list_append mt_append (pe_var hN hv hd hcd) ha rfl few hl (star_cons hs1) (plain_any hs2)) fun σ H Q h => ?_
      obtain ⟨l, h1, h2, G, env, os, env', sr, ev, k⟩ := red h
      exact ⟨_, h1, h2, G, env, os, env', sr, ev, fun G1 H1 xs s1 st1 r1 => (k G1 H1 xs s1 st1 r1).1 rfl⟩
    | extend =>
      refine PE.weak (pe_bm (T := "list") (r := rExtend) PySem.F.plainAttrs_list PySem.F.slot_list_extend PySem.F.type_list_extend mt_extend (pe_var hN hv hd hcd) ha rfl few hl (star_cons hs1) (plain_any hs2)) fun σ H Q h => ?_
      obtain ⟨l, h1, h2, G, env, os, env', sr, ev, k⟩ := red h
      exact ⟨_, h1, h2, G, env, os, env', sr, ev, fun G1 H1 xs s1 st1 r1 => (k G1 H1 xs s1 st1 r1).2.1 rfl⟩
    | pop0 =>
      refine PE.weak (pe_bm (T := "list") (r := rPop) PySem.F.plainAttrs_list PySem.F.slot_list_pop PySem.F.type_list_pop mt_pop (pe_var hN hv hd hcd) ha rfl few hl (star_cons hs1) (plain_any hs2)) fun σ H Q h => ?_
      obtain ⟨l, h1, h2, G, env, os, env', sr, ev, k⟩ := red h
      exact ⟨_, h1, h2, G, env, os, env', sr, ev, fun G1 H1 xs s1 st1 r1 => (k G1 H1 xs s1 st1 r1).2.2.1 rfl⟩
    | pop1 =>
      refine PE.weak (pe_bm (T := "list") (r := rPopAt) PySem.F.plainAttrs_list PySem.F.slot_list_pop PySem.F.type_list_pop mt_popAt (pe_var hN hv hd hcd) ha rfl few hl (star_cons hs1) (plain_any hs2)) fun σ H Q h => ?_
      obtain ⟨l, h1, h2, G, env, os, env', sr, ev, k⟩ := red h
      exact ⟨_, h1, h2, G, env, os, env', sr, ev, fun G1 H1 xs s1 st1 r1 => (k G1 H1 xs s1 st1 r1).2.2.2.1 rfl⟩
    | insert =>
      refine PE.weak (pe_bm (T := "list") PySem.F.plainAttrs_list PySem.F.slot_list_insert PySem.F.type_list_insert mt_insert (pe_var hN hv hd hcd) ha rfl few hl (star_cons hs1) (plain_any hs2)) fun σ H Q h => ?_
      obtain ⟨l, h1, h2, G, env, os, env', sr, ev, k⟩ := red h
      exact ⟨_, h1, h2, G, env, os, env', sr, ev, fun G1 H1 xs s1 st1 r1 => (k G1 H1 xs s1 st1 r1).2.2.2.2 rfl⟩
end
end Rf

set_option Elab.async false
set_option linter.all false
set_option maxRecDepth 100000
set_option maxHeartbeats 4000000
/-! Rf: calls of defs. -/
namespace Rf
open PySem PySem.Spec PyProof.Rows L2

/-- the lists handed in -/
inductive IoR (G H Hs : Hp) (env : Ev) (σ : L2.St) : List (Option Nat) → List Addr → Prop
  | nil : IoR G H Hs env σ [] []
  | slot {i : Nat} {a : Addr} {is : List (Option Nat)} {as : List Addr} : OwnAt env σ i a → IoR G H Hs env σ is as → IoR G H Hs env σ (some i :: is) (a :: as)
  | fo {a : Addr} {ys : List V} {is : List (Option Nat)} {as : List Addr} : ¬ Ow env σ a → Hs a = none → H a = some (.lst ys) → IoR G H Hs env σ is as → IoR G H Hs env σ (none :: is) (a :: as)
section
variable {K : PySem.W.Frag} {γ : Gam} {G H Hs G0 H0 : Hp} {env env0 env' : Ev} {σ : L2.St}
theorem IoR.mem (s : Sr K γ G H env σ) {a : Addr} : ∀ {is : List (Option Nat)} {as : List Addr}, IoR G H Hs env σ is as → a ∈ as → (∃ ys, H a = some (.lst ys)) ∧ ((∃ i, some i ∈ is ∧ OwnAt env σ i a) ∨ (none ∈ is ∧ ¬ Ow env σ a ∧ Hs a = none))
  | _, _, .nil, h => by simp at h
  | _, _, .slot o r, h => by
    rcases List.mem_cons.mp h with rfl | h
    · exact ⟨(s.ow_some ⟨_, o⟩).2, .inl ⟨_, by simp, o⟩⟩
    · obtain ⟨p, q⟩ := IoR.mem s r h
      refine ⟨p, ?_⟩
      rcases q with ⟨i, q1, q2⟩ | ⟨q1, q2⟩
      · exact .inl ⟨i, List.mem_cons_of_mem _ q1, q2⟩
      · exact .inr ⟨List.mem_cons_of_mem _ q1, q2⟩
  | _, _, .fo h1 h2 h3 r, h => by
    rcases List.mem_cons.mp h with rfl | h
    · exact ⟨⟨_, h3⟩, .inr ⟨by simp, h1, h2⟩⟩
    · obtain ⟨p, q⟩ := IoR.mem s r h
      refine ⟨p, ?_⟩
      rcases q with ⟨i, q1, q2⟩ | ⟨q1, q2⟩
      · exact .inl ⟨i, List.mem_cons_of_mem _ q1, q2⟩
      · exact .inr ⟨List.mem_cons_of_mem _ q1, q2⟩
theorem IoR.get {j : Nat} : ∀ {is : List (Option Nat)} {as : List Addr} {n : Nat}, IoR G H Hs env σ is as → is[n]? = some (some j) → ∃ a, as[n]? = some a ∧ OwnAt env σ j a
  | _, _, _, .nil, h => by simp at h
  | _, _, 0, .slot o r, h => by simp at h; subst h; exact ⟨_, rfl, o⟩
  | _, _, n + 1, .slot o r, h => by
    obtain ⟨a, h1, h2⟩ := IoR.get (n := n) r (by simpa using h)
    exact ⟨a, by simpa using h1, h2⟩
  | _, _, 0, .fo _ _ _ r, h => by simp at h
  | _, _, n + 1, .fo _ _ _ r, h => by
    obtain ⟨a, h1, h2⟩ := IoR.get (n := n) r (by simpa using h)
    exact ⟨a, by simpa using h1, h2⟩
theorem IoR.nodup (s : Sr K γ G H env σ) : ∀ {is : List (Option Nat)} {as : List Addr}, IoR G H Hs env σ is as → distinct is = true → as.Nodup
  | _, _, .nil, _ => .nil
  | _, _, .slot (i := i) o r, h => by
    unfold distinct at h
    obtain ⟨h1, h2⟩ := ands h
    refine List.nodup_cons.mpr ⟨fun z => ?_, IoR.nodup s r h2⟩
    rcases (IoR.mem s r z).2 with ⟨j, q1, q2⟩ | ⟨_, q2, _⟩
    · rw [s.inj _ _ _ q2 o] at q1
      simp [q1] at h1
    · exact q2 ⟨_, o⟩
  | _, _, .fo n1 n2 n3 r, h => by
    unfold distinct at h
    obtain ⟨h1, h2⟩ := ands h
    refine List.nodup_cons.mpr ⟨fun z => ?_, IoR.nodup s r h2⟩
    rcases (IoR.mem s r z).2 with ⟨j, q1, q2⟩ | ⟨q1, _⟩
    · exact n1 ⟨_, q2⟩
    · simp [q1] at h1
theorem args_ok (s : Sr K γ G H env σ) : ∀ {os : List Opd} {xs : List V} {as : List Ar}, OpasR K G H env σ Hs xs os → arsOf env os = some as → ArsR K G H as xs ∧ IoR G H Hs env σ (iosOf env os) (ioAd as xs)
  | _, _, _, .nil, e => by simp only [arsOf] at e; cases e; exact ⟨.nil, .nil⟩
  | _, _, _, .cons (o := o) (x := x) r nf rr, e => by
    simp only [arsOf] at e
    split at e
    · rename_i a as' h1 h2
      cases e
      obtain ⟨q1, q2⟩ := args_ok s rr h2
      cases o with
      | pu d =>
        simp only [arOf] at h1
        cases h1
        exact ⟨.cons r q1, by cases x <;> exact q2⟩
      | fr xs => cases nf
      | fo xs =>
        simp only [arOf] at h1
        cases h1
        obtain ⟨l, ys, rfl, e1, e2, e3, e4, e5⟩ := r
        exact ⟨.cons ⟨l, ys, rfl, e1, e2, e3⟩ q1, .fo e4 e5 e2 q2⟩
      | bo i =>
        have r' : σ[i]? = some (some x) := r
        simp only [arOf] at h1
        split at h1
        · rename_i t xs q
          cases h1
          obtain ⟨l, ys, e1, e2, e3, e4, e5⟩ := s.ow_at q
          rw [r'] at e1; cases e1
          refine ⟨.cons ⟨l, ys, rfl, e2, e3, e4⟩ q1, ?_⟩
          simp only [iosOf, q]
          exact .slot e5 q2
        · rename_i t xs q
          cases h1
          obtain ⟨l, ys, e1, e2, e3⟩ := s.slot i _ q
          rw [r'] at e1; cases e1
          refine ⟨.cons ⟨l, ys, rfl, e2, e3⟩ q1, ?_⟩
          simp only [iosOf, q]
          exact q2
        · cases h1
    · cases e
theorem back_ok : ∀ {ios : List (Option Nat)} {outs : List (List D)} {env env' : Ev}, backOut env ios outs = some env' → distinct ios = true →
    env'.length = env.length ∧ ∀ (j : Nat) (sl : Sl), env'[j]? = some sl → (some j ∉ ios ∧ env[j]? = some sl) ∨ ∃ (n t : Nat) (xs xs0 : List D), ios[n]? = some (some j) ∧ outs[n]? = some xs ∧ env[j]? = some (.own t xs0) ∧ sl = .own t xs
  | [], [], _, _, e, _ => by
    simp only [backOut] at e
    cases e
    exact ⟨rfl, fun j sl h => .inl ⟨by simp, h⟩⟩
  | [], _ :: _, _, _, e, _ => by cases e
  | none :: is, [], _, _, e, _ => by cases e
  | some i :: is, [], _, _, e, _ => by cases e
  | none :: is, xs :: xss, _, _, e, d => by
    simp only [backOut] at e
    unfold distinct at d
    obtain ⟨_, d2⟩ := ands d
    obtain ⟨h1, h2⟩ := back_ok e d2
    refine ⟨h1, fun j sl h => ?_⟩
    rcases h2 j sl h with ⟨p, q⟩ | ⟨n, t, ys, y0, q1, q2, q3, q4⟩
    · exact .inl ⟨by simp [p], q⟩
    · exact .inr ⟨n + 1, t, ys, y0, by simpa using q1, by simpa using q2, q3, q4⟩
  | some i :: is, xs :: xss, env, _, e, d => by
    simp only [backOut] at e
    split at e
    · rename_i t x0 h0
      unfold distinct at d
      obtain ⟨d1, d2⟩ := ands d
      obtain ⟨h1, h2⟩ := back_ok e d2
      refine ⟨by rw [h1]; simp, fun j sl h => ?_⟩
      rcases h2 j sl h with ⟨p, q⟩ | ⟨n, u, ys, y0, q1, q2, q3, q4⟩
      · rcases get_set q with ⟨rfl, rfl⟩ | ⟨ne, q⟩
        · exact .inr ⟨0, t, xs, x0, rfl, rfl, h0, rfl⟩
        · refine .inl ⟨?_, q⟩
          simp only [List.mem_cons, not_or]
          exact ⟨fun z => ne (Option.some.inj z), p⟩
      · rcases get_set q3 with ⟨rfl, _⟩ | ⟨ne, q3⟩
        · have := List.mem_of_getElem? q1
          simp [this] at d1
        · exact .inr ⟨n + 1, u, ys, y0, by simpa using q1, by simpa using q2, q3, q4⟩
    · cases e
theorem OutsR.get : ∀ {as : List Addr} {xss : List (List D)} {n : Nat} {a : Addr} {xs : List D}, OutsR K G H as xss → as[n]? = some a → xss[n]? = some xs → ∃ ys, G a = none ∧ H a = some (.lst ys) ∧ PuA K G xs ys
  | _, _, _, _, _, .nil, h, _ => by simp at h
  | _, _, 0, _, _, .cons h1 h2 h3 _, e1, e2 => by simp at e1 e2; subst e1; subst e2; exact ⟨_, h1, h2, h3⟩
  | _, _, n + 1, _, _, .cons _ _ _ r, e1, e2 => OutsR.get (n := n) r (by simpa using e1) (by simpa using e2)

/-- the caller, behind the call -/
theorem call_ok {F : FT} {f n : Nat} {os : List Opd} {xs : List V} {o : Opd} {Q : VK} {E : XK} (s : Sr K γ G H env σ) (st : Step (Ow env0 σ) G0 H0 (Ow env σ) G H) (r : OpasR K G H env σ H0 xs os) (e : callO F f os env = some (o, env'))
    (k : KE K γ G0 H0 env0 σ env' o Q) (hn : ∀ as r, F f as = some r → as.length = n) : spF K F f n xs H Q E := by
  simp only [callO] at e
  split at e
  · cases e
  rename_i as has
  split at e
  · rename_i hd
    split at e
    · cases e
    rename_i rv outs hF
    split at e
    · cases e
    rename_i env2 hb
    have eo : o = rvO rv := by cases e; rfl
    have ee : env2 = env' := by cases e; rfl
    subst ee
    obtain ⟨ar, io⟩ := args_ok s r has
    obtain ⟨b1, b2⟩ := back_ok hb hd
    refine ⟨G, as, rv, outs, s.sub, ar, io.nodup s hd, hF, by rw [← ar.length]; exact hn _ _ hF, fun G' H' x q => ?_⟩
    have noSlot : ∀ {j a}, OwnAt env σ j a → some j ∉ iosOf env os → a ∉ ioAd as xs := fun {j a} h1 h2 z => by
      rcases (io.mem s z).2 with ⟨i, q1, q2⟩ | ⟨_, q2, _⟩
      · rw [s.inj _ _ _ q2 h1] at q1; exact h2 q1
      · exact q2 ⟨_, h1⟩
    have back : ∀ {j a}, OwnAt env2 σ j a → OwnAt env σ j a := fun {j a} ⟨⟨t, zs, h1⟩, h2⟩ => by
      rcases b2 j _ h1 with ⟨_, q1⟩ | ⟨_, u, _, y0, _, _, q3, _⟩
      · exact ⟨⟨_, _, q1⟩, h2⟩
      · exact ⟨⟨_, _, q3⟩, h2⟩
    have fz : ∀ {a ob u}, H a = some (.frz ob u) → a ∉ ioAd as xs := fun {a ob u} h z => by
      obtain ⟨⟨ys, h1⟩, _⟩ := io.mem s z
      rw [h] at h1; cases h1
    have outer : ∀ {a}, H0 a ≠ none → ¬ Ow env0 σ a → a ∉ ioAd as xs := fun {a} h1 h2 z => by
      rcases (io.mem s z).2 with ⟨i, _, q2⟩ | ⟨_, _, q3⟩
      · rcases st.o a ⟨_, q2⟩ with y | y
        · exact h2 y
        · exact h1 y
      · exact h1 q3
    have S' : Sr K γ G' H' env2 σ := by
      refine ⟨q.sub, by rw [b1]; exact s.len, fun j sl h => ?_, fun i j a h1 h2 => s.inj i j a (back h1) (back h2)⟩
      rcases b2 j sl h with ⟨p, h'⟩ | ⟨n', t, ys, y0, q1, q2, q3, rfl⟩
      · have w := s.slot j sl h'
        cases sl with
        | emp => trivial
        | val d => obtain ⟨v, w1, w2⟩ := w; exact ⟨v, w1, w2.mono q.g⟩
        | own t zs =>
          obtain ⟨a, ys, w1, w2, w3, w4, w5⟩ := w
          have na := noSlot ⟨⟨_, _, h'⟩, w1⟩ p
          exact ⟨a, ys, w1, q.n a (by rw [w3]; simp) w2 na, q.h a _ w3 na, w4.mono q.g, w5⟩
        | scr t zs =>
          obtain ⟨a, ys, w1, w2, w3⟩ := w
          refine ⟨a, ys, w1, ?_, w3.mono q.g⟩
          rcases w2 with ⟨ob, w2⟩ | w2
          · exact .inl ⟨ob, q.h a _ w2 (fz w2)⟩
          · exact .inr w2
      · obtain ⟨a, ws, w1, w2, w3, w4, w5⟩ := s.slot j _ q3
        obtain ⟨a', g1, g2⟩ := io.get q1
        have ea : a' = a := by
          have z := g2.2
          rw [w1] at z; cases z; rfl
        subst ea
        obtain ⟨zs, h1, h2, h3⟩ := q.o.get g1 q2
        exact ⟨a', zs, w1, h1, h2, h3, w5⟩
    have T' : Step (Ow env0 σ) G0 H0 (Ow env2 σ) G' H' := by
      refine ⟨st.g.trans q.g, fun a ob h1 h2 => ?_, fun a h1 h2 h3 => ?_, fun a h => q.f a (st.f a h), fun a ⟨j, h⟩ => st.o a ⟨j, back h⟩⟩
      · exact q.h a ob (st.h a ob h1 h2) (outer (by rw [h1]; simp) h2)
      · exact q.n a (st.f a h1) (st.n a h1 h2 h3) (outer h1 h3)
    refine k G' H' x S' T' ?_
    rw [eo]
    have rr := q.r
    cases rv with
    | pu d => exact rr
    | fr zs =>
      obtain ⟨a, ys, e1, e2, e3, e4, e5⟩ := rr
      have now : ¬ Ow env2 σ a := fun ⟨j, z⟩ => by
        obtain ⟨_, y, h⟩ := s.ow_some ⟨j, back z⟩
        rw [e5] at h; cases h
      exact ⟨a, ys, e1, e2, e3, e4, now, st.fb a e5⟩
  · cases e
end

/-! ### the rules -/
section
variable {X : Cx} {k : Nat} {f : Addr} {fd : FuncData} {ps : List Str} {sp : Sp}
theorem run_fnG {pins : List (Addr × Obj)} {σ : L2.St} {H : Hp} {s : Shared} {Q : VK} {E : XK} {us ws : List Value} {kw : List (Str × Value)} {vs : List V} (F : FnG X.prog X.w X.K X.mg X.base k f fd ps sp) (hr : Room k X.A) (hg : X.A.guards = some [])
    (hb : BindsTo s fd ⟨us, kw⟩ (ps.zip ws)) (I : Inv X pins σ H s) (r : Vals vs ws) (h : sp vs H Q E) : wpAny (model X.prog X.w) X.A (call (.ref f) us kw) (EP X pins σ Q) X.xe s := by
  refine wpAny_call (codeAny_mono (F.run X.A X.stack s H ⟨us, kw⟩ ws vs Q E hr hg I.env0 hb r h) fun r s' hq => ?_)
  cases r with
  | error e => exact False.elim hq
  | ok fl =>
    cases fl with
    | ret u => exact I.after hq
    | next => exact False.elim hq
    | brk => exact False.elim hq
    | cont => exact False.elim hq
variable {FF : FT} {C : List D} {γ : Gam} {x : Str} {p pos : Pos} {es : List Expr} {ies : IEs} {kws : List Keyword} {n fi : Nat}
theorem callN_len {pg : Pg} {k f n : Nat} {x : Str} {ps : List Str} {fn : Fn} (h : pg.fns[f]? = some (x, ps, fn)) (hn : fn.np = n) : ∀ as r, pg.F k f as = some r → as.length = n := fun as r e => by
  cases k with
  | zero => cases e
  | succ k =>
    have e' : callN pg.C pg.T (k + 1) f as = some r := e
    simp only [callN] at e'
    have ht : pg.T[f]? = some fn := by
      show (pg.fns.map (·.2.2))[f]? = some fn
      rw [List.getElem?_map, h]; rfl
    rw [ht] at e'
    simp only [runF] at e'
    split at e'
    · rename_i q; rw [← hn]; exact q
    · cases e'
theorem e_call (F : FnG X.prog X.w X.K X.mg X.base k f fd ps (spF X.K FF fi ps.length)) (hn : ∀ as r, FF fi as = some r → as.length = ps.length) (hr : Room k X.A) (hgd : X.A.guards = some []) (hg : Gl X x) (hm : X.mg x = some (.ref f)) (hk : PySem.W.keepIn X.K (.ref f) = true)
    (hb : ∀ (s : Shared) (us : List Value), X.K.In s.heap → us.length = ps.length → BindsTo s fd ⟨us, []⟩ (ps.zip us)) (hd : (x == ("__debug__" : Str)) = false) (hst : noStars es = true) (h0 : es = [] → ies = .nil) (ha : PA X es (tA FF C X.K γ ies)) :
    PE X (.Call (.Name x p) es [] pos) (tE FF C X.K γ (.call fi ies)) := by
  refine ⟨fun pins s σ H Q I ⟨G, env, o, env', sr, ev, k⟩ => ?_⟩
  simp only [evE] at ev
  split at ev
  · cases ev
  rename_i os e1 h1
  have fin : ∀ {s1 : Shared} {H1 : Hp} {G1 : Hp} {us : List Value} {vs : List V}, Inv X pins σ H1 s1 → Vals vs us → Sr X.K γ G1 H1 e1 σ → Step (Ow env σ) G H (Ow e1 σ) G1 H1 → OpasR X.K G1 H1 e1 σ H vs os → wpAny (model X.prog X.w) X.A (call (.ref f) us) (EP X pins σ Q) X.xe s1 := fun {s1 H1 G1 us vs} I1 rv s2 st r => by
    have q := call_ok (E := fun _ _ _ => False) s2 st r ev k hn
    refine run_fnG F hr hgd (hb s1 us I1.kIn ?_) I1 rv q
    rw [← rv.length]; exact F.len _ _ _ _ q
  refine wpAny_Call_Name_kw (ld_glob I hg hm ?_ hd)
  cases es with
  | nil =>
    have e0 := h0 rfl
    subst e0
    simp only [evA] at h1
    cases h1
    exact PySem.W.callWith_K0 I.kIn hk (fin I .nil sr Step.refl .nil)
  | cons e es =>
    obtain ⟨hs1, hs2⟩ := ands hst
    exact PySem.W.callWith_K (h₀ := X.base) I.ok.mod.kin hk (thn (ha.run pos pins s σ H (fun vs H1 => ∃ G1, Sr X.K γ G1 H1 e1 σ ∧ Step (Ow env σ) G H (Ow e1 σ) G1 H1 ∧ OpasR X.K G1 H1 e1 σ H vs os) I ⟨G, env, os, e1, sr, h1, fun G1 H1 xs s1 st1 r1 => ⟨G1, s1, st1, r1⟩⟩)
      fun us s1 ⟨vs, H1, I1, r, G1, s2, st, ro⟩ => ⟨I1.kIn, fin I1 r s2 st ro⟩) (star_cons hs1) (plain_any hs2)

/-! ### keywords -/
theorem kw_ok {env : Env} : ∀ {kws : List Keyword} {ks : List Str}, kwNames kws = some ks → (backToKw pos (keywordEach kws env)).all (·.1.isSome) = true ∧ (backToKw pos (keywordEach kws env)).filterMap (·.1) = ks ∧ (backToKw pos (keywordEach kws env)).any (·.1.isNone) = false ∧ ks.length = kws.length
  | [], _, h => by cases h; exact ⟨rfl, rfl, rfl, rfl⟩
  | ⟨nm, e, q⟩ :: r, ks, h => by
    cases nm with
    | none => cases h
    | some nm =>
      simp only [kwNames] at h
      obtain ⟨ks', h1, h2⟩ := Option.map_eq_some_iff.mp h
      subst h2
      obtain ⟨a, b, c, d⟩ := kw_ok (env := env) h1
      refine ⟨?_, ?_, ?_, by simp [d]⟩
      · show (true && (backToKw pos (keywordEach r env)).all (·.1.isSome)) = true
        rw [a]; rfl
      · show nm :: (backToKw pos (keywordEach r env)).filterMap (·.1) = _
        rw [b]
      · show (false || (backToKw pos (keywordEach r env)).any (·.1.isNone)) = false
        rw [c]; rfl
def IEs.len : IEs → Nat
  | .nil => 0
  | .cons _ r => r.len + 1
theorem evA_len : ∀ {ies : IEs} {env e1 : Ev} {os : List Opd}, evA FF C ies env = some (os, e1) → os.length = ies.len
  | .nil, _, _, _, h => by simp only [evA] at h; cases h; rfl
  | .cons ie r, _, _, _, h => by
    simp only [evA] at h
    split at h
    · cases h
    split at h
    · cases h
    rename_i h2
    cases h
    simp [IEs.len, evA_len h2]
theorem chkKs_len {pg : Pg} {c : SC} : ∀ {ies : IEs} {kws : List Keyword}, chkKs pg c ies kws = true → ies.len = kws.length
  | .nil, [], _ => rfl
  | .nil, _ :: _, h => by simp [chkKs] at h
  | .cons _ _, [], h => by simp [chkKs] at h
  | .cons ie r, ⟨n, e, q⟩ :: kws, h => by
    simp only [chkKs] at h
    obtain ⟨_, h2⟩ := ands h
    simp [IEs.len, chkKs_len h2]
theorem pick_opas {K : PySem.W.Frag} {G H Hs : Hp} {env : Ev} {σ : L2.St} {xs : List V} {os : List Opd} (r : OpasR K G H env σ Hs xs os) : ∀ {p : List Nat} {os' : List Opd}, pick os p = some os' → ∃ xs', pick xs p = some xs' ∧ OpasR K G H env σ Hs xs' os'
  | [], _, h => by simp only [pick] at h; cases h; exact ⟨[], rfl, .nil⟩
  | i :: p, _, h => by
    simp only [pick] at h
    split at h
    · rename_i o os' h1 h2
      cases h
      obtain ⟨xs', q1, q2⟩ := pick_opas r h2
      have key : ∀ {xs : List V} {os : List Opd} {i : Nat}, OpasR K G H env σ Hs xs os → os[i]? = some o → ∃ x, xs[i]? = some x ∧ OpdR K G H env σ Hs x o ∧ notFr o = true := by
        intro xs os i r
        induction r generalizing i with
        | nil => intro h; simp at h
        | cons a b _ ih =>
          intro h
          cases i with
          | zero => simp at h; subst h; exact ⟨_, rfl, a, b⟩
          | succ i =>
            obtain ⟨x, e1, e2⟩ := ih (by simpa using h)
            exact ⟨x, by simpa using e1, e2⟩
      obtain ⟨x, e1, e2, e3⟩ := key r h1
      exact ⟨x :: xs', by simp only [pick, e1, q1], .cons e2 e3 q2⟩
    · cases h
theorem pick_vals {xs : List V} {us : List Value} (r : Vals xs us) : ∀ {p : List Nat} {xs' : List V} {us' : List Value}, pick xs p = some xs' → pick us p = some us' → Vals xs' us'
  | [], _, _, h1, h2 => by simp only [pick] at h1 h2; cases h1; cases h2; exact .nil
  | i :: p, _, _, h1, h2 => by
    simp only [pick] at h1 h2
    split at h1
    · rename_i x xs' a1 a2
      split at h2
      · rename_i u us' b1 b2
        cases h1; cases h2
        obtain ⟨u', c1, c2⟩ := r.get a1
        rw [b1] at c1; cases c1
        exact .cons c2 (pick_vals r a2 b2)
      · cases h2
    · cases h1
theorem e_callk {pm : List Nat} {ks : List Str} (F : FnG X.prog X.w X.K X.mg X.base k f fd ps (spF X.K FF fi ps.length)) (hn : ∀ as r, FF fi as = some r → as.length = ps.length) (hr : Room k X.A) (hgd : X.A.guards = some []) (hg : Gl X x) (hm : X.mg x = some (.ref f)) (hk : PySem.W.keepIn X.K (.ref f) = true)
    (hb : ∀ (s : Shared) (ws : List Value), X.K.In s.heap → ws.length = ks.length → ∃ us, pick ws pm = some us ∧ BindsTo s fd ⟨[], ks.zip ws⟩ (ps.zip us)) (hd : (x == ("__debug__" : Str)) = false) (hks : kwNames kws = some ks) (hl : ies.len = kws.length) (ha : PK X kws (tA FF C X.K γ ies)) :
    PE X (.Call (.Name x p) [] kws pos) (tE FF C X.K γ (.callk fi pm ies)) := by
  refine ⟨fun pins s σ H Q I ⟨G, env, o, env', sr, ev, k⟩ => ?_⟩
  simp only [evE] at ev
  split at ev
  · cases ev
  rename_i os e1 h1
  split at ev
  · rename_i os' hp
    obtain ⟨k1, k2, k3, k4⟩ := kw_ok (pos := pos) (env := X.env) hks
    refine wpAny_Call_Name_kw (ld_glob I hg hm ?_ hd)
    refine PySem.W.callWith_KW0 (h₀ := X.base) I.ok.mod.kin hk k1 (thn (ha.run pos pins s σ H (fun vs H1 => ∃ G1, Sr X.K γ G1 H1 e1 σ ∧ Step (Ow env σ) G H (Ow e1 σ) G1 H1 ∧ OpasR X.K G1 H1 e1 σ H vs os) I ⟨G, env, os, e1, sr, h1, fun G1 H1 xs s1 st1 r1 => ⟨G1, s1, st1, r1⟩⟩)
      fun ws s1 ⟨vs, H1, I1, r, G1, s2, st, ro⟩ => ⟨I1.kIn, ?_⟩) (by rw [k3]; rfl)
    rw [k2]
    have hw : ws.length = ks.length := by rw [← r.length, ← ro.length, evA_len h1, hl, k4]
    obtain ⟨us, p1, bt⟩ := hb s1 ws I1.kIn hw
    obtain ⟨xs', p2, ro'⟩ := pick_opas ro hp
    have q := call_ok (E := fun _ _ _ => False) s2 st ro' ev k hn
    exact run_fnG F hr hgd bt I1 (pick_vals r p2 p1) q
  · cases ev
end
end Rf

set_option Elab.async false
set_option linter.all false
set_option maxRecDepth 100000
set_option maxHeartbeats 4000000
/-! Rf: what loops walk. -/
namespace Rf
open PySem PySem.Spec PyProof.Rows L2
open Sem (wp)
open AutoSeq1 (wpAny_loadPart')

/-! ### enumerate of a tuple -/
theorem meets_enumT (l : Addr) (o : Obj) (items : Array Value) (hc : o.cls = .type "tuple") (n : Nat) (hd : o.data = .seq items n) :
    Meets (Builtin.«enumerate.__new__» ⟨[.type "enumerate", .ref l], []⟩) (fun _ R s => s.heap.get? l = some o ∧
      R (.ok (.ret (.ref (s.heap.push { cls := .type "tuple_iterator", data := .fields #[.ref l, .int 0 0] }).objs.size)))
        { s with heap := (s.heap.push { cls := .type "tuple_iterator", data := .fields #[.ref l, .int 0 0] }).push { cls := .type "enumerate", data := .fields #[.none, .bool false, .ref s.heap.objs.size, rawInt 0, .none, .none] } }) :=
  .of_wp fun prog w A R s h => by
    obtain ⟨hp, g, d, tk, os⟩ := s; obtain ⟨hl, h⟩ := h
    have hsub := sub_enumerate
    have hL : Heap.IsTuple (Shared.heap ⟨hp, g, d, tk, os⟩) l items := ⟨_, hl, hc, n, hd⟩
    have q1 : ∀ {A' : Around} {E : Value → Shared → Prop} {Q : Value → Shared → Prop}, Q (.ref hp.objs.size) ⟨hp.push { cls := .type "tuple_iterator", data := .fields #[.ref l, .int 0 0] }, g, d, tk, os⟩ → wpAny (model prog w) A' (pyIter (.ref l)) Q E ⟨hp, g, d, tk, os⟩ :=
      fun q => wpAny_pyIter_tuple hL q
    wp_walk using q1
    refine wpAny_stack_any fun st => wpAny_pure ?_
    split
    · rename_i c _ _ _ _ _
      cases (c == Value.type "enumerate")
      · wp_walk using q1
        exact ⟨_, rfl, h⟩
      · wp_walk using q1
        exact ⟨_, rfl, h⟩
    · wp_walk using q1
      exact ⟨_, rfl, h⟩
section
variable {prog : Program} {w : World} {A : Around} {E : Value → Shared → Prop} {s : Shared}
theorem call_enumT {l : Addr} {items : Array Value} {Q : Value → Shared → Prop} (hL : s.heap.IsTuple l items)
    (h : ∀ h', IsEnum h' (s.heap.objs.size + 1) s.heap.objs.size 0 .none → h'.IsTupleIter s.heap.objs.size l 0 → h'.objs.size = s.heap.objs.size + 2 →
      (∀ b o, s.heap.get? b = some o → h'.get? b = some o) → Q (.ref (s.heap.objs.size + 1)) { s with heap := h' }) :
    wpAny (model prog w) A (call (.type "enumerate") [.ref l]) Q E s := by
  obtain ⟨o, hl, hc, n, hd⟩ := hL
  refine callType_new F.called_enumerate (by decide) (F.typeCall_enumerate_1 _) (F.newCall_enumerate_1 _) (fun obj => F.args_object_init_2 obj _) F.entry_enumerate_new
    (meets_enumT l o items hc n hd) ⟨hl, ?_⟩
  have hz : (s.heap.push { cls := .type "tuple_iterator", data := .fields #[.ref l, .int 0 0] }).objs.size = s.heap.objs.size + 1 := Heap.size_push ..
  show _ ∧ _
  rw [hz]
  have he : IsEnum ((s.heap.push { cls := .type "tuple_iterator", data := .fields #[.ref l, .int 0 0] }).push
      { cls := .type "enumerate", data := .fields #[.none, .bool false, .ref s.heap.objs.size, rawInt 0, .none, .none] }) (s.heap.objs.size + 1) s.heap.objs.size 0 .none := by
    have := Heap.get?_push_size (s.heap.push { cls := .type "tuple_iterator", data := .fields #[.ref l, .int 0 0] })
      (o := { cls := .type "enumerate", data := .fields #[.none, .bool false, .ref s.heap.objs.size, rawInt 0, .none, .none] }) rfl
    rw [hz] at this; exact this
  refine ⟨⟨_, he, rfl⟩, h _ he ⟨_, Heap.get?_push_of_some _ (Heap.get?_push_size _ rfl), rfl, rfl⟩ (by rw [Heap.size_push, hz]) fun b o x => Heap.get?_push_of_some _ (Heap.get?_push_of_some _ x)⟩
end
/-- the tuple at a as it stands at each turn, each item in a new pair -/
def IteT (K : PySem.W.Frag) (a : Addr) : It :=
  ⟨fun i H => ∃ (xs : List V) (x : V), SqT K H a xs ∧ xs[i]? = some x, fun i H v H' => ∃ T x, v = .ref T ∧ H T = none ∧ H' = upd H T (.tup [.int (i : Nat), x]) ∧ ∀ xs, SqT K H a xs → xs[i]? = some x, fun i H => ∃ xs : List V, SqT K H a xs ∧ xs.length ≤ i⟩
theorem turn_enumT {P : Program} {w : World} {K : PySem.W.Frag} {elts : List Expr} {kk : Nat} {tpos : Pos} (a e it : Addr) :
    Turn P w K (.Tuple elts kk tpos) (IteT K a) [e, it] e (fun i h => (∃ old, IsEnum h e it ((i : Nat) : Int) old) ∧ h.IsTupleIter it a i ∧ e ≠ it) where
  mem := by simp
  obj := fun i h st b hb => by
    obtain ⟨⟨old, he⟩, ⟨o, ho, hc, hd⟩, _⟩ := st
    have e' : b = e ∨ b = it := by simpa using hb
    rcases e' with z | z
    · rw [z]; exact ⟨_, he, fun v q => nomatch q⟩
    · rw [z]; exact ⟨o, ho, fun v q => by rw [hd] at q; cases q⟩
  keep := fun i h h' st k => let ⟨⟨old, he⟩, hi, hne⟩ := st; ⟨⟨old, k e (by simp) _ he⟩, hi.at fun o q => k it (by simp) o q, hne⟩
  item := by
    intro X hP hw hK hc i pins s σ H E I hf st hg
    subst hP hw hK
    obtain ⟨⟨old, he⟩, hit, hne⟩ := st
    obtain ⟨xs, x, hq, hx⟩ := hg
    obtain ⟨its, rv, p, hz⟩ := I.tuple hq
    have p' : s.heap.IsTuple a its.toArray := p
    obtain ⟨u, hu, ru⟩ := rv.get hx
    have hel : e < s.heap.objs.size := Heap.lt_size he
    have hil : it < s.heap.objs.size := by obtain ⟨_, q, _⟩ := hit; exact Heap.lt_size q
    have hlt : i < its.toArray.size := by
      have := (List.getElem?_eq_some_iff.mp hu).1
      simpa using this
    have nea : a ≠ it := fun z => by
      obtain ⟨o1, h1, c1, _⟩ := p'
      obtain ⟨o2, h2, c2, _⟩ := hit
      rw [z, h2] at h1; cases h1
      rw [c1] at c2
      exact absurd c2 (by simp)
    have nee : e ≠ a := fun z => by
      obtain ⟨o1, h1, c1, _⟩ := p'
      rw [← z, he] at h1; cases h1
      exact absurd c1 (by simp)
    refine wpAny_pyNext_enum_itemD (Draws.tuple (A := X.A.in1) (I.ok.hd hc) it a nea its.toArray) he ⟨hit, p'⟩ hlt hne (by simp [hne, nee]) fun x' h' tk hx' ho st' hT hsz hk => ?_
    have eu : x' = u := by
      have : its[i]? = some x' := by simpa using hx'
      rw [hu] at this; cases this; rfl
    subst eu
    refine ⟨_, rfl, wpAny_letOwnedTupleGo_enum (s := { s with heap := h', toks := tk + 1 }) ho fun h'' he' sb => ?_⟩
    have hT2 : h''.get? s.heap.objs.size = some { cls := .type "tuple", data := .seq #[.int i tk, x'] } := (sb.2 _ (Nat.ne_of_gt hel)).trans hT
    have new : ObjOk X.prog X.w (upd H s.heap.objs.size (.tup [.int (i : Nat), x])) h'' s.heap.objs.size (.tup [.int (i : Nat), x]) :=
      ⟨by show 2 ≤ sizeLine; decide, [.int i tk, x'], .cons ⟨_, rfl⟩ (.cons ru .nil), ⟨_, hT2, rfl, _, rfl⟩⟩
    have I1 : Inv X pins σ (upd H s.heap.objs.size (.tup [.int (i : Nat), x])) { s with heap := h'', toks := tk + 1 } :=
      I.turnedNew (ch := [e, it]) (fun b ob hb q => (sb.2 b (fun z => hb (by simp [z]))).trans (hk b ob (fun z => hb (by simp [z])) (fun z => hb (by simp [z])) q)) hf (Nat.le_refl _) new
    refine ⟨.ref s.heap.objs.size, _, I1, rfl, ⟨_, x, rfl, I.hok.fresh (Nat.le_refl _), rfl, fun ys hy => by rw [I.tuple_inj hy hq]; exact hx⟩, ⟨⟨x', ?_⟩, st'.1.at fun o q => (sb.2 it (Ne.symm hne)).trans q, hne⟩, fun b hb => ?_⟩
    · have e1 : ((i + 1 : Nat) : Int) = (i : Int) + 1 := by omega
      rw [e1]; exact he'
    · have hb' : b < s.heap.objs.size := by
        have e' : b = e ∨ b = it := by simpa using hb
        rcases e' with z | z
        · rw [z]; exact hel
        · rw [z]; exact hil
      rw [upd_ne (Nat.ne_of_lt hb')]
      exact (hf b hb).1
  done := by
    intro X hP hw hK hc i pins s σ H E I hf st hg
    subst hP hw hK
    obtain ⟨⟨old, he⟩, hit, hne⟩ := st
    obtain ⟨xs, hq, hx⟩ := hg
    obtain ⟨its, rv, p, hz⟩ := I.tuple hq
    have p' : s.heap.IsTuple a its.toArray := p
    obtain ⟨f0, f1, f2, f3, f4, f5⟩ := hf it (by simp)
    have hl := rv.length
    have hT : s.TypeIs (.ref e) "enumerate" := ⟨_, he, rfl⟩
    unfold pyNext
    refine wpAny_bind (wpAny_attempt (wpAny_callSpecial?_slot (name := Str.ofString "__next__") hT F.slot_enumerate_next
      (wpAny_call_entry F.slot_enumerate_next hT F.entry_enumerate_next ?_ (F.args_enumerate_next_1 _))))
    show wpAny _ _ (field (.ref e) 2 >>= _) _ _ _
    refine wpAny_bind (wpAny_field he rfl (x := .ref it) rfl ?_)
    refine wpAny_bind (wpAny_nextOf_tuple_end (I.ok.hd hc) hit p' (by simp; omega) fun h' x he' hx' => ?_)
    obtain ⟨o, ho, hc'⟩ := hx'
    refine wpAny_bind (wpAny_isInstance (T := "StopIteration") (b := true) ⟨o, ho, hc'⟩ isSubtype_stop ?_)
    exact wpAny_pure ⟨rfl, I.turned (t' := s.toks) (fun b o hb q => he' b o hb q) f0 f1 f3 f4 f5⟩
  self := fun A i s Q E st h => let ⟨⟨_, he⟩, _⟩ := st; wpAny_pyIter_enum he h

/-! ### lists or tuples -/
section
variable {X : Cx} {tg : Expr}
def iSeq (K : PySem.W.Frag) (tl : TE) : TI := fun σ H R => tl σ H fun x H1 => ∃ a, x = .ref a ∧ (((∃ xs, SqL K H1 a xs) ∧ R (Itl K a) H1) ∨ ((∃ xs, SqT K H1 a xs) ∧ R (Itt K a) H1))
theorem pi_seq {l : Expr} {tl : TE} (hl : PE X l tl) : PI X tg l (iSeq X.K tl) := by
  refine ⟨fun pins s σ H R I h => ?_⟩
  refine thn (hl.run pins s σ H _ I h) fun v s1 ⟨x, H1, I1, r1, q1⟩ => ?_
  obtain ⟨a, e, q1⟩ := q1
  subst e
  cases r1
  rcases q1 with ⟨⟨xs, hq⟩, q⟩ | ⟨⟨xs, hq⟩, q⟩
  · obtain ⟨its, rv, p, hz⟩ := I1.list hq
    refine wpAny_pyIter_list p.isList ?_
    refine ⟨s1.heap.objs.size, [s1.heap.objs.size], _, _, H1, rfl, I1.kept (t' := s1.toks) fun b o e => Heap.get?_push_of_some _ e, turn_list a _, ⟨_, Heap.get?_push_size _ rfl, rfl, rfl⟩, fun b hb => ?_, q⟩
    have e : b = s1.heap.objs.size := by simpa using hb
    subst e
    exact I1.fpOk (Nat.le_refl _) (I1.hok.fresh (Nat.le_refl _))
  · obtain ⟨its, rv, p, hz⟩ := I1.tuple hq
    refine wpAny_pyIter_tuple (show s1.heap.IsTuple a its.toArray from p) ?_
    refine ⟨s1.heap.objs.size, [s1.heap.objs.size], _, _, H1, rfl, I1.kept (t' := s1.toks) fun b o e => Heap.get?_push_of_some _ e, turn_tuple a _, ⟨_, Heap.get?_push_size _ rfl, rfl, rfl⟩, fun b hb => ?_, q⟩
    have e : b = s1.heap.objs.size := by simpa using hb
    subst e
    exact I1.fpOk (Nat.le_refl _) (I1.hok.fresh (Nat.le_refl _))
def iEnu (K : PySem.W.Frag) (tl : TE) : TI := fun σ H R => tl σ H fun x H1 => ∃ a, x = .ref a ∧ (((∃ xs, SqL K H1 a xs) ∧ R (Ite K a) H1) ∨ ((∃ xs, SqT K H1 a xs) ∧ R (IteT K a) H1))
theorem pi_enu {e : Expr} {te : TE} {p pos tpos : Pos} {elts : List Expr} {kk : Nat} (hg : Gl X "enumerate") (hm : X.mg "enumerate" = none) (hs : notStar e = true) (he : PE X e te) : PI X (.Tuple elts kk tpos) (.Call (.Name "enumerate" p) [e] [] pos) (iEnu X.K te) := by
  refine ⟨fun pins s σ H R I h => ?_⟩
  refine Call_ (ld_blt I hg hm boot_enumerate (PyProof.Rows.callWith_type1 (thn ((pa_cons he pa_nil (star_cons hs)).run pos pins s σ H (fun vs H1 => match vs with
    | [x] => ∃ a, x = V.ref a ∧ (((∃ xs, SqL X.K H1 a xs) ∧ R (Ite X.K a) H1) ∨ ((∃ xs, SqT X.K H1 a xs) ∧ R (IteT X.K a) H1))
    | _ => False) I h) fun us s1 ⟨vs, H1, I1, r1, q1⟩ => ?_) (star_cons hs) rfl))
  rcases vs with _ | ⟨x, _ | ⟨y, vs⟩⟩
  · exact q1.elim
  rotate_left
  · exact q1.elim
  obtain ⟨a, ea, q⟩ := q1
  subst ea
  cases r1 with
  | cons r rr =>
    cases rr
    cases r
    have fresh2 : ∀ b, b ∈ [s1.heap.objs.size + 1, s1.heap.objs.size] → FpOk X pins H1 b := fun b hb => by
      have e' : b = s1.heap.objs.size + 1 ∨ b = s1.heap.objs.size := by simpa using hb
      have hle : s1.heap.objs.size ≤ b := by
        rcases e' with z | z
        · rw [z]; exact Nat.le_add_right _ _
        · rw [z]; exact Nat.le_refl _
      exact I1.fpOk hle (I1.hok.fresh hle)
    rcases q with ⟨⟨xs, hq⟩, q⟩ | ⟨⟨xs, hq⟩, q⟩
    · obtain ⟨its, rv, p', hz⟩ := I1.list hq
      refine call_enumerate_list p'.isList fun h' he hit hsz hk => wpAny_pyIter_enum he ?_
      exact ⟨s1.heap.objs.size + 1, [s1.heap.objs.size + 1, s1.heap.objs.size], _, _, H1, rfl, I1.kept (t' := s1.toks) hk, turn_enum a (s1.heap.objs.size + 1) s1.heap.objs.size, ⟨⟨.none, he⟩, hit, Nat.succ_ne_self _⟩, fresh2, q⟩
    · obtain ⟨its, rv, p', hz⟩ := I1.tuple hq
      refine call_enumT (show s1.heap.IsTuple a its.toArray from p') fun h' he hit hsz hk => wpAny_pyIter_enum he ?_
      exact ⟨s1.heap.objs.size + 1, [s1.heap.objs.size + 1, s1.heap.objs.size], _, _, H1, rfl, I1.kept (t' := s1.toks) hk, turn_enumT a (s1.heap.objs.size + 1) s1.heap.objs.size, ⟨⟨.none, he⟩, hit, Nat.succ_ne_self _⟩, fresh2, q⟩

/-! ### what is served -/
structure ItR (K : PySem.W.Frag) (G : Hp) (J : It) (ds : List D) : Prop where
  go : ∀ i H, Sub G H → i < ds.length → J.go i H
  stop : ∀ H, Sub G H → J.stop ds.length H
  yld : ∀ i H x H' Gc, Sub G Gc → Sub Gc H → J.yld i H x H' → ∀ d, ds[i]? = some d → ∃ Gc', Ext Gc H Gc' H' ∧ Pu K Gc' d x
theorem ItR.list {K : PySem.W.Frag} {G : Hp} {a : Addr} {ys : List V} {ds : List D} (e : G a = some (.lst ys)) (p : PuA K G ds ys) : ItR K G (Itl K a) ds where
  go := fun i H s hi => by
    obtain ⟨v, hv, _⟩ := p.get (List.getElem?_eq_getElem hi)
    exact ⟨ys, v, SqL.of (s _ _ e), hv⟩
  stop := fun H s => ⟨ys, SqL.of (s _ _ e), by rw [p.length]; exact Nat.le_refl _⟩
  yld := fun i H x H' Gc s1 s2 ⟨h1, h2⟩ d hd => by
    subst h1
    have hx := h2 ys (SqL.of (s2 _ _ (s1 _ _ e)))
    obtain ⟨v, hv, pv⟩ := p.get hd
    rw [hx] at hv; cases hv
    exact ⟨Gc, Ext.refl s2, pv.mono s1⟩
theorem ItR.tup {K : PySem.W.Frag} {G : Hp} {a : Addr} {ys : List V} {ds : List D} (e : SqT K G a ys) (p : PuA K G ds ys) : ItR K G (Itt K a) ds where
  go := fun i H s hi => by
    obtain ⟨v, hv, _⟩ := p.get (List.getElem?_eq_getElem hi)
    exact ⟨ys, v, sqT_sub s e, hv⟩
  stop := fun H s => ⟨ys, sqT_sub s e, by rw [p.length]; exact Nat.le_refl _⟩
  yld := fun i H x H' Gc s1 s2 ⟨h1, h2⟩ d hd => by
    subst h1
    have hx := h2 ys (sqT_sub (s1.trans s2) e)
    obtain ⟨v, hv, pv⟩ := p.get hd
    rw [hx] at hv; cases hv
    exact ⟨Gc, Ext.refl s2, pv.mono s1⟩
theorem enuL_length : ∀ (ds : List D) (k : Nat), (enuL k ds).length = ds.length
  | [], _ => rfl
  | _ :: r, k => congrArg Nat.succ (enuL_length r (k + 1))
theorem enuL_get : ∀ {ds : List D} {k i : Nat} {d : D}, (enuL k ds)[i]? = some d → ∃ e, ds[i]? = some e ∧ d = .tuple [.int ((k + i : Nat) : Int), e]
  | [], _, _, _, h => by simp [enuL] at h
  | e :: r, k, 0, d, h => by
    simp [enuL] at h
    exact ⟨e, rfl, by rw [← h]; simp⟩
  | e :: r, k, i + 1, d, h => by
    obtain ⟨x, h1, h2⟩ := enuL_get (ds := r) (k := k + 1) (i := i) (by simpa [enuL] using h)
    refine ⟨x, by simpa using h1, ?_⟩
    rw [h2]
    have : k + 1 + i = k + (i + 1) := by omega
    rw [this]
theorem pair_new {K : PySem.W.Frag} {Gc H : Hp} {T : Addr} {x y : V} {d e : D} (s : Sub Gc H) (hT : H T = none) (px : Pu K Gc d x) (py : Pu K Gc e y) :
    ∃ Gc', Ext Gc H Gc' (upd H T (.tup [x, y])) ∧ Pu K Gc' (.tuple [d, e]) (.ref T) := by
  refine ⟨upd Gc T (.tup [x, y]), Ext.newG s hT, ?_⟩
  have up := up_sub (o := .tup [x, y]) (none_of s hT)
  exact .tup (SqT.of upd_same) (.cons (px.mono up) (.cons (py.mono up) .nil))
theorem ItR.enuL {K : PySem.W.Frag} {G : Hp} {a : Addr} {ys : List V} {ds : List D} (e : G a = some (.lst ys)) (p : PuA K G ds ys) : ItR K G (Ite K a) (enuL 0 ds) where
  go := fun i H s hi => by
    rw [enuL_length] at hi
    obtain ⟨v, hv, _⟩ := p.get (List.getElem?_eq_getElem hi)
    exact ⟨ys, v, SqL.of (s _ _ e), hv⟩
  stop := fun H s => ⟨ys, SqL.of (s _ _ e), by rw [enuL_length, p.length]; exact Nat.le_refl _⟩
  yld := fun i H x H' Gc s1 s2 ⟨T, x', e1, hT, e2, h2⟩ d hd => by
    subst e1; subst e2
    have hx := h2 ys (SqL.of (s2 _ _ (s1 _ _ e)))
    obtain ⟨d', hd', rfl⟩ := enuL_get hd
    obtain ⟨v, hv, pv⟩ := p.get hd'
    rw [hx] at hv; cases hv
    rw [Nat.zero_add]
    exact pair_new s2 hT (.int _) (pv.mono s1)
theorem ItR.enuT {K : PySem.W.Frag} {G : Hp} {a : Addr} {ys : List V} {ds : List D} (e : SqT K G a ys) (p : PuA K G ds ys) : ItR K G (IteT K a) (Rf.enuL 0 ds) where
  go := fun i H s hi => by
    rw [enuL_length] at hi
    obtain ⟨v, hv, _⟩ := p.get (List.getElem?_eq_getElem hi)
    exact ⟨ys, v, sqT_sub s e, hv⟩
  stop := fun H s => ⟨ys, sqT_sub s e, by rw [enuL_length, p.length]; exact Nat.le_refl _⟩
  yld := fun i H x H' Gc s1 s2 ⟨T, x', e1, hT, e2, h2⟩ d hd => by
    subst e1; subst e2
    have hx := h2 ys (sqT_sub (s1.trans s2) e)
    obtain ⟨d', hd', rfl⟩ := enuL_get hd
    obtain ⟨v, hv, pv⟩ := p.get hd'
    rw [hx] at hv; cases hv
    rw [Nat.zero_add]
    exact pair_new s2 hT (.int _) (pv.mono s1)
theorem zipL_length : ∀ (xs ys : List D), (zipL xs ys).length = min xs.length ys.length
  | [], _ => by simp [zipL]
  | _ :: _, [] => by simp [zipL]
  | _ :: r, _ :: s => by simp [zipL, zipL_length r s]
theorem zipL_get : ∀ {xs ys : List D} {i : Nat} {d : D}, (zipL xs ys)[i]? = some d → ∃ a b, xs[i]? = some a ∧ ys[i]? = some b ∧ d = .tuple [a, b]
  | [], _, _, _, h => by simp [zipL] at h
  | _ :: _, [], _, _, h => by simp [zipL] at h
  | x :: r, y :: s, 0, d, h => by
    simp [zipL] at h
    exact ⟨x, y, rfl, rfl, h.symm⟩
  | x :: r, y :: s, i + 1, d, h => by
    obtain ⟨a, b, h1, h2, h3⟩ := zipL_get (xs := r) (ys := s) (i := i) (by simpa [zipL] using h)
    exact ⟨a, b, by simpa using h1, by simpa using h2, h3⟩
theorem ItR.zipL {K : PySem.W.Frag} {G : Hp} {a b : Addr} {ys zs : List V} {ds es : List D} (e : G a = some (.lst ys)) (p : PuA K G ds ys) (e' : G b = some (.lst zs)) (p' : PuA K G es zs) : ItR K G (Itz K a b) (Rf.zipL ds es) where
  go := fun i H s hi => by
    rw [zipL_length] at hi
    obtain ⟨v, hv, _⟩ := p.get (List.getElem?_eq_getElem (Nat.lt_of_lt_of_le hi (Nat.min_le_left _ _)))
    obtain ⟨w, hw, _⟩ := p'.get (List.getElem?_eq_getElem (Nat.lt_of_lt_of_le hi (Nat.min_le_right _ _)))
    exact ⟨ys, zs, v, w, SqL.of (s _ _ e), SqL.of (s _ _ e'), hv, hw⟩
  stop := fun H s => ⟨ys, zs, SqL.of (s _ _ e), SqL.of (s _ _ e'), by
    rw [zipL_length, p.length, p'.length]
    omega⟩
  yld := fun i H x H' Gc s1 s2 ⟨T, x', y', e1, hT, e2, h2, h3⟩ d hd => by
    subst e1; subst e2
    have hx := h2 ys (SqL.of (s2 _ _ (s1 _ _ e)))
    have hy := h3 zs (SqL.of (s2 _ _ (s1 _ _ e')))
    obtain ⟨da, db, h1, h4, rfl⟩ := zipL_get hd
    obtain ⟨v, hv, pv⟩ := p.get h1
    obtain ⟨w, hw, pw⟩ := p'.get h4
    rw [hx] at hv; cases hv
    rw [hy] at hw; cases hw
    exact pair_new s2 hT (pv.mono s1) (pw.mono s1)
theorem ItR.zipT {K : PySem.W.Frag} {G : Hp} {a b : Addr} {ys zs : List V} {ds es : List D} (e : SqT K G a ys) (p : PuA K G ds ys) (e' : SqT K G b zs) (p' : PuA K G es zs) : ItR K G (RZ.ItzT K a b) (Rf.zipL ds es) where
  go := fun i H s hi => by
    rw [zipL_length] at hi
    obtain ⟨v, hv, _⟩ := p.get (List.getElem?_eq_getElem (Nat.lt_of_lt_of_le hi (Nat.min_le_left _ _)))
    obtain ⟨w, hw, _⟩ := p'.get (List.getElem?_eq_getElem (Nat.lt_of_lt_of_le hi (Nat.min_le_right _ _)))
    exact ⟨ys, zs, v, w, sqT_sub s e, sqT_sub s e', hv, hw⟩
  stop := fun H s => ⟨ys, zs, sqT_sub s e, sqT_sub s e', by
    rw [zipL_length, p.length, p'.length]
    omega⟩
  yld := fun i H x H' Gc s1 s2 ⟨T, x', y', e1, hT, e2, h2, h3⟩ d hd => by
    subst e1; subst e2
    have hx := h2 ys (sqT_sub (s1.trans s2) e)
    have hy := h3 zs (sqT_sub (s1.trans s2) e')
    obtain ⟨da, db, h1, h4, rfl⟩ := zipL_get hd
    obtain ⟨v, hv, pv⟩ := p.get h1
    obtain ⟨w, hw, pw⟩ := p'.get h4
    rw [hx] at hv; cases hv
    rw [hy] at hw; cases hw
    exact pair_new s2 hT (pv.mono s1) (pw.mono s1)
theorem ups_get : ∀ {n : Nat} {lo : Int} {i : Nat} {d : D}, (ups lo n)[i]? = some d → d = .int (lo + i)
  | 0, _, _, _, h => by simp [ups] at h
  | n + 1, lo, 0, d, h => by simp [ups] at h; rw [← h]; simp
  | n + 1, lo, i + 1, d, h => by
    have := ups_get (n := n) (lo := lo + 1) (i := i) (by simpa [ups] using h)
    rw [this]
    congr 1
    omega
theorem ItR.rng {K : PySem.W.Frag} {G : Hp} (lo : Int) (n : Nat) : ItR K G (Itr lo n) (ups lo n) where
  go := fun i H s hi => by rw [ups_length] at hi; exact hi
  stop := fun H s => by rw [ups_length]; exact Nat.le_refl _
  yld := fun i H x H' Gc s1 s2 ⟨h1, h2⟩ d hd => by
    subst h1
    rw [ups_get hd, h2]
    exact ⟨Gc, Ext.refl s2, .int _⟩

/-! ### the rules -/
variable {F : FT} {C : List D} {γ : Gam} {a b : Expr} {ia ib : IE} {p pos tpos : Pos} {elts : List Expr} {kk : Nat}
def tI (F : FT) (C : List D) (K : PySem.W.Frag) (γ : Gam) (ii : II) : TI := fun σ H R => ∃ G env ds env', Sr K γ G H env σ ∧ evI F C ii env = some (ds, env') ∧
  ∀ G' H' J, Sr K γ G' H' env' σ → Step (Ow env σ) G H (Ow env' σ) G' H' → ItR K G' J ds → R J H'
theorem PI.weak {tg it : Expr} {t t' : TI} (h : PI X tg it t) (w : ∀ σ H Q, t' σ H Q → t σ H Q) : PI X tg it t' := ⟨fun pins s σ H Q I q => h.run pins s σ H Q I (w _ _ _ q)⟩
theorem seq_cases {K : PySem.W.Frag} {G : Hp} {d : D} {x : V} {ds : List D} (p : Pu K G d x) (h : seqV d = some ds) : ∃ l ys, x = .ref l ∧ PuA K G ds ys ∧ (G l = some (.lst ys) ∨ SqT K G l ys) := by
  cases p <;> simp only [seqV] at h <;> (try cases h)
  · rename_i l ys e p
    exact ⟨l, ys, rfl, p, .inl e⟩
  · rename_i l ys e p
    exact ⟨l, ys, rfl, p, .inr e⟩
theorem i_it {tg : Expr} (ha : PE X a (tE F C X.K γ ia)) : PI X tg a (tI F C X.K γ (.it ia)) := by
  refine PI.weak (pi_seq ha) fun σ H R ⟨G, env, ds, env', sr, ev, k⟩ => ?_
  simp only [evI] at ev
  split at ev
  · cases ev
  rename_i o e1 h1
  split at ev
  · cases ev
  rename_i d hd
  obtain ⟨ds', h2, e2⟩ := Option.map_eq_some_iff.mp ev
  cases e2
  refine ⟨G, env, o, _, sr, h1, fun G1 H1 x s1 st1 r1 => ?_⟩
  obtain ⟨G2, s2, st2, _, pd, _⟩ := frz_ok s1 st1 r1 hd
  obtain ⟨l, ys, rfl, pa, q⟩ := seq_cases pd h2
  rcases q with q | q
  · exact ⟨l, rfl, .inl ⟨⟨ys, SqL.of (s2.sub _ _ q)⟩, k G2 H1 _ s2 st2 (.list q pa)⟩⟩
  · exact ⟨l, rfl, .inr ⟨⟨ys, sqT_sub s2.sub q⟩, k G2 H1 _ s2 st2 (.tup q pa)⟩⟩
theorem i_enu (hg : Gl X "enumerate") (hm : X.mg "enumerate" = none) (hs : notStar a = true) (ha : PE X a (tE F C X.K γ ia)) : PI X (.Tuple elts kk tpos) (.Call (.Name "enumerate" p) [a] [] pos) (tI F C X.K γ (.enu ia)) := by
  refine PI.weak (pi_enu hg hm hs ha) fun σ H R ⟨G, env, ds, env', sr, ev, k⟩ => ?_
  simp only [evI] at ev
  split at ev
  · cases ev
  rename_i o e1 h1
  split at ev
  · cases ev
  rename_i d hd
  obtain ⟨ds', h2, e2⟩ := Option.map_eq_some_iff.mp ev
  cases e2
  refine ⟨G, env, o, _, sr, h1, fun G1 H1 x s1 st1 r1 => ?_⟩
  obtain ⟨G2, s2, st2, _, pd, _⟩ := frz_ok s1 st1 r1 hd
  obtain ⟨l, ys, rfl, pa, q⟩ := seq_cases pd h2
  rcases q with q | q
  · exact ⟨l, rfl, .inl ⟨⟨ys, SqL.of (s2.sub _ _ q)⟩, k G2 H1 _ s2 st2 (.enuL q pa)⟩⟩
  · exact ⟨l, rfl, .inr ⟨⟨ys, sqT_sub s2.sub q⟩, k G2 H1 _ s2 st2 (.enuT q pa)⟩⟩
theorem i_zip (hg : Gl X "zip") (hm : X.mg "zip" = none) (hs : notStar a = true) (hs2 : notStar b = true) (ha : PE X a (tE F C X.K γ ia)) (hb : PE X b (tE F C X.K γ ib)) :
    PI X (.Tuple elts kk tpos) (.Call (.Name "zip" p) [a, b] [] pos) (tI F C X.K γ (.zip ia ib)) := by
  refine PI.weak (RZ.pi_zipA hg hm (pa_cons ha (pa_cons hb pa_nil (star_cons hs2)) (star_cons hs)) (star_cons hs) (plain_any (es := [b]) (by simp [noStars, hs2]))) fun σ H R ⟨G, env, ds, env', sr, ev, k⟩ => ?_
  simp only [evI] at ev
  split at ev
  · cases ev
  rename_i o e1 h1
  split at ev
  · cases ev
  rename_i d hd
  split at ev
  · cases ev
  rename_i o' e2 h2
  split at ev
  · cases ev
  rename_i d' hd'
  obtain ⟨ds', h3, e3⟩ := Option.map_eq_some_iff.mp ev
  cases e3
  refine ⟨G, env, o, e1, sr, h1, fun G1 H1 x s1 st1 r1 => ?_⟩
  obtain ⟨G2, s2, st2, _, pd, _⟩ := frz_ok s1 st1 r1 hd
  refine ⟨G2, e1, o', _, s2, h2, fun G3 H3 y s3 st3 r3 => ?_⟩
  obtain ⟨G4, s4, st4, sb, pd', _⟩ := frz_ok s3 st3 r3 hd'
  have pd4 := pd.mono st4.g
  cases d <;> cases d' <;> simp only [zipV] at h3 <;> cases h3
  · cases pd4 with
    | lst q pa =>
      cases pd' with
      | lst q' pa' => exact ⟨_, _, _, _, rfl, .inl ⟨SqL.of (s4.sub _ _ q), SqL.of (s4.sub _ _ q'), k G4 H3 _ s4 (st2.trans st4) (.zipL q pa q' pa')⟩⟩
  · cases pd4 with
    | tup q pa =>
      cases pd' with
      | tup q' pa' => exact ⟨_, _, _, _, rfl, .inr ⟨sqT_sub s4.sub q, sqT_sub s4.sub q', k G4 H3 _ s4 (st2.trans st4) (.zipT q pa q' pa')⟩⟩
theorem rng_cases {env env' : Ev} {ds : List D} {il ih : IE} (ev : evI F C (.rng il ih) env = some (ds, env')) : ∃ i j e1, evE F C il env = some (.pu (.int i), e1) ∧ evE F C ih e1 = some (.pu (.int j), env') ∧
    (-4611686018427387904 ≤ i ∧ i < 4611686018427387904 ∧ -4611686018427387904 ≤ j ∧ j < 4611686018427387904) ∧ ds = ups i (j - i).toNat := by
  simp only [evI] at ev
  split at ev
  · rename_i d e1 h1
    split at ev
    · rename_i d' e2 h2
      obtain ⟨ds', h3, e3⟩ := Option.map_eq_some_iff.mp ev
      cases e3
      obtain ⟨i, j, rfl, rfl, bd, rfl⟩ := rng_ok h3
      exact ⟨i, j, e1, h1, h2, bd, rfl⟩
    · cases ev
  · cases ev
theorem i_rg1 {tg : Expr} (hg : Gl X "range") (hm : X.mg "range" = none) (hs : notStar b = true) (hb : PE X b (tE F C X.K γ ib)) : PI X tg (.Call (.Name "range" p) [b] [] pos) (tI F C X.K γ (.rng (.cst (.int 0)) ib)) := by
  refine PI.weak (pi_range1 hg hm (pa_cons hb pa_nil (star_cons hs)) (star_cons hs)) fun σ H R ⟨G, env, ds, env', sr, ev, k⟩ => ?_
  obtain ⟨i, j, e1, h1, h2, bd, rfl⟩ := rng_cases ev
  simp only [evE] at h1
  cases h1
  refine ⟨G, env, _, env', sr, h2, fun G1 H1 x s1 st1 r1 => ⟨j, by rw [opd_int r1], by omega, by omega, k G1 H1 _ s1 st1 ?_⟩⟩
  have := ItR.rng (K := X.K) (G := G1) 0 (j - 0).toNat
  rw [Int.sub_zero] at this ⊢
  exact this
theorem i_rg2 {tg : Expr} (hg : Gl X "range") (hm : X.mg "range" = none) (hs : notStar a = true) (hs2 : notStar b = true) (ha : PE X a (tE F C X.K γ ia)) (hb : PE X b (tE F C X.K γ ib)) : PI X tg (.Call (.Name "range" p) [a, b] [] pos) (tI F C X.K γ (.rng ia ib)) := by
  refine PI.weak (pi_range2 hg hm (pa_cons ha (pa_cons hb pa_nil (star_cons hs2)) (star_cons hs)) (star_all (by simp [noStars, hs, hs2])) (star_cons hs2)) fun σ H R ⟨G, env, ds, env', sr, ev, k⟩ => ?_
  obtain ⟨i, j, e1, h1, h2, bd, rfl⟩ := rng_cases ev
  exact ⟨G, env, _, e1, sr, h1, fun G1 H1 x s1 st1 r1 => ⟨G1, e1, _, env', s1, h2, fun G2 H2 y s2 st2 r2 => ⟨i, j, by rw [opd_int r1, opd_int r2], by omega, k G2 H2 _ s2 (st1.trans st2) (.rng _ _)⟩⟩⟩
end
end Rf

set_option Elab.async false
set_option linter.all false
set_option maxRecDepth 100000
set_option maxHeartbeats 4000000
/-! Rf: targets. -/
namespace Rf
open PySem PySem.Spec PyProof.Rows L2

theorem Step.sub {O O1 O2 : Addr → Prop} {G H G1 H1 : Hp} (st : Step O G H O1 G1 H1) (h : ∀ a, O2 a → O1 a) : Step O G H O2 G1 H1 := ⟨st.g, st.h, st.n, st.f, fun a q => st.o a (h a q)⟩
theorem wipe_set (σ : L2.St) (i : Nat) (x : Option V) : ∀ {vs : List Nat}, i ∈ vs → wipe (σ.set i x) vs = wipe σ vs
  | v :: vs, h => by
    unfold wipe
    by_cases q : i = v
    · subst q
      by_cases z : i ∈ vs
      · rw [wipe_set σ i x z]
      · have key : ∀ {ws : List Nat}, i ∉ ws → wipe (σ.set i x) ws = (wipe σ ws).set i x := by
          intro ws
          induction ws with
          | nil => intro _; rfl
          | cons w ws ih =>
            intro h
            simp only [List.mem_cons, not_or] at h
            unfold wipe
            rw [ih h.2, List.set_comm _ _ h.1]
        rw [key z, List.set_set]
    · rcases List.mem_cons.mp h with h | h
      · exact absurd h q
      · rw [wipe_set σ i x h]
section
variable {K : PySem.W.Frag} {γ : Gam} {G H : Hp} {env : Ev} {σ : L2.St}
/-- a value is stored -/
theorem Sr.put (s : Sr K γ G H env σ) {i : Nat} {d : D} {v : V} (hi : i < env.length) (p : Pu K G d v) :
    Sr K γ G H (env.set i (.val d)) (σ.set i (some v)) ∧ Step (Ow env σ) G H (Ow (env.set i (.val d)) (σ.set i (some v))) G H := by
  have hs : i < σ.length := by rw [← s.len]; exact hi
  have back : ∀ {j a}, OwnAt (env.set i (.val d)) (σ.set i (some v)) j a → OwnAt env σ j a := fun {j a} ⟨⟨t, xs, e⟩, h⟩ => by
    rcases get_set e with ⟨_, q⟩ | ⟨ne, q⟩
    · cases q
    · rw [List.getElem?_set_ne (Ne.symm ne)] at h
      exact ⟨⟨t, xs, q⟩, h⟩
  refine ⟨⟨s.sub, by simpa using s.len, fun j sl e => ?_, fun j j' a h h' => s.inj j j' a (back h) (back h')⟩, ⟨Sub.refl G, fun _ _ e _ => e, fun _ _ e _ => e, fun _ e => e, fun a ⟨j, h⟩ => .inl ⟨j, back h⟩⟩⟩
  rcases get_set e with ⟨rfl, rfl⟩ | ⟨ne, q⟩
  · exact ⟨v, List.getElem?_set_self hs, p⟩
  · have w := s.slot j sl q
    rw [List.getElem?_set_ne (Ne.symm ne)]
    exact w
/-- a list of one's own is stored -/
theorem Sr.putOwn (s : Sr K γ G H env σ) {i : Nat} {xs : List D} {ys : List V} {l : Addr} (hi : i < env.length) (h1 : G l = none) (h2 : H l = some (.lst ys)) (h3 : PuA K G xs ys) (h4 : ¬ Ow env σ l) (h5 : γ.h0 l = none) :
    Sr K γ G H (env.set i (.own 0 xs)) (σ.set i (some (.ref l))) ∧ ∀ a, Ow (env.set i (.own 0 xs)) (σ.set i (some (.ref l))) a → Ow env σ a ∨ a = l := by
  have hs : i < σ.length := by rw [← s.len]; exact hi
  have back : ∀ {j a}, OwnAt (env.set i (.own 0 xs)) (σ.set i (some (.ref l))) j a → (j = i ∧ a = l) ∨ (j ≠ i ∧ OwnAt env σ j a) := fun {j a} ⟨⟨t, zs, e⟩, h⟩ => by
    rcases get_set e with ⟨e1, q⟩ | ⟨ne, q⟩
    · rw [e1, List.getElem?_set_self hs] at h
      cases h
      exact .inl ⟨e1, rfl⟩
    · rw [List.getElem?_set_ne (Ne.symm ne)] at h
      exact .inr ⟨ne, ⟨t, zs, q⟩, h⟩
  refine ⟨⟨s.sub, by simpa using s.len, fun j sl e => ?_, fun j j' a h h' => ?_⟩, fun a ⟨j, h⟩ => ?_⟩
  · rcases get_set e with ⟨rfl, rfl⟩ | ⟨ne, q⟩
    · exact ⟨l, ys, List.getElem?_set_self hs, h1, h2, h3, fun _ => h5, fun z => absurd rfl z⟩
    · have w := s.slot j sl q
      rw [List.getElem?_set_ne (Ne.symm ne)]
      exact w
  · rcases back h with ⟨e1, e2⟩ | ⟨n1, o1⟩
    · rcases back h' with ⟨e3, _⟩ | ⟨_, o2⟩
      · rw [e1, e3]
      · subst e2; exact absurd ⟨_, o2⟩ h4
    · rcases back h' with ⟨_, e4⟩ | ⟨_, o2⟩
      · subst e4; exact absurd ⟨_, o1⟩ h4
      · exact s.inj _ _ _ o1 o2
  · rcases back h with ⟨_, e⟩ | ⟨_, o⟩
    · exact .inr e
    · exact .inl ⟨j, o⟩
end
section
variable {X : Cx} {F : FT} {C : List D} {γ : Gam} {e o : Expr} {ie : IE} {es : List Expr} {it : IT} {its : ITs} {pos p : Pos}
def gT (F : FT) (C : List D) (K : PySem.W.Frag) (γ : Gam) (it : IT) : TG := fun v σ H Q => ∃ G env d env', Sr K γ G H env σ ∧ Pu K G d v ∧ asgT F C it d env = some env' ∧
  ∀ G' H' σ', Sr K γ G' H' env' σ' → Step (Ow env σ) G H (Ow env' σ') G' H' → (∀ vs, (∀ i ∈ tgS it, i ∈ vs) → wipe σ' vs = wipe σ vs) → Q σ' H'
def gTs (F : FT) (C : List D) (K : PySem.W.Frag) (γ : Gam) (its : ITs) : TGs := fun xs σ H Q => ∃ G env ds env', Sr K γ G H env σ ∧ PuA K G ds xs ∧ asgTs F C its ds env = some env' ∧
  ∀ G' H' σ', Sr K γ G' H' env' σ' → Step (Ow env σ) G H (Ow env' σ') G' H' → (∀ vs, (∀ i ∈ tgSs its, i ∈ vs) → wipe σ' vs = wipe σ vs) → Q σ' H'
theorem PG.weak {t t' : TG} (h : PG X e t) (w : ∀ v σ H Q, t' v σ H Q → t v σ H Q) : PG X e t' := ⟨fun pins s σ H v u Q I r q => h.run pins s σ H v u Q I r (w _ _ _ _ q)⟩
theorem PGs.weak {t t' : TGs} (h : PGs X es t) (w : ∀ v σ H Q, t' v σ H Q → t v σ H Q) : PGs X es t' := ⟨fun pins s σ H v u Q I r q => h.run pins s σ H v u Q I r (w _ _ _ _ q)⟩
theorem g_nm {i : Nat} {x : Str} (hN : X.N.Nodup) (hi : X.N[i]? = some x) (hx : Loc X.env.scope x) (hf : X.fn x = true ∨ X.env.scope.names.lookup x = some .local) : PG X (.Name x pos) (gT F C X.K γ (.nm i)) := by
  refine PG.weak (pg_name hN hi hx hf) fun v σ H Q ⟨G, env, d, env', sr, p, ev, k⟩ => ?_
  simp only [asgT, putv] at ev
  split at ev
  · rename_i hl
    cases ev
    obtain ⟨s1, st1⟩ := sr.put (blt_lt hl) p
    exact k G H _ s1 st1 fun vs h => wipe_set σ i _ (h i (by simp [tgS]))
  · cases ev
theorem gs_nil : PGs X [] (gTs F C X.K γ .nil) := PGs.weak pgs_nil fun xs σ H Q ⟨G, env, ds, env', sr, p, ev, k⟩ => by
  cases ds with
  | nil =>
    simp only [asgTs] at ev
    cases ev
    cases p
    exact ⟨rfl, k G H σ sr Step.refl fun _ _ => rfl⟩
  | cons d ds => simp only [asgTs] at ev; cases ev
theorem gs_cons (hs : notStar e = true) (h1 : PG X e (gT F C X.K γ it)) (h2 : PGs X es (gTs F C X.K γ its)) : PGs X (e :: es) (gTs F C X.K γ (.cons it its)) :=
  PGs.weak (pgs_cons h1 h2 (by rw [asg_cons hs]; rfl)) fun xs σ H Q ⟨G, env, ds, env', sr, p, ev, k⟩ => by
  cases ds with
  | nil => simp only [asgTs] at ev; cases ev
  | cons d ds =>
    simp only [asgTs] at ev
    split at ev
    · cases ev
    rename_i e1 hd
    cases p with
    | cons pd pr =>
      refine ⟨_, _, rfl, G, env, d, e1, sr, pd, hd, fun G1 H1 σ1 s1 st1 w1 => ?_⟩
      refine ⟨G1, e1, ds, env', s1, pr.mono st1.g, ev, fun G2 H2 σ2 s2 st2 w2 => k G2 H2 σ2 s2 (st1.trans st2) fun vs h => ?_⟩
      rw [w2 vs fun i hi => h i (by simp [tgSs, hi]), w1 vs fun i hi => h i (by simp [tgSs, hi])]
def ITs.len : ITs → Nat
  | .nil => 0
  | .cons _ r => r.len + 1
theorem asgTs_len : ∀ {its : ITs} {ds : List D} {env env' : Ev}, asgTs F C its ds env = some env' → ds.length = its.len
  | .nil, [], _, _, _ => rfl
  | .nil, _ :: _, _, _, h => by simp only [asgTs] at h; cases h
  | .cons _ _, [], _, _, h => by simp only [asgTs] at h; cases h
  | .cons t ts, d :: ds, _, _, h => by
    simp only [asgTs] at h
    split at h
    · cases h
    · simp [ITs.len, asgTs_len h]
theorem chkTs_len {pg : Pg} {c : SC} : ∀ {its : ITs} {es : List Expr}, chkTs pg c its es = true → its.len = es.length ∧ noStars es = true
  | .nil, [], _ => ⟨rfl, rfl⟩
  | .nil, _ :: _, h => by simp [chkTs] at h
  | .cons _ _, [], h => by simp [chkTs] at h
  | .cons t ts, e :: es, h => by
    simp only [chkTs] at h
    obtain ⟨h1, h2⟩ := ands h
    obtain ⟨h0, h1⟩ := ands h1
    obtain ⟨a, b⟩ := chkTs_len h2
    exact ⟨by simp [ITs.len, a], by simp [noStars, h0, b]⟩
theorem g_tp {kk : Nat} (hc : X.calm = true) (hl : its.len = es.length) (hs : noStars es = true) (h : PGs X es (gTs F C X.K γ its)) : PG X (.Tuple es kk pos) (gT F C X.K γ (.tp its)) := by
  refine PG.weak (pg_tup hc h (asg_len) (asg_nost hs)) fun v σ H Q ⟨G, env, d, env', sr, p, ev, k⟩ => ?_
  cases d <;> simp only [asgT] at ev <;> (try cases ev)
  rename_i ds
  cases p with
  | tup q pa => exact ⟨_, _, rfl, sqT_sub sr.sub q, by rw [← pa.length, asgTs_len ev, hl], G, env, ds, env', sr, pa, ev, fun G' H' σ' s st w => k G' H' σ' s st fun vs h => w vs (by simpa [tgS] using h)⟩
theorem g_sub {i : Nat} {x : Str} {ip : Pos} (hN : X.N[i]? = some x) (hv : Vis X.env.scope x) (hd : (x == ("__debug__" : Str)) = false) (hcd : (x == ("__classdict__" : Str)) = false) (hs : notSlice e = true) (he : PE X e (tE F C X.K γ ie)) :
    PG X (.Subscript (.Name x ip) e pos) (gT F C X.K γ (.sub i ie)) := by
  refine PG.weak (pg_sub (pe_var hN hv hd hcd) he set_list (asg_sub hs)) fun v σ H Q ⟨G, env, d, env', sr, p, ev, k⟩ => ?_
  simp only [asgT] at ev
  split at ev
  · rename_i t0 xs0 q0
    obtain ⟨l, _, hσ, _⟩ := sr.ow_at q0
    split at ev
    · rename_i kk e1 h1
      simp only [setAt] at ev
      split at ev
      · rename_i t xs j q
        split at ev
        · rename_i m hm
          cases ev
          refine ⟨.ref l, hσ, G, env, _, e1, sr, h1, fun G1 H1 y s1 st1 r1 => ?_⟩
          obtain ⟨l', ys, a1, a2, a3, a4, _⟩ := s1.ow_at q
          rw [hσ] at a1; cases a1
          have hj := opd_int r1
          subst hj
          obtain ⟨m1, m2⟩ := s1.mut q hσ (a4.set (p.mono st1.g) m)
          exact ⟨l, ys, j, m, rfl, rfl, a3, by rw [← a4.length]; exact hm, k _ _ σ m1 (st1.trans m2) fun _ _ => rfl⟩
        · cases ev
      · cases ev
    · cases ev
  · cases ev
end
end Rf

set_option Elab.async false
set_option linter.all false
set_option maxRecDepth 100000
set_option maxHeartbeats 4000000
/-! Rf: list comprehensions. -/
namespace Rf
open PySem PySem.Spec PyProof.Rows L2

theorem wipeE_get {env : Ev} : ∀ {is : List Nat} {j : Nat} {s : Sl}, (wipeE env is)[j]? = some s → (j ∈ is ∧ s = .emp) ∨ (j ∉ is ∧ env[j]? = some s)
  | [], _, _, h => .inr ⟨by simp, h⟩
  | i :: is, j, s, h => by
    unfold wipeE at h
    rcases get_set h with ⟨rfl, e⟩ | ⟨ne, h⟩
    · exact .inl ⟨by simp, e⟩
    · rcases wipeE_get h with ⟨a, b⟩ | ⟨a, b⟩
      · exact .inl ⟨List.mem_cons_of_mem _ a, b⟩
      · exact .inr ⟨by simp [a, ne], b⟩
theorem wipeE_len (env : Ev) : ∀ is : List Nat, (wipeE env is).length = env.length
  | [] => rfl
  | i :: is => by unfold wipeE; rw [List.length_set, wipeE_len env is]
theorem backE_get {e0 env : Ev} : ∀ {is : List Nat} {j : Nat} {s : Sl}, (backE e0 env is)[j]? = some s → (j ∈ is ∧ s = valOnly e0[j]?) ∨ (j ∉ is ∧ env[j]? = some s)
  | [], _, _, h => .inr ⟨by simp, h⟩
  | i :: is, j, s, h => by
    unfold backE at h
    rcases get_set h with ⟨rfl, e⟩ | ⟨ne, h⟩
    · exact .inl ⟨by simp, e⟩
    · rcases backE_get h with ⟨a, b⟩ | ⟨a, b⟩
      · exact .inl ⟨List.mem_cons_of_mem _ a, b⟩
      · exact .inr ⟨by simp [a, ne], b⟩
theorem backE_len (e0 env : Ev) : ∀ is : List Nat, (backE e0 env is).length = env.length
  | [] => rfl
  | i :: is => by unfold backE; rw [List.length_set, backE_len e0 env is]
theorem wipe_out {σ : L2.St} {j : Nat} : ∀ {is : List Nat}, j ∉ is → (wipe σ is)[j]? = σ[j]?
  | [], _ => rfl
  | i :: is, h => by
    simp only [List.mem_cons, not_or] at h
    unfold wipe
    rw [List.getElem?_set_ne (Ne.symm h.1), wipe_out h.2]
theorem wipe_id (σ : L2.St) (vs : List Nat) : wipe (wipe σ vs) vs = wipe σ vs := by
  apply List.ext_getElem?
  intro j
  by_cases h : j ∈ vs
  · have key : ∀ {τ : L2.St} {ws : List Nat}, j ∈ ws → (wipe τ ws)[j]? = if j < τ.length then some none else none := by
      intro τ ws
      induction ws with
      | nil => intro h; cases h
      | cons w ws ih =>
        intro h
        unfold wipe
        rw [List.getElem?_set]
        by_cases q : w = j
        · subst q; simp [wipe_length]
        · rw [if_neg q]
          rcases List.mem_cons.mp h with z | z
          · exact absurd z.symm q
          · exact ih z
    rw [key h, key h, wipe_length]
  · rw [wipe_out h]
section
variable {K : PySem.W.Frag} {γ : Gam} {G H G1 H1 : Hp} {env e1 : Ev} {σ : L2.St}
theorem ow_wipe {is : List Nat} {j : Nat} {a : Addr} (h : OwnAt (wipeE env is) (wipe σ is) j a) : OwnAt env σ j a ∧ j ∉ is := by
  obtain ⟨⟨t, xs, e⟩, h⟩ := h
  rcases wipeE_get e with ⟨_, q⟩ | ⟨n, q⟩
  · cases q
  · rw [wipe_out n] at h
    exact ⟨⟨⟨t, xs, q⟩, h⟩, n⟩
theorem Sr.wipe (s : Sr K γ G H env σ) (is : List Nat) : Sr K γ G H (wipeE env is) (wipe σ is) := by
  refine ⟨s.sub, by rw [wipeE_len, wipe_length]; exact s.len, fun j sl e => ?_, fun j j' a h h' => s.inj j j' a (ow_wipe h).1 (ow_wipe h').1⟩
  rcases wipeE_get e with ⟨_, q⟩ | ⟨n, q⟩
  · subst q; trivial
  · rw [wipe_out n]; exact s.slot j sl q
theorem Step.wipe {O : Addr → Prop} (st : Step O G H (Ow env σ) G1 H1) (is : List Nat) : Step O G H (Ow (wipeE env is) (L2.wipe σ is)) G1 H1 := st.sub fun a ⟨j, h⟩ => ⟨j, (ow_wipe h).1⟩
theorem ow_back {is : List Nat} {j : Nat} {a : Addr} (h : OwnAt (backE e1 env is) σ j a) : OwnAt env (L2.wipe σ is) j a := by
  obtain ⟨⟨t, xs, e⟩, h⟩ := h
  rcases backE_get e with ⟨_, q⟩ | ⟨n, q⟩
  · unfold valOnly at q
    split at q <;> cases q
  · exact ⟨⟨t, xs, q⟩, by rw [wipe_out n]; exact h⟩
theorem Sr.back {is : List Nat} (s1 : Sr K γ G1 H1 e1 σ) (s : Sr K γ G H env (L2.wipe σ is)) (sb : Sub G1 G) : Sr K γ G H (backE e1 env is) σ := by
  refine ⟨s.sub, by rw [backE_len, s.len, wipe_length], fun j sl e => ?_, fun j j' a h h' => s.inj j j' a (ow_back h) (ow_back h')⟩
  rcases backE_get e with ⟨_, q⟩ | ⟨n, q⟩
  · subst q
    unfold valOnly
    split
    · rename_i d hd
      obtain ⟨v, a, b⟩ := s1.slot j _ hd
      exact ⟨v, a, b.mono sb⟩
    · trivial
  · have w := s.slot j sl q
    rw [wipe_out n] at w
    exact w
/-- a list that no slot holds and nobody told is changed -/
theorem Sr.wr (s : Sr K γ G H env σ) {a : Addr} {o o' : HO} (hg : G a = none) (hn : ¬ Ow env σ a) (hf : ∀ ob u, o ≠ .frz ob u) (h : H a = some o) : Sr K γ G (upd H a o') env σ := by
  refine ⟨fun b u q => ?_, s.len, fun j sl e => ?_, s.inj⟩
  · rw [upd_ne (fun z => by subst z; rw [hg] at q; cases q)]; exact s.sub _ _ q
  · have w := s.slot j sl e
    cases sl with
    | emp => trivial
    | val d => exact w
    | own t xs =>
      obtain ⟨b, ys, e1, e2, e3, e4⟩ := w
      exact ⟨b, ys, e1, e2, by rw [upd_ne (fun z => hn (by subst z; exact ⟨j, ⟨_, _, e⟩, e1⟩))]; exact e3, e4⟩
    | scr t xs =>
      obtain ⟨b, ys, e1, e2, e3⟩ := w
      refine ⟨b, ys, e1, ?_, e3⟩
      rcases e2 with ⟨ob, e2⟩ | e2
      · exact .inl ⟨ob, by rw [upd_ne (fun z => by subst z; rw [h] at e2; cases e2; exact hf _ _ rfl)]; exact e2⟩
      · exact .inr e2
theorem Step.wr {O O1 : Addr → Prop} {Gs Hs : Hp} (st : Step O Gs Hs O1 G H) {a : Addr} {o : HO} (h : Hs a = none) : Step O Gs Hs O1 G (upd H a o) := by
  refine ⟨st.g, fun b u e n => ?_, st.n, fun b e => ?_, st.o⟩
  · rw [upd_ne (fun z => by subst z; rw [h] at e; cases e)]; exact st.h b u e n
  · by_cases q : b = a
    · subst q; rw [upd_same]; simp
    · rw [upd_ne q]; exact st.f b e
end

section
variable {X : Cx} {F : FT} {C : List D} {γ : Gam}
def tD (F : FT) (C : List D) (K : PySem.W.Frag) (γ : Gam) (io : IO) : TT := fun σ H Q => ∃ G env b env', Sr K γ G H env σ ∧ evD F C io env = some (b, env') ∧
  ∀ G' H', Sr K γ G' H' env' σ → Step (Ow env σ) G H (Ow env' σ) G' H' → Q b H'
theorem PTs.weak {ifs : List Expr} {t t' : TT} (h : PTs X ifs t) (w : ∀ σ H Q, t' σ H Q → t σ H Q) : PTs X ifs t' := ⟨fun pins s σ H Q I q => h.run pins s σ H Q I (w _ _ _ q)⟩
theorem d_non : PTs X [] (tD F C X.K γ .non) := PTs.weak pts_nil fun σ H Q ⟨G, env, b, env', sr, ev, k⟩ => by
  simp only [evD] at ev
  cases ev
  exact k G H sr Step.refl
theorem d_som {c : Expr} {ic : IE} (h : PT X c (tT F C X.K γ ic)) : PTs X [c] (tD F C X.K γ (.som ic)) := PTs.weak (pts_one h) fun σ H Q ⟨G, env, b, env', sr, ev, k⟩ => by
  simp only [evD] at ev
  split at ev
  · rename_i b' e1 h1
    cases ev
    exact ⟨G, env, _, _, sr, h1, k⟩
  · cases ev
theorem lc_red {elt : IE} {tg : IT} {it : II} {cd : IO} {own : List Nat} {σ : L2.St} {H0 : Hp} {Q : VK} (hs : ∀ i ∈ tgS tg, i ∈ own) (h : tE F C X.K γ (.lc elt tg it cd own) σ H0 Q) :
    tLc (tI F C X.K γ it) (gT F C X.K γ tg) (tD F C X.K γ cd) (tE F C X.K γ elt) own σ H0 Q := by
  obtain ⟨G0, env, o, env', sr, ev, k⟩ := h
  simp only [evE] at ev
  cases hI : evI F C it env with
  | none => rw [hI] at ev; cases ev
  | some p =>
  obtain ⟨ds, e1⟩ := p
  rw [hI] at ev
  simp only [lcV] at ev
  split at ev
  · cases ev
  rename_i tot e2 hL
  split at ev
  · rename_i hz
    have ho : o = .fr tot := by cases ev; rfl
    have he' : env' = backE e1 e2 own := by cases ev; rfl
    subst ho; subst he'
    have hz' := lenOk_le hz
    refine ⟨G0, env, ds, e1, sr, hI, fun G1 H1 J s1 st1 ir L hLn => ?_⟩
    have H0L : H0 L = none := st1.fb L hLn
    refine ⟨fun i m H => m = ds.length - i ∧ i ≤ ds.length ∧ ∃ Gc ec acc aD xs', Sr X.K γ Gc H ec (wipe σ own) ∧ Step (Ow env σ) G0 H0 (Ow ec (wipe σ own)) Gc H ∧ Sub G1 Gc ∧ Gc L = none ∧ H L = some (.lst acc) ∧ PuA X.K Gc aD acc ∧ ¬ Ow ec (wipe σ own) L ∧
      lcLoop (fun d e => asgT F C tg d e) (fun e => evD F C cd e) (fun e => frzE (evE F C elt e)) own (ds.drop i) ec = some (xs', e2) ∧ tot = aD ++ xs', ⟨ds.length, by simp, Nat.zero_le _, G1, wipeE e1 own, [], [], tot, ?_, ?_, Sub.refl _, none_of s1.sub hLn, upd_same, .nil, ?_, hL, rfl⟩, ?_⟩
    · exact (s1.wipe own).newH hLn
    · exact (st1.trans (Step.newH hLn)).wipe own
    · exact no_ow (s1.wipe own) hLn
    rintro i m H ⟨rfl, hi, Gc, ec, acc, aD, xs', sc, stc, sb, gL, hLc, pa, nL, hl, htot⟩
    by_cases hlt : i < ds.length
    · refine .inr ⟨ir.go i H (sb.trans sc.sub) hlt, fun H' => (ds.length - (i + 1)) = ds.length - (i + 1) ∧ i + 1 ≤ ds.length ∧ ∃ Gc ec acc aD xs', Sr X.K γ Gc H' ec (wipe σ own) ∧ Step (Ow env σ) G0 H0 (Ow ec (wipe σ own)) Gc H' ∧ Sub G1 Gc ∧ Gc L = none ∧ H' L = some (.lst acc) ∧ PuA X.K Gc aD acc ∧ ¬ Ow ec (wipe σ own) L ∧
        lcLoop (fun d e => asgT F C tg d e) (fun e => evD F C cd e) (fun e => frzE (evE F C elt e)) own (ds.drop (i + 1)) ec = some (xs', e2) ∧ tot = aD ++ xs', fun H' q => ⟨ds.length - (i + 1), by omega, q⟩, fun x H2 hy => ?_⟩
      obtain ⟨G2, ex2, px⟩ := ir.yld i H x H2 Gc sb sc.sub hy ds[i] (List.getElem?_eq_getElem hlt)
      have s2 := sc.ext ex2
      have st2 : Step (Ow ec (wipe σ own)) Gc H (Ow ec (wipe σ own)) G2 H2 := Step.ext ex2
      rw [List.drop_eq_getElem_cons hlt] at hl
      simp only [lcLoop] at hl
      split at hl
      · cases hl
      rename_i e3 h3
      refine ⟨G2, ec, ds[i], e3, s2, px, h3, fun G3 H3 σ3 s3 st3 w3 => ?_⟩
      have hw : wipe σ3 own = wipe σ own := by rw [w3 own hs, wipe_id]
      refine ⟨hw, ?_⟩
      split at hl
      · cases hl
      · rename_i e4 h4
        refine ⟨G3, e3, false, e4, s3, h4, fun G4 H4 s4 st4 => ?_⟩
        have stt := (st2.trans st3).trans st4
        have hn : H L ≠ none := by rw [hLc]; simp
        dsimp only
        rw [if_neg Bool.false_ne_true]
        refine ⟨rfl, hlt, G4, wipeE e4 own, acc, aD, xs', by rw [← hw]; exact s4.wipe own, by rw [← hw]; exact (stc.trans stt).wipe own, sb.trans stt.g, stt.n L hn gL nL, stt.h L _ hLc nL, pa.mono stt.g, ?_, hl, htot⟩
        rw [← hw]
        exact fun ⟨j, z⟩ => (stt.o L ⟨j, (ow_wipe z).1⟩).elim nL hn
      · rename_i e4 h4
        refine ⟨G3, e3, true, e4, s3, h4, fun G4 H4 s4 st4 => ?_⟩
        dsimp only
        rw [if_pos rfl]
        split at hl
        · cases hl
        rename_i y e5 h5
        split at hl
        · cases hl
        rename_i xs'' e6 h6
        cases hl
        -- the element
        cases hE : evE F C elt e4 with
        | none => rw [hE] at h5; cases h5
        | some q =>
        obtain ⟨oy, e5'⟩ := q
        rw [hE] at h5
        simp only [frzE] at h5
        split at h5
        · rename_i d5 hd5
          have ey : d5 = y := by cases h5; rfl
          have ee : e5' = e5 := by cases h5; rfl
          subst ey
          subst ee
          refine ⟨G4, e4, oy, _, s4, hE, fun G5 H5 yv s5 st5 r5 => ?_⟩
          obtain ⟨G6, s6, st6, _, py, _⟩ := frz_ok s5 st5 r5 hd5
          have stt := ((st2.trans st3).trans st4).trans st6
          have hn : H L ≠ none := by rw [hLc]; simp
          have gL6 := stt.n L hn gL nL
          have hL6 := stt.h L _ hLc nL
          have nL6 : ¬ Ow e5' σ3 L := fun z => (stt.o L z).elim nL hn
          refine ⟨acc, hL6, ?_, rfl, hlt, G6, wipeE e5' own, acc ++ [yv], aD ++ [d5], xs'', ?_, ?_, sb.trans stt.g, gL6, upd_same, (pa.mono stt.g).append (.cons py .nil), ?_, h6, by rw [htot, List.append_assoc]; rfl⟩
          · have := pa.length
            rw [htot, List.length_append, List.length_cons] at hz'
            omega
          · rw [← hw]; exact (s6.wr (o := .lst acc) gL6 nL6 (by intro _ _ z; cases z) hL6).wipe own
          · rw [← hw]; exact ((stc.trans stt).wr H0L).wipe own
          · rw [← hw]
            exact fun ⟨j, z⟩ => nL6 ⟨j, (ow_wipe z).1⟩
        · cases h5
    · have ei : i = ds.length := by omega
      subst ei
      rw [List.drop_length] at hl
      simp only [lcLoop] at hl
      cases hl
      rw [List.append_nil] at htot
      subst htot
      refine .inl ⟨ir.stop H (sb.trans sc.sub), k Gc H _ (s1.back sc sb) (stc.sub fun a ⟨j, z⟩ => ⟨j, ow_back z⟩) ⟨L, acc, rfl, gL, hLc, pa, fun ⟨j, z⟩ => nL ⟨j, ow_back z⟩, H0L⟩⟩
  · cases ev
end
end Rf

set_option Elab.async false
set_option linter.all false
set_option maxRecDepth 100000
set_option maxHeartbeats 4000000
/-! Rf: statements. -/
namespace Rf
open PySem PySem.Spec PyProof.Rows L2

def FlK (K : PySem.W.Frag) (γ : Gam) (G H : Hp) (env : Ev) (σ : L2.St) (D : Ends) : Fl → Prop
  | .nx e' => ∀ G' H' σ', Sr K γ G' H' e' σ' → Step (Ow env σ) G H (Ow e' σ') G' H' → D.nx σ' H'
  | .bk e' => ∀ G' H' σ', Sr K γ G' H' e' σ' → Step (Ow env σ) G H (Ow e' σ') G' H' → D.bk σ' H'
  | .ct e' => ∀ G' H' σ', Sr K γ G' H' e' σ' → Step (Ow env σ) G H (Ow e' σ') G' H' → D.ct σ' H'
  | .rt o e' => ∀ G' H' σ' x, Sr K γ G' H' e' σ' → Step (Ow env σ) G H (Ow e' σ') G' H' → OpdR K G' H' e' σ' H x o → D.rt x H'
def tS (F : FT) (C : List D) (K : PySem.W.Frag) (γ : Gam) (is : IS) : TS := fun D σ H => ∃ G env fl, (∀ a, H a = none → γ.h0 a = none) ∧ Sr K γ G H env σ ∧ evS F C is env = some fl ∧ FlK K γ G H env σ D fl
def tSs (F : FT) (C : List D) (K : PySem.W.Frag) (γ : Gam) (is : ISs) : TS := fun D σ H => ∃ G env fl, (∀ a, H a = none → γ.h0 a = none) ∧ Sr K γ G H env σ ∧ evSs F C is env = some fl ∧ FlK K γ G H env σ D fl
section
variable {K : PySem.W.Frag} {γ : Gam} {G H G1 H1 : Hp} {env env1 : Ev} {σ σ1 : L2.St} {D D' : Ends} {fl : Fl}
theorem OpdR.start' {K : PySem.W.Frag} {G H Hs Hs' : Hp} {env : Ev} {σ : L2.St} {x : V} {o : Opd} (r : OpdR K G H env σ Hs x o) (h : ∀ a, Hs a = none → Hs' a = none) : OpdR K G H env σ Hs' x o := r.start h
theorem FlK.later (k : FlK K γ G H env σ D fl) (st : Step (Ow env σ) G H (Ow env1 σ1) G1 H1) : FlK K γ G1 H1 env1 σ1 D fl := by
  cases fl with
  | nx e => exact fun G' H' σ' s st' => k G' H' σ' s (st.trans st')
  | bk e => exact fun G' H' σ' s st' => k G' H' σ' s (st.trans st')
  | ct e => exact fun G' H' σ' s st' => k G' H' σ' s (st.trans st')
  | rt o e => exact fun G' H' σ' x s st' r => k G' H' σ' x s (st.trans st') (r.start st.fb)
end
theorem PS.weak {X : Cx} {e : Stmt} {t t' : TS} (h : PS X e t) (w : ∀ D σ H, t' D σ H → t D σ H) : PS X e t' := ⟨fun pins s σ H D I q => h.run pins s σ H D I (w _ _ _ q)⟩
theorem PSs.weak {X : Cx} {e : List Stmt} {t t' : TS} (h : PSs X e t) (w : ∀ D σ H, t' D σ H → t D σ H) : PSs X e t' := ⟨fun pins s σ H D I q => h.run pins s σ H D I (w _ _ _ q)⟩

section
variable {X : Cx} {F : FT} {C : List D} {γ : Gam} {e tg iter : Expr} {ie ia ib ic : IE} {it : IT} {ii : II} {is : IS} {iss ia' ib' : ISs} {st : Stmt} {sts a b : List Stmt} {pos p : Pos}
theorem s_nil : PSs X [] (tSs F C X.K γ .nil) := PSs.weak pss_nil fun D σ H ⟨G, env, fl, h0, sr, ev, k⟩ => by
  simp only [evSs] at ev
  cases ev
  exact k G H σ sr Step.refl
theorem s_cons (h1 : PS X st (tS F C X.K γ is)) (h2 : PSs X sts (tSs F C X.K γ iss)) : PSs X (st :: sts) (tSs F C X.K γ (.cons is iss)) :=
  PSs.weak (pss_cons h1 h2) fun D σ H ⟨G, env, fl, h0, sr, ev, k⟩ => by
  simp only [evSs] at ev
  split at ev
  · rename_i e1 q
    exact ⟨G, env, .nx e1, h0, sr, q, fun G1 H1 σ1 s1 st1 => ⟨G1, e1, fl, fun a h => h0 a (st1.fb a h), s1, ev, k.later st1⟩⟩
  · rename_i q
    refine ⟨G, env, fl, h0, sr, ev, ?_⟩
    cases fl with
    | nx e1 => exact (q e1 ev).elim
    | bk e1 => exact k
    | ct e1 => exact k
    | rt o e1 => exact k
theorem s_pass : PS X (.Pass pos) (tS F C X.K γ .pass) := PS.weak ps_pass fun D σ H ⟨G, env, fl, h0, sr, ev, k⟩ => by
  simp only [evS] at ev
  cases ev
  exact k G H σ sr Step.refl
theorem s_doc {x j p'} : PS X (.Expr (.Constant (.str x) j p) p') (tS F C X.K γ .pass) := PS.weak ps_doc fun D σ H ⟨G, env, fl, h0, sr, ev, k⟩ => by
  simp only [evS] at ev
  cases ev
  exact k G H σ sr Step.refl
theorem s_brk : PS X (.Break pos) (tS F C X.K γ .brk) := PS.weak ps_break fun D σ H ⟨G, env, fl, h0, sr, ev, k⟩ => by
  simp only [evS] at ev
  cases ev
  exact k G H σ sr Step.refl
theorem s_cnt : PS X (.Continue pos) (tS F C X.K γ .cnt) := PS.weak ps_continue fun D σ H ⟨G, env, fl, h0, sr, ev, k⟩ => by
  simp only [evS] at ev
  cases ev
  exact k G H σ sr Step.refl
theorem s_nev : PS X st (tS F C X.K γ .nev) := PS.weak ps_never fun D σ H ⟨G, env, fl, h0, sr, ev, k⟩ => by
  simp only [evS] at ev
  cases ev
theorem s_ex (hs : swapsWith e none pos.line X.env = pure false) (he : PE X e (tE F C X.K γ ie)) : PS X (.Expr e pos) (tS F C X.K γ (.ex ie)) := PS.weak (ps_expr he hs) fun D σ H ⟨G, env, fl, h0, sr, ev, k⟩ => by
  simp only [evS] at ev
  split at ev
  · cases ev
  · rename_i o e1 h1
    cases ev
    exact ⟨G, env, o, e1, sr, h1, fun G1 H1 x s1 st1 r1 => k G1 H1 σ s1 st1⟩
theorem s_ret (he : PE X e (tE F C X.K γ ie)) : PS X (.Return (some e) pos) (tS F C X.K γ (.ret ie)) := PS.weak (ps_ret he) fun D σ H ⟨G, env, fl, h0, sr, ev, k⟩ => by
  simp only [evS] at ev
  split at ev
  · cases ev
  · rename_i o e1 h1
    cases ev
    exact ⟨G, env, o, e1, sr, h1, fun G1 H1 x s1 st1 r1 => k G1 H1 σ x s1 st1 r1⟩
theorem s_retN : PS X (.Return none pos) (tS F C X.K γ (.ret (.cst .none))) := PS.weak ps_retN fun D σ H ⟨G, env, fl, h0, sr, ev, k⟩ => by
  simp only [evS, evE] at ev
  cases ev
  exact k G H σ _ sr Step.refl .non
theorem s_if {c : Expr} (hc : PT X c (tT F C X.K γ ic)) (ha : PSs X a (tSs F C X.K γ ia')) (hb : PSs X b (tSs F C X.K γ ib')) : PS X (.If c a b pos) (tS F C X.K γ (.ite ic ia' ib')) :=
  PS.weak (ps_if hc ha hb) fun D σ H ⟨G, env, fl, h0, sr, ev, k⟩ => by
  simp only [evS] at ev
  split at ev
  · rename_i e1 h1
    refine ⟨G, env, true, e1, sr, h1, fun G1 H1 s1 st1 => ?_⟩
    show (if true = true then tSs F C X.K γ ia' D σ H1 else _)
    rw [if_pos rfl]
    exact ⟨G1, e1, fl, fun a h => h0 a (st1.fb a h), s1, ev, k.later st1⟩
  · rename_i e1 h1
    exact ⟨G, env, false, e1, sr, h1, fun G1 H1 s1 st1 => ⟨G1, e1, fl, fun a h => h0 a (st1.fb a h), s1, ev, k.later st1⟩⟩
  · cases ev
/-- a store, from the value's and the target's readings -/
theorem asg_red {σ : L2.St} {H : Hp} {D : Ends} (h : tS F C X.K γ (.asg it ie) D σ H) : tAsg (tE F C X.K γ ie) (gT F C X.K γ it) D σ H := by
  obtain ⟨G, env, fl, h0, sr, ev, k⟩ := h
  simp only [evS] at ev
  split at ev
  · cases ev
  rename_i o e1 h1
  split at ev
  · cases ev
  rename_i d hd
  obtain ⟨e2, h2, e⟩ := Option.map_eq_some_iff.mp ev
  cases e
  refine ⟨G, env, o, e1, sr, h1, fun G1 H1 x s1 st1 r1 => ?_⟩
  obtain ⟨G2, s2, st2, _, pd, _⟩ := frz_ok s1 st1 r1 hd
  exact ⟨G2, e1, d, e2, s2, pd, h2, fun G' H' σ' s st _ => k G' H' σ' s (st2.trans st)⟩
theorem s_asg (hs : swapsWithSole [tg] e pos.line X.env = pure false) (hw : swappedStores [tg] e X.env = pure none) (hst : notStar tg = true) (he : PE X e (tE F C X.K γ ie)) (hg : PG X tg (gT F C X.K γ it)) : PS X (.Assign [tg] e pos) (tS F C X.K γ (.asg it ie)) :=
  PS.weak (ps_asg he hg hs hw (by rw [asg_cons hst]; rfl)) fun D σ H h => asg_red h
/-- a name's store -/
theorem nm_red {i : Nat} {σ : L2.St} {H : Hp} {D : Ends} (h : tS F C X.K γ (.asg (.nm i) ie) D σ H) : tAsg (tE F C X.K γ ie) (gName i) D σ H := by
  obtain ⟨G, env, fl, h0, sr, ev, k⟩ := h
  simp only [evS] at ev
  split at ev
  · cases ev
  rename_i o e1 h1
  split at ev
  · cases ev
  rename_i d hd
  obtain ⟨e2, h2, e⟩ := Option.map_eq_some_iff.mp ev
  cases e
  refine ⟨G, env, o, e1, sr, h1, fun G1 H1 x s1 st1 r1 => ?_⟩
  obtain ⟨G2, s2, st2, _, pd, _⟩ := frz_ok s1 st1 r1 hd
  simp only [asgT, putv] at h2
  split at h2
  · rename_i hl
    cases h2
    obtain ⟨s3, st3⟩ := s2.put (blt_lt hl) pd
    exact k G2 H1 _ s3 (st2.trans st3)
  · cases h2
/-- a list of one's own -/
theorem own_red {i : Nat} {σ : L2.St} {H : Hp} {D : Ends} (h : tS F C X.K γ (.own i ie) D σ H) : tAsg (tE F C X.K γ ie) (gName i) D σ H := by
  obtain ⟨G, env, fl, h0, sr, ev, k⟩ := h
  simp only [evS] at ev
  split at ev
  · rename_i xs e1 h1
    obtain ⟨e2, h2, e⟩ := Option.map_eq_some_iff.mp ev
    cases e
    simp only [putv] at h2
    split at h2
    · rename_i hl
      cases h2
      refine ⟨G, env, _, e1, sr, h1, fun G1 H1 x s1 st1 r1 => ?_⟩
      obtain ⟨l, ys, rfl, q1, q2, q3, q4, q5⟩ := r1
      obtain ⟨s2, o2⟩ := s1.putOwn (blt_lt hl) q1 q2 q3 q4 (h0 l q5)
      refine k G1 H1 _ s2 ⟨st1.g, st1.h, st1.n, st1.f, fun a ha => ?_⟩
      rcases o2 a ha with z | z
      · exact st1.o a z
      · subst z; exact .inr q5
    · cases h2
  · cases ev

/-! ### loops -/
theorem s_for (hp : PassesOwn (model X.prog X.w) X.A X.env X.xe) (hc : X.calm = true) (hns : notSet iter = true) (hi : PI X tg iter (tI F C X.K γ ii)) (hg : PG X tg (gT F C X.K γ it)) (hb : PSs X b (tSs F C X.K γ iss)) :
    PS X (.For tg iter b [] pos) (tS F C X.K γ (.fo it ii iss)) :=
  PS.weak (ps_for hp hc hi hg hb (fold_no hns)) fun D σ H ⟨G, env, fl, h0, sr, ev, k⟩ => by
  simp only [evS] at ev
  split at ev
  · split at ev
    · cases ev
    rename_i ds e1 hI
    refine ⟨G, env, ds, e1, sr, hI, fun G1 H1 J s1 st1 ir => ?_⟩
    refine ⟨fun i m σc Hc => m = ds.length - i ∧ i ≤ ds.length ∧ ∃ Gc ec, Sr X.K γ Gc Hc ec σc ∧ Step (Ow env σ) G H (Ow ec σc) Gc Hc ∧ Sub G1 Gc ∧ foLoop (fun d e => asgT F C it d e) (fun e => evSs F C iss e) (ds.drop i) ec = some fl,
      ⟨ds.length, by simp, Nat.zero_le _, G1, e1, s1, st1, Sub.refl _, ev⟩, ?_⟩
    rintro i m σc Hc ⟨rfl, hi, Gc, ec, sc, stc, sb, hl⟩
    by_cases hlt : i < ds.length
    · refine .inr ⟨ir.go i Hc (sb.trans sc.sub) hlt, fun σ' H' => i + 1 ≤ ds.length ∧ ∃ Gc ec, Sr X.K γ Gc H' ec σ' ∧ Step (Ow env σ) G H (Ow ec σ') Gc H' ∧ Sub G1 Gc ∧ foLoop (fun d e => asgT F C it d e) (fun e => evSs F C iss e) (ds.drop (i + 1)) ec = some fl,
        fun σ' H' q => ⟨ds.length - (i + 1), by omega, rfl, q⟩, fun x H2 hy => ?_⟩
      obtain ⟨G2, ex2, px⟩ := ir.yld i Hc x H2 Gc sb sc.sub hy ds[i] (List.getElem?_eq_getElem hlt)
      have s2 := sc.ext ex2
      have st2 : Step (Ow ec σc) Gc Hc (Ow ec σc) G2 H2 := Step.ext ex2
      rw [List.drop_eq_getElem_cons hlt] at hl
      simp only [foLoop] at hl
      split at hl
      · cases hl
      rename_i e3 h3
      refine ⟨G2, ec, ds[i], e3, s2, px, h3, fun G3 H3 σ3 s3 st3 _ => ?_⟩
      have stt := (stc.trans st2).trans st3
      have hH : ∀ a, H3 a = none → γ.h0 a = none := fun a h => h0 a (stt.fb a h)
      split at hl
      · rename_i e4 h4
        exact ⟨G3, e3, .nx e4, hH, s3, h4, fun G4 H4 σ4 s4 st4 => ⟨hlt, G4, e4, s4, stt.trans st4, ((sb.trans st2.g).trans st3.g).trans st4.g, hl⟩⟩
      · rename_i e4 h4
        exact ⟨G3, e3, .ct e4, hH, s3, h4, fun G4 H4 σ4 s4 st4 => ⟨hlt, G4, e4, s4, stt.trans st4, ((sb.trans st2.g).trans st3.g).trans st4.g, hl⟩⟩
      · rename_i e4 h4
        cases hl
        exact ⟨G3, e3, .bk e4, hH, s3, h4, fun G4 H4 σ4 s4 st4 => k G4 H4 σ4 s4 (stt.trans st4)⟩
      · rename_i o e4 h4
        cases hl
        exact ⟨G3, e3, .rt o e4, hH, s3, h4, fun G4 H4 σ4 x4 s4 st4 r4 => k G4 H4 σ4 x4 s4 (stt.trans st4) (r4.start stt.fb)⟩
      · cases hl
    · have ei : i = ds.length := by omega
      subst ei
      rw [List.drop_length] at hl
      simp only [foLoop] at hl
      cases hl
      exact .inl ⟨ir.stop Hc (sb.trans sc.sub), k Gc Hc σc sc stc⟩
  · cases ev
theorem wh_test {env : Ev} {c : IE} {b : Bool} {e1 : Ev} (h : (match evE F C c env with
      | some (.pu (.bool k), e1) => some (k, e1)
      | _ => none) = some (b, e1)) : evE F C c env = some (.pu (.bool b), e1) := by
  split at h
  · rename_i k e q
    cases h
    exact q
  · cases h
theorem s_wh {c : Expr} (hp : PassesOwn (model X.prog X.w) X.A X.env X.xe) (hc : PT X c (tT F C X.K γ ic)) (hb : PSs X b (tSs F C X.K γ iss)) : PS X (.While c b [] pos) (tS F C X.K γ (.wh ic iss)) :=
  PS.weak (ps_while hp hc hb) fun D σ H ⟨G, env, fl, h0, sr, ev, k⟩ => by
  simp only [evS] at ev
  generalize (1000000 : Nat) = fuel at ev
  refine ⟨fun m σc Hc => ∃ Gc ec, Sr X.K γ Gc Hc ec σc ∧ Step (Ow env σ) G H (Ow ec σc) Gc Hc ∧ whLoop (fun e => match evE F C ic e with
      | some (.pu (.bool k), e1) => some (k, e1)
      | _ => none) (fun e => evSs F C iss e) m ec = some fl, ⟨fuel, G, env, sr, Step.refl, ev⟩, ?_⟩
  rintro m σc Hc ⟨Gc, ec, sc, stc, hl⟩
  cases m with
  | zero => simp only [whLoop] at hl; cases hl
  | succ m =>
    unfold whLoop at hl
    split at hl
    · cases hl
    · rename_i e1 h1
      cases hl
      exact ⟨Gc, ec, false, e1, sc, wh_test h1, fun G1 H1 s1 st1 => k G1 H1 σc s1 (stc.trans st1)⟩
    · rename_i e1 h1
      refine ⟨Gc, ec, true, e1, sc, wh_test h1, fun G1 H1 s1 st1 => ?_⟩
      dsimp only
      rw [if_pos rfl]
      have stt := stc.trans st1
      have hH : ∀ a, H1 a = none → γ.h0 a = none := fun a h => h0 a (stt.fb a h)
      refine ⟨fun σ' H' => ∃ Gc ec, Sr X.K γ Gc H' ec σ' ∧ Step (Ow env σ) G H (Ow ec σ') Gc H' ∧ whLoop (fun e => match evE F C ic e with
        | some (.pu (.bool k), e1) => some (k, e1)
        | _ => none) (fun e => evSs F C iss e) m ec = some fl, fun σ' H' q => ⟨m, Nat.lt_succ_self m, q⟩, ?_⟩
      split at hl
      · rename_i e4 h4
        exact ⟨G1, e1, .nx e4, hH, s1, h4, fun G4 H4 σ4 s4 st4 => ⟨G4, e4, s4, stt.trans st4, hl⟩⟩
      · rename_i e4 h4
        exact ⟨G1, e1, .ct e4, hH, s1, h4, fun G4 H4 σ4 s4 st4 => ⟨G4, e4, s4, stt.trans st4, hl⟩⟩
      · rename_i e4 h4
        cases hl
        exact ⟨G1, e1, .bk e4, hH, s1, h4, fun G4 H4 σ4 s4 st4 => k G4 H4 σ4 s4 (stt.trans st4)⟩
      · rename_i o e4 h4
        cases hl
        exact ⟨G1, e1, .rt o e4, hH, s1, h4, fun G4 H4 σ4 x4 s4 st4 r4 => k G4 H4 σ4 x4 s4 (stt.trans st4) (r4.start stt.fb)⟩
      · cases hl
end
end Rf

set_option Elab.async false
set_option linter.all false
set_option maxRecDepth 100000
set_option maxHeartbeats 4000000
/-! Rf: several names stored at once. -/
namespace Rf
open PySem PySem.Spec PyProof.Rows L2

def frAt (o : Opd) (x : V) (c : Addr) : Prop := ∃ xs, o = .fr xs ∧ x = .ref c
section
variable {K : PySem.W.Frag} {γ : Gam} {G H G0 H0 : Hp} {env env0 env' : Ev} {σ σ0 : L2.St} {o o' : Opd} {x y : V}
theorem slot_ok {u : Bool} {sl : Sl} {i : Nat} (s : Sr K γ G H env σ) (st : Step (Ow env0 σ0) G0 H0 (Ow env σ) G H) (r : OpdR K G H env σ H0 x o) (e : slotOf u o = some sl) (p : putv env i sl = some env') (h0 : ∀ a, H0 a = none → γ.h0 a = none) :
    ∃ G', Sr K γ G' H env' (σ.set i (some x)) ∧ Step (Ow env0 σ0) G0 H0 (Ow env' (σ.set i (some x))) G' H ∧ Sub G G' ∧ (∀ c, G c = none → ¬ frAt o x c → G' c = none) ∧ ∀ c, ¬ Ow env σ c → ¬ frAt o x c → ¬ Ow env' (σ.set i (some x)) c := by
  simp only [putv] at p
  split at p
  · rename_i hl
    cases p
    have hl' := blt_lt hl
    cases o with
    | bo i => cases e
    | fo xs => cases e
    | pu d =>
      cases u with
      | true => cases e
      | false =>
        simp only [slotOf] at e
        cases e
        obtain ⟨s1, st1⟩ := s.put hl' r
        refine ⟨G, s1, st.trans st1, Sub.refl G, fun c h _ => h, fun c h _ z => ?_⟩
        obtain ⟨j, ⟨⟨t, zs, q⟩, w⟩⟩ := z
        rcases get_set q with ⟨_, q⟩ | ⟨ne, q⟩
        · cases q
        · rw [List.getElem?_set_ne (Ne.symm ne)] at w
          exact h ⟨j, ⟨t, zs, q⟩, w⟩
    | fr xs =>
      cases u with
      | true =>
        simp only [slotOf] at e
        cases e
        obtain ⟨l, ys, rfl, q1, q2, q3, q4, q5⟩ := r
        obtain ⟨s2, o2⟩ := s.putOwn hl' q1 q2 q3 q4 (h0 l q5)
        refine ⟨G, s2, ⟨st.g, st.h, st.n, st.f, fun a ha => ?_⟩, Sub.refl G, fun c h _ => h, fun c h n z => ?_⟩
        · rcases o2 a ha with z | z
          · exact st.o a z
          · subst z; exact .inr q5
        · rcases o2 c z with w | w
          · exact h w
          · subst w; exact n ⟨xs, rfl, rfl⟩
      | false =>
        simp only [slotOf] at e
        cases e
        obtain ⟨G1, s1, st1, sb, pd, ot⟩ := frz_ok (d := .list xs) s st r rfl
        obtain ⟨s2, st2⟩ := s1.put hl' pd
        refine ⟨G1, s2, st1.trans st2, sb, fun c h n => ?_, fun c h n z => ?_⟩
        · obtain ⟨l, ys, rfl, q1, q2, q3, q4, q5⟩ := r
          cases hc : H c with
          | none => exact none_of s1.sub hc
          | some ob =>
            rcases ot c (by rw [hc]; simp) with w | w
            · rw [w]; exact h
            · exact absurd ⟨xs, rfl, w⟩ n
        · obtain ⟨j, ⟨⟨t, zs, q⟩, w⟩⟩ := z
          rcases get_set q with ⟨_, q⟩ | ⟨ne, q⟩
          · cases q
          · rw [List.getElem?_set_ne (Ne.symm ne)] at w
            exact h ⟨j, ⟨t, zs, q⟩, w⟩
  · cases p
/-- another operand, behind such a store -/
theorem OpdR.kept {G' : Hp} {σ' : L2.St} {Hs : Hp} {u : Bool} {sl : Sl} (r : OpdR K G H env σ Hs y o') (e : slotOf u o' = some sl) (sb : Sub G G') (h1 : ∀ c, G c = none → ¬ frAt o x c → G' c = none) (h2 : ∀ c, ¬ Ow env σ c → ¬ frAt o x c → ¬ Ow env' σ' c) (ap : ∀ c, frAt o' y c → ¬ frAt o x c) :
    OpdR K G' H env' σ' Hs y o' := by
  cases o' with
  | bo i => cases e
  | fo xs => cases e
  | pu d => exact Pu.mono sb r
  | fr xs =>
    obtain ⟨l, ys, rfl, q1, q2, q3, q4, q5⟩ := r
    have n := ap l ⟨xs, rfl, rfl⟩
    exact ⟨l, ys, rfl, h1 l q1 n, q2, q3.mono sb, h2 l q4 n, q5⟩
theorem apart {G1 H1 G2 H2 : Hp} {e1 e2 : Ev} (r1 : OpdR K G1 H1 e1 σ H0 x o) (r2 : OpdR K G2 H2 e2 σ H1 y o') : ∀ c, frAt o' y c → ¬ frAt o x c := fun c ⟨xs, e, q⟩ ⟨zs, e', q'⟩ => by
  subst e; subst e'; subst q; subst q'
  obtain ⟨l, ys, w1, _, w2, _⟩ := r1
  obtain ⟨l', ys', w3, _, _, _, _, w4⟩ := r2
  cases w1; cases w3
  rw [w2] at w4; cases w4
end

section
variable {X : Cx} {F : FT} {C : List D} {γ : Gam} {a b c : Expr} {ia ib ic : IE} {pos : Pos} {i j l : Nat} {u v w : Bool}
/-- the stores of two values, whichever way they go -/
theorem par2_run {σ : L2.St} {H : Hp} {D : Ends} (h : tS F C X.K γ (.par2 i j u v ia ib) D σ H) {P : List V → Hp → Prop} (hP : ∀ H1 x y, D.nx ((σ.set i (some x)).set j (some y)) H1 → (∀ p o, H1 p = none → D.nx ((σ.set i (some x)).set j (some y)) (upd H1 p o)) → P [x, y] H1) : tCons (tE F C X.K γ ia) (tCons (tE F C X.K γ ib) tNil) σ H P := by
  obtain ⟨G, env, fl, h0, sr, ev, k⟩ := h
  simp only [evS] at ev
  split at ev
  · cases ev
  rename_i ox e1 h1
  split at ev
  · cases ev
  rename_i sx hx
  split at ev
  · cases ev
  rename_i oy e2 h2
  split at ev
  · cases ev
  rename_i sy hy
  split at ev
  · cases ev
  rename_i e3 p1
  obtain ⟨e4, p2, e⟩ := Option.map_eq_some_iff.mp ev
  cases e
  refine ⟨G, env, ox, e1, sr, h1, fun G1 H1 x s1 st1 r1 => ⟨G1, e1, oy, e2, s1, h2, fun G2 H2 y s2 st2 r2 => ?_⟩⟩
  have stt := st1.trans st2
  obtain ⟨G3, s3, st3, sb3, g3, o3⟩ := slot_ok s2 stt (r1.later st2) hx p1 h0
  have r3 := OpdR.kept (env' := e3) (σ' := σ.set i (some x)) (r2.start st1.fb) hy sb3 g3 o3 (apart r1 r2)
  obtain ⟨G4, s4, st4, _⟩ := slot_ok s3 st3 r3 hy p2 h0
  exact hP H2 x y (k G4 H2 _ s4 st4) fun p o hp => k G4 _ _ (s4.newH hp) (st4.trans (Step.newH hp))
theorem par3_run {σ : L2.St} {H : Hp} {D : Ends} (h : tS F C X.K γ (.par3 i j l u v w ia ib ic) D σ H) {P : List V → Hp → Prop} (hP : ∀ H1 x y z, D.nx (((σ.set i (some x)).set j (some y)).set l (some z)) H1 → (∀ p o, H1 p = none → D.nx (((σ.set i (some x)).set j (some y)).set l (some z)) (upd H1 p o)) → P [x, y, z] H1) : tCons (tE F C X.K γ ia) (tCons (tE F C X.K γ ib) (tCons (tE F C X.K γ ic) tNil)) σ H P := by
  obtain ⟨G, env, fl, h0, sr, ev, k⟩ := h
  simp only [evS] at ev
  split at ev
  · cases ev
  rename_i ox e1 h1
  split at ev
  · cases ev
  rename_i sx hx
  split at ev
  · cases ev
  rename_i oy e2 h2
  split at ev
  · cases ev
  rename_i sy hy
  split at ev
  · cases ev
  rename_i oz e3 h3
  split at ev
  · cases ev
  rename_i sz hz
  split at ev
  · cases ev
  rename_i e4 p1
  split at ev
  · cases ev
  rename_i e5 p2
  obtain ⟨e6, p3, e⟩ := Option.map_eq_some_iff.mp ev
  cases e
  refine ⟨G, env, ox, e1, sr, h1, fun G1 H1 x s1 st1 r1 => ⟨G1, e1, oy, e2, s1, h2, fun G2 H2 y s2 st2 r2 => ⟨G2, e2, oz, e3, s2, h3, fun G3 H3 z s3 st3 r3 => ?_⟩⟩⟩
  have stt := (st1.trans st2).trans st3
  obtain ⟨G4, s4, st4, sb4, g4, o4⟩ := slot_ok s3 stt ((r1.later st2).later st3) hx p1 h0
  have r3' := OpdR.kept (env' := e4) (σ' := σ.set i (some x)) (r3.start (st1.trans st2).fb) hz sb4 g4 o4 (apart (r1.later st2) r3)
  have r2' := OpdR.kept (env' := e4) (σ' := σ.set i (some x)) ((r2.later st3).start st1.fb) hy sb4 g4 o4 (apart r1 (r2.later st3))
  obtain ⟨G5, s5, st5, sb5, g5, o5⟩ := slot_ok s4 st4 r2' hy p2 h0
  have r3'' := OpdR.kept (env' := e5) (σ' := (σ.set i (some x)).set j (some y)) r3' hz sb5 g5 o5 (apart r2 r3)
  obtain ⟨G6, s6, st6, _⟩ := slot_ok s5 st5 r3'' hz p3 h0
  exact hP H3 x y z (k G6 H3 _ s6 st6) fun p o hp => k G6 _ _ (s6.newH hp) (st6.trans (Step.newH hp))

/-! ### which way the stores go -/
def isLoc (sc : Scope) (x : Str) : Bool := match sc.names.lookup x with
  | some .local => true
  | _ => false
theorem isLoc_of {sc : Scope} {x : Str} (h : isLoc sc x = true) : sc.names.lookup x = some .local := by
  unfold isLoc at h
  split at h
  · assumption
  · cases h
theorem isLoc_eq {env : Env} {x : Str} : (env.kindOf x == some .local) = isLoc env.scope x := by
  unfold isLoc Env.kindOf
  cases env.scope.names.lookup x with
  | none => rfl
  | some k => cases k <;> rfl
def isFun (sc : Scope) : Bool := match sc.kind with
  | .function => true
  | _ => false
theorem isFun_of {sc : Scope} (h : isFun sc = true) : sc.kind = .function := by
  unfold isFun at h
  split at h
  · assumption
  · cases h
theorem blk_fun {env : Env} (h : env.scope.kind = .function) : env.blockKind = .function := by unfold Env.blockKind; rw [h]; rfl
/-- some true: swapped; some false: through the tuple -/
def sw2 (sc : Scope) (x y : Str) (px py : Pos) (a b : Expr) : Option Bool :=
  if isLoc sc x && isLoc sc y && (py.line == px.line) && !(x == y) then
    if foldedForSure 8 a && foldedForSure 8 b then some false else if constantsAlone 8 a && constantsAlone 8 b then none else some true
  else some false
def sw3 (sc : Scope) (x y z : Str) (px py pz : Pos) (a b c : Expr) : Option Bool :=
  if isLoc sc x && isLoc sc y && isLoc sc z && (py.line == px.line) && (pz.line == px.line) then
    if !(x == y) && !(x == z) && !(y == z) then
      if foldedForSure 8 a && foldedForSure 8 b && foldedForSure 8 c then some false else if constantsAlone 8 a && constantsAlone 8 b && constantsAlone 8 c then none else some true
    else none
  else some false
theorem star_not : ∀ e : Expr, (match e with | .Starred .. => true | _ => false) = !notStar e := by intro e; cases e <;> rfl
theorem ite_neg' {α : Type} {c : Prop} [Decidable c] {a b r : α} (h : ¬ c) (e : b = r) : (if c then a else b) = r := by rw [if_neg h]; exact e
theorem sw2_ok {env : Env} {x y : Str} {px py pt pt2 : Pos} {kt k2 : Nat} {a b : Expr} {r : Bool} (hk : env.scope.kind = .function) (ha : notStar a = true) (hb : notStar b = true) (h : sw2 env.scope x y px py a b = some r) :
    swappedStores [.Tuple [.Name x px, .Name y py] kt pt] (.Tuple [a, b] k2 pt2) env = pure (if r = true then some [x, y] else none) := by
  unfold swappedStores
  dsimp only [List.any_cons, List.any_nil, List.length_cons, List.length_nil, List.head?_cons, Option.map_some, Option.getD_some, List.filterMap_cons, List.filterMap_nil, List.all_cons, List.all_nil, Expr.pos]
  refine ite_neg' ?_ (ite_neg' (fun z => ?_) ?_)
  · rw [blk_fun hk]; decide
  · rcases (Bool.or_eq_true _ _).mp z with z | z
    · have z' := (star_not a).symm.trans z; rw [ha] at z'; cases z'
    · rcases (Bool.or_eq_true _ _).mp z with z | z
      · have z' := (star_not b).symm.trans z; rw [hb] at z'; cases z'
      · cases z
  · simp only [isLoc_eq, beq_self_eq_true, Bool.and_true] at h ⊢
    unfold sw2 at h
    generalize isLoc env.scope x = lx at h ⊢
    generalize isLoc env.scope y = ly at h ⊢
    generalize (py.line == px.line) = lp at h ⊢
    generalize foldedForSure 8 a = fa at h ⊢
    generalize foldedForSure 8 b = fb at h ⊢
    generalize constantsAlone 8 a = ca at h ⊢
    generalize constantsAlone 8 b = cb at h ⊢
    have ed : ([x, y].eraseDups.length != 2) = (x == y) := by
      by_cases q : x = y
      · subst q; simp [List.eraseDups_cons]
      · simp [List.eraseDups_cons, Ne.symm q, q]
    cases lx <;> cases ly <;> cases lp <;> simp at h ⊢
    all_goals (try (subst h; rfl))
    by_cases q : x = y
    · rw [if_pos q] at h
      have e2 : ¬ [x, y].eraseDups.length = 2 := by
        rw [q]; simp [List.eraseDups_cons]
      rw [if_neg e2]
      cases h; rfl
    · rw [if_neg q] at h
      have e2 : [x, y].eraseDups.length = 2 := by simp [List.eraseDups_cons, Ne.symm q]
      rw [if_pos e2]
      split at h
      · rename_i z
        rw [if_pos z]
        cases h; rfl
      · rename_i z
        rw [if_neg z]
        split at h
        · cases h
        · rename_i z'
          rw [if_neg z']
          cases h; rfl
theorem sw3_ok {env : Env} {x y w : Str} {px py pw pt pt2 : Pos} {kt k2 : Nat} {a b c : Expr} {r : Bool} (hk : env.scope.kind = .function) (ha : notStar a = true) (hb : notStar b = true) (hc : notStar c = true) (h : sw3 env.scope x y w px py pw a b c = some r) :
    swappedStores [.Tuple [.Name x px, .Name y py, .Name w pw] kt pt] (.Tuple [a, b, c] k2 pt2) env = pure (if r = true then some [x, y, w] else none) := by
  unfold swappedStores
  dsimp only [List.any_cons, List.any_nil, List.length_cons, List.length_nil, List.head?_cons, Option.map_some, Option.getD_some, List.filterMap_cons, List.filterMap_nil, List.all_cons, List.all_nil, Expr.pos]
  refine ite_neg' ?_ (ite_neg' (fun z => ?_) ?_)
  · rw [blk_fun hk]; decide
  · rcases (Bool.or_eq_true _ _).mp z with z | z
    · have z' := (star_not a).symm.trans z; rw [ha] at z'; cases z'
    · rcases (Bool.or_eq_true _ _).mp z with z | z
      · have z' := (star_not b).symm.trans z; rw [hb] at z'; cases z'
      · rcases (Bool.or_eq_true _ _).mp z with z | z
        · have z' := (star_not c).symm.trans z; rw [hc] at z'; cases z'
        · cases z
  · simp only [isLoc_eq, beq_self_eq_true, Bool.and_true] at h ⊢
    unfold sw3 at h
    generalize isLoc env.scope x = lx at h ⊢
    generalize isLoc env.scope y = ly at h ⊢
    generalize isLoc env.scope w = lw at h ⊢
    generalize (py.line == px.line) = lp at h ⊢
    generalize (pw.line == px.line) = lq at h ⊢
    generalize foldedForSure 8 a = fa at h ⊢
    generalize foldedForSure 8 b = fb at h ⊢
    generalize foldedForSure 8 c = fc at h ⊢
    generalize constantsAlone 8 a = ca at h ⊢
    generalize constantsAlone 8 b = cb at h ⊢
    generalize constantsAlone 8 c = cc at h ⊢
    cases lx <;> cases ly <;> cases lw <;> cases lp <;> cases lq <;> simp at h ⊢
    all_goals (try (subst h; rfl))
    obtain ⟨⟨⟨q1, q2⟩, q3⟩, h⟩ := h
    have e2 : [x, y, w].eraseDups.length = 3 := by simp [List.eraseDups_cons, Ne.symm q1, Ne.symm q2, Ne.symm q3]
    rw [if_pos e2]
    simp only [and_assoc] at h ⊢
    split at h
    · rename_i z
      rw [if_pos z]
      cases h; rfl
    · rename_i z
      rw [if_neg z]
      split at h
      · cases h
      · rename_i z'
        rw [if_neg z']
        cases h; rfl

/-! ### the rules -/
variable {x y z : Str} {px py pz pt pt2 : Pos} {kt k2 : Nat}
theorem s_par2 (hk : X.env.scope.kind = .function) (hc : X.calm = true) (hN : X.N.Nodup) (hi : X.N[i]? = some x) (hj : X.N[j]? = some y) (hij : i ≠ j) (hx : Loc X.env.scope x) (hy : Loc X.env.scope y)
    (fx : X.fn x = true ∨ X.env.scope.names.lookup x = some .local) (fy : X.fn y = true ∨ X.env.scope.names.lookup y = some .local) (sa : notStar a = true) (sb : notStar b = true) (ha : PE X a (tE F C X.K γ ia)) (hb : PE X b (tE F C X.K γ ib))
    {r : Bool} (h : sw2 X.env.scope x y px py a b = some r) (hl : r = true → X.env.scope.names.lookup x = some .local ∧ X.env.scope.names.lookup y = some .local) :
    PS X (.Assign [.Tuple [.Name x px, .Name y py] kt pt] (.Tuple [a, b] k2 pt2) pos) (tS F C X.K γ (.par2 i j u v ia ib)) := by
  have hw := sw2_ok (kt := kt) (k2 := k2) (pt := pt) (pt2 := pt2) hk sa sb h
  have pa := pa_cons ha (pa_cons hb pa_nil (star_cons sb)) (star_cons sa)
  cases r with
  | true =>
    rw [if_pos rfl] at hw
    obtain ⟨l1, l2⟩ := hl rfl
    exact PS.weak (ps_par hc hN hi hj hij l1 l2 pa hw) fun D σ H q => par2_run q fun H1 v w h1 _ => ⟨v, w, rfl, h1⟩
  | false =>
    rw [if_neg Bool.false_ne_true] at hw
    refine PS.weak (ps_asg (pe_tup pa) (pg_tup hc (pgs_cons (pg_name hN hi hx fx) (pgs_cons (pg_name hN hj hy fy) pgs_nil rfl) rfl)) rfl hw rfl) fun D σ H q => ?_
    show tCons (tE F C X.K γ ia) (tCons (tE F C X.K γ ib) tNil) σ H (fun xs H1 => xs.length ≤ sizeLine ∧ ∀ p, H1 p = none → gTup X.K 2 (gCons (gName i) (gCons (gName j) gNil)) (.ref p) σ (upd H1 p (.tup xs)) D.nx)
    refine par2_run q fun H1 v w _ h2 => ⟨by show 2 ≤ sizeLine; decide, fun p hp => ⟨p, [v, w], rfl, SqT.of upd_same, rfl, v, [w], rfl, w, [], rfl, rfl, h2 p _ hp⟩⟩
theorem s_par3 {l : Nat} (hk : X.env.scope.kind = .function) (hc : X.calm = true) (hN : X.N.Nodup) (hi : X.N[i]? = some x) (hj : X.N[j]? = some y) (hlz : X.N[l]? = some z) (hij : i ≠ j) (hil : i ≠ l) (hjl : j ≠ l) (hx : Loc X.env.scope x) (hy : Loc X.env.scope y) (hz : Loc X.env.scope z)
    (fx : X.fn x = true ∨ X.env.scope.names.lookup x = some .local) (fy : X.fn y = true ∨ X.env.scope.names.lookup y = some .local) (fz : X.fn z = true ∨ X.env.scope.names.lookup z = some .local) (sa : notStar a = true) (sb : notStar b = true) (sc : notStar c = true)
    (ha : PE X a (tE F C X.K γ ia)) (hb : PE X b (tE F C X.K γ ib)) (hcc : PE X c (tE F C X.K γ ic))
    {r : Bool} (h : sw3 X.env.scope x y z px py pz a b c = some r) (hl : r = true → X.env.scope.names.lookup x = some .local ∧ X.env.scope.names.lookup y = some .local ∧ X.env.scope.names.lookup z = some .local) :
    PS X (.Assign [.Tuple [.Name x px, .Name y py, .Name z pz] kt pt] (.Tuple [a, b, c] k2 pt2) pos) (tS F C X.K γ (.par3 i j l u v w ia ib ic)) := by
  have hw := sw3_ok (kt := kt) (k2 := k2) (pt := pt) (pt2 := pt2) hk sa sb sc h
  have pa := pa_cons ha (pa_cons hb (pa_cons hcc pa_nil (star_cons sc)) (star_cons sb)) (star_cons sa)
  cases r with
  | true =>
    rw [if_pos rfl] at hw
    obtain ⟨l1, l2, l3⟩ := hl rfl
    exact PS.weak (ps_par3 hc hN hi hj hlz hij hil hjl l1 l2 l3 pa hw) fun D σ H q => par3_run q fun H1 v w z h1 _ => ⟨v, w, z, rfl, h1⟩
  | false =>
    rw [if_neg Bool.false_ne_true] at hw
    refine PS.weak (ps_asg (pe_tup pa) (pg_tup hc (pgs_cons (pg_name hN hi hx fx) (pgs_cons (pg_name hN hj hy fy) (pgs_cons (pg_name hN hlz hz fz) pgs_nil rfl) rfl) rfl)) rfl hw rfl) fun D σ H q => ?_
    show tCons (tE F C X.K γ ia) (tCons (tE F C X.K γ ib) (tCons (tE F C X.K γ ic) tNil)) σ H (fun xs H1 => xs.length ≤ sizeLine ∧ ∀ p, H1 p = none → gTup X.K 3 (gCons (gName i) (gCons (gName j) (gCons (gName l) gNil))) (.ref p) σ (upd H1 p (.tup xs)) D.nx)
    refine par3_run q fun H1 v w z _ h2 => ⟨by show 3 ≤ sizeLine; decide, fun p hp => ⟨p, [v, w, z], rfl, SqT.of upd_same, rfl, v, [w, z], rfl, w, [z], rfl, z, [], rfl, rfl, h2 p _ hp⟩⟩
end
end Rf

set_option Elab.async false
set_option linter.all false
set_option maxRecDepth 100000
set_option maxHeartbeats 4000000
/-! Rf: what the checker lets through means what it says: expressions. -/
namespace Rf
open PySem PySem.Spec PyProof.Rows L2

def isBo : Expr → Bool
  | .BoolOp .. => true
  | _ => false
def isLc : Expr → Bool
  | .ListComp .. => true
  | _ => false
structure Snd (X : Cx) (F : FT) (C : List D) (γ : Gam) (e : Expr) (ie : IE) : Prop where
  pe : PE X e (tE F C X.K γ ie)
  pt : PT X e (tT F C X.K γ ie)
  pw : isBo e = true → PW X e (tT F C X.K γ ie)
  set : isLc e = true → ∀ {i : Nat} {y : Str} {py spos : Pos}, X.N[i]? = some y → X.env.scope.names.lookup y = some .local → swapsWith e (some (.Name y py)) spos.line X.env = pure true → PS X (.Assign [.Name y py] e spos) (tAsg (tE F C X.K γ ie) (gName i))
theorem Snd.plain {X : Cx} {F : FT} {C : List D} {γ : Gam} {e : Expr} {ie : IE} (pe : PE X e (tE F C X.K γ ie)) (he : ∀ whole, isTrue e X.env whole = (do let v ← whole; standAt e.pos; holding [v] (truthy v))) (nb : isBo e = false) (nl : isLc e = false) : Snd X F C γ e ie :=
  ⟨pe, pt_plain pe he, fun h => by (rw [nb] at h; cases h), fun h => by rw [nl] at h; cases h⟩
theorem XOk.blk {pg : Pg} {k : Nat} {c : SC} {X : Cx} (h : XOk pg k c X) (scope : Scope) (s : Shared) (H : Hp) (Ca : Addr) (cl : List (Str × Addr)) (fp : List Addr) : XOk pg k (blkSC c scope) (X.blk s H scope (compEnvC scope cl Ca X.env) fp) :=
  ⟨h.N, h.nd, by show relS scope X.env.scope = _; rw [h.sc]; rfl, rfl, h.calm, h.room, h.gds, h.pg⟩
theorem own_ix (c : SC) (own : List Nat) : (ownN c own).map (·.2) = own := by
  unfold ownN
  rw [List.map_map]
  show own.map (fun i => i) = own
  simp
theorem gcd_mg {pg : Pg} {k : Nat} {c : SC} {X : Cx} (h : XOk pg k c X) {b : Blt} {x : Str} (e : (match b with | .gcd2 => pg.gcd | _ => pg.bn.contains x) = true) : if b = .gcd2 then X.mg "gcd" = some (.builtin "math.gcd") else X.mg x = none := by
  by_cases q : b = .gcd2
  · subst q
    rw [if_pos rfl]
    exact h.pg.gcd e
  · rw [if_neg q]
    refine h.pg.bn x ?_
    cases b <;> first | exact absurd rfl q | simpa using e
theorem rg_of {X : Cx} {F : FT} {C : List D} {γ : Gam} {a b : Expr} : True := trivial

theorem XOk.T {pg : Pg} {k : Nat} {c : SC} {X : Cx} (h : XOk pg k c X) {f : Nat} {x : Str} (e : fnB pg c f x = true) : ∃ ps fn a fd, Gl X x ∧ (x == ("__debug__" : Str)) = false ∧ pg.fns[f]? = some (x, ps, fn) ∧ X.mg x = some (.ref a) ∧ PySem.W.keepIn X.K (.ref a) = true ∧ fn.np = ps.length ∧ BindG pg.kws X.K f fd ps ∧ FnG X.prog X.w X.K X.mg X.base k a fd ps (spF X.K (pg.F k) f ps.length) := by
  unfold fnB at e
  obtain ⟨e1, e2⟩ := ands e
  obtain ⟨g1, g2, _⟩ := h.gl e1
  split at e2
  · rename_i y ps fn q
    have hx : x = y := of_decide_eq_true e2
    subst hx
    obtain ⟨a, fd, h1, h2, h3, h4, h5⟩ := h.pg.fns f x ps fn q
    exact ⟨ps, fn, a, fd, g1, g2, q, h1, h2, h3, h4, h5⟩
  · cases e2
theorem stars_of {pg : Pg} {c : SC} : ∀ {ies : IEs} {es : List Expr}, chkEs pg c ies es = true → noStars es = true ∧ (es = [] → ies = .nil)
  | .nil, [], _ => ⟨rfl, fun _ => rfl⟩
  | .nil, _ :: _, h => by simp [chkEs] at h
  | .cons _ _, [], h => by simp [chkEs] at h
  | .cons ie r, e :: es, h => by
    simp only [chkEs] at h
    obtain ⟨h1, h2⟩ := ands h
    obtain ⟨h0, h1⟩ := ands h1
    exact ⟨by simp [noStars, h0, (stars_of h2).1], fun z => nomatch z⟩
variable {pg : Pg} {k : Nat} {γ : Gam}
mutual
theorem sndE : ∀ (ie : IE) {c : SC} {X : Cx} {e : Expr}, XOk pg k c X → chkE pg c ie e = true → Snd X (pg.F k) pg.C γ e ie
  | .var i, c, X, e, hX, h => by
    simp only [chkE] at h
    split at h
    · obtain ⟨h1, h2, h3, h4⟩ := slotB_of h
      rw [← hX.N] at h1; rw [← hX.sc] at h2
      exact Snd.plain (e_var h1 h2 h3 h4) (fun _ => rfl) rfl rfl
    · cases h
  | .frz i, c, X, e, hX, h => by
    simp only [chkE] at h
    split at h
    · obtain ⟨h1, h2, h3, h4⟩ := slotB_of h
      rw [← hX.N] at h1; rw [← hX.sc] at h2
      exact Snd.plain (e_frz h1 h2 h3 h4) (fun _ => rfl) rfl rfl
    · cases h
  | .cst d, c, X, e, hX, h => by
    simp only [chkE] at h
    split at h
    · exact Snd.plain (e_cst h) (fun _ => rfl) rfl rfl
    · cases h
  | .glo n, c, X, e, hX, h => by
    simp only [chkE] at h
    split at h
    · obtain ⟨h1, h2⟩ := ands h
      obtain ⟨g1, g2, _⟩ := hX.gl h1
      split at h2
      · rename_i y d q
        have hx := of_decide_eq_true h2
        subst hx
        obtain ⟨v, u, m1, m2, m3⟩ := hX.pg.gl n _ _ q
        have hC : pg.C[n]? = some d := by
          show (pg.gl.map (·.2))[n]? = some d
          rw [List.getElem?_map, q]; rfl
        exact Snd.plain (e_glo hC g1 m1 m2 m3 g2) (fun _ => rfl) rfl rfl
      · cases h2
    · cases h
  | .bin o a b, c, X, e, hX, h => by
    simp only [chkE] at h
    split at h
    · obtain ⟨h12, h3⟩ := ands h
      obtain ⟨h1, h2⟩ := ands h12
      exact Snd.plain (e_bin h1 (sndE a hX h2).pe (sndE b hX h3).pe) (fun _ => rfl) rfl rfl
    · cases h
  | .neg a, c, X, e, hX, h => by
    simp only [chkE] at h
    split at h
    · exact Snd.plain (e_neg (sndE a hX h).pe) (fun _ => rfl) rfl rfl
    · cases h
  | .cmp o a b, c, X, e, hX, h => by
    simp only [chkE] at h
    split at h
    · obtain ⟨h12, h4⟩ := ands h
      obtain ⟨h12, h3⟩ := ands h12
      obtain ⟨h1, h2⟩ := ands h12
      exact ⟨e_cmp hX.u65 h1 h2 (sndE a hX h3).pe (sndE b hX h4).pe, t_cmp hX.u65 h1 h2 (sndE a hX h3).pe (sndE b hX h4).pe, fun z => (nomatch z), fun z => (nomatch z)⟩
    · cases h
  | .chn o o' a b d, c, X, e, hX, h => by
    simp only [chkE] at h
    split at h
    · obtain ⟨h, h6⟩ := ands h
      obtain ⟨h, h5⟩ := ands h
      obtain ⟨h, h4⟩ := ands h
      obtain ⟨h, h3⟩ := ands h
      obtain ⟨h1, h2⟩ := ands h
      exact ⟨e_chn hX.u65 h1 h2 h3 (sndE a hX h4).pe (sndE b hX h5).pe (sndE d hX h6).pe, t_chn hX.u65 h1 h2 h3 (sndE a hX h4).pe (sndE b hX h5).pe (sndE d hX h6).pe, fun z => (nomatch z), fun z => (nomatch z)⟩
    · cases h
  | .and2 a b, c, X, e, hX, h => by
    simp only [chkE] at h
    split at h
    · rename_i x y r p
      obtain ⟨h1, h2⟩ := ands h
      have sa := sndE a hX h1
      cases r with
      | nil =>
        have sb := sndE b hX h2
        have pw : PW X (.BoolOp .And [x, y] p) (tT (pg.F k) pg.C X.K γ (.and2 a b)) := PW.weak (pw_and sa.pt (pw_and1 sb.pt)) fun _ _ _ q => and_redT q
        exact ⟨PE.weak (pe_and sa.pe (pe_one sb.pe)) fun _ _ _ q => and_redV q, pw.pt, fun _ => pw, fun z => (nomatch z)⟩
      | cons z r =>
        have sb := sndE b hX h2
        have pw : PW X (.BoolOp .And (x :: y :: z :: r) p) (tT (pg.F k) pg.C X.K γ (.and2 a b)) := PW.weak (pw_and sa.pt (sb.pw rfl)) fun _ _ _ q => and_redT q
        exact ⟨PE.weak (pe_and sa.pe sb.pe) fun _ _ _ q => and_redV q, pw.pt, fun _ => pw, fun z => (nomatch z)⟩
    · cases h
  | .or2 a b, c, X, e, hX, h => by
    simp only [chkE] at h
    split at h
    · rename_i x y r p
      obtain ⟨h1, h2⟩ := ands h
      have sa := sndE a hX h1
      cases r with
      | nil =>
        have sb := sndE b hX h2
        have pw : PW X (.BoolOp .Or [x, y] p) (tT (pg.F k) pg.C X.K γ (.or2 a b)) := PW.weak (pw_or sa.pt (pw_or1 sb.pt)) fun _ _ _ q => or_redT q
        exact ⟨PE.weak (pe_or sa.pe (pe_one sb.pe)) fun _ _ _ q => or_redV q, pw.pt, fun _ => pw, fun z => (nomatch z)⟩
      | cons z r =>
        have sb := sndE b hX h2
        have pw : PW X (.BoolOp .Or (x :: y :: z :: r) p) (tT (pg.F k) pg.C X.K γ (.or2 a b)) := PW.weak (pw_or sa.pt (sb.pw rfl)) fun _ _ _ q => or_redT q
        exact ⟨PE.weak (pe_or sa.pe sb.pe) fun _ _ _ q => or_redV q, pw.pt, fun _ => pw, fun z => (nomatch z)⟩
    · cases h
  | .nt a, c, X, e, hX, h => by
    simp only [chkE] at h
    split at h
    · exact ⟨e_not (sndE a hX h).pe, t_not (sndE a hX h).pt, fun z => (nomatch z), fun z => (nomatch z)⟩
    · cases h
  | .ite q a b, c, X, e, hX, h => by
    simp only [chkE] at h
    split at h
    · obtain ⟨h12, h3⟩ := ands h
      obtain ⟨h1, h2⟩ := ands h12
      exact ⟨e_ite (sndE q hX h1).pt (sndE a hX h2).pe (sndE b hX h3).pe, t_ite (sndE q hX h1).pt (sndE a hX h2).pt (sndE b hX h3).pt, fun z => (nomatch z), fun z => (nomatch z)⟩
    · cases h
  | .tup es, c, X, e, hX, h => by
    simp only [chkE] at h
    split at h
    · exact Snd.plain (e_tup (sndP es hX h)) (fun _ => rfl) rfl rfl
    · cases h
  | .lst es, c, X, e, hX, h => by
    simp only [chkE] at h
    split at h
    · exact Snd.plain (e_lst (sndP es hX h)) (fun _ => rfl) rfl rfl
    · cases h
  | .idx a i, c, X, e, hX, h => by
    simp only [chkE] at h
    split at h
    · obtain ⟨h12, h3⟩ := ands h
      obtain ⟨h1, h2⟩ := ands h12
      exact Snd.plain (e_idx h1 (sndE a hX h2).pe (sndE i hX h3).pe) (fun _ => rfl) rfl rfl
    · cases h
  | .slc a lo hi, c, X, e, hX, h => by
    simp only [chkE] at h
    split at h
    · obtain ⟨h12, h3⟩ := ands h
      obtain ⟨h1, h2⟩ := ands h12
      exact Snd.plain (e_slc (sndE a hX h1).pe (sndO lo hX h2) (sndO hi hX h3)) (fun _ => rfl) rfl rfl
    · cases h
  | .rev a, c, X, e, hX, h => by
    simp only [chkE] at h
    split at h
    · exact Snd.plain (e_rev (sndE a hX h).pe) (fun _ => rfl) rfl rfl
    · cases h
  | .call f es, c, X, e, hX, h => by
    simp only [chkE] at h
    split at h
    · obtain ⟨h1, h2⟩ := ands h
      obtain ⟨ps, fn, a, fd, t1, t2, t3, t4, t5, t6, t7, t8⟩ := hX.T h1
      obtain ⟨s1, s2⟩ := stars_of h2
      exact Snd.plain (e_call t8 (callN_len t3 t6) hX.room hX.gds t1 t4 t5 t7.pos t2 s1 s2 (sndA es hX h2)) (fun _ => rfl) rfl rfl
    · cases h
  | .callk f p es, c, X, e, hX, h => by
    simp only [chkE] at h
    split at h
    · obtain ⟨h12, h3⟩ := ands h
      obtain ⟨h1, h2⟩ := ands h12
      obtain ⟨ps, fn, a, fd, t1, t2, t3, t4, t5, t6, t7, t8⟩ := hX.T h1
      split at h2
      · rename_i ks hks
        unfold kwB at h2
        exact Snd.plain (e_callk t8 (callN_len t3 t6) hX.room hX.gds t1 t4 t5 (t7.kw ks p (by simpa using h2)) t2 hks (chkKs_len h3) (sndK es hX h3)) (fun _ => rfl) rfl rfl
      · cases h2
    · cases h
  | .blt b es, c, X, e, hX, h => by
    simp only [chkE] at h
    split at h
    · obtain ⟨h, h4⟩ := ands h
      obtain ⟨h, h3⟩ := ands h
      obtain ⟨h1, h2⟩ := ands h
      obtain ⟨g1, g2, g3⟩ := hX.gl h1
      exact Snd.plain (e_blt hX.calm hX.gds hX.u67 (of_decide_eq_true h3) g1 g2 g3 (gcd_mg hX h2) (stars_of h4).1 (sndA es hX h4)) (fun _ => rfl) rfl rfl
    · cases h
  | .isi a ts, c, X, e, hX, h => by
    simp only [chkE] at h
    split at h
    · rename_i x p y t q
      obtain ⟨h, h5⟩ := ands h
      obtain ⟨h, h4⟩ := ands h
      obtain ⟨h, h3⟩ := ands h
      obtain ⟨h1, h2⟩ := ands h
      obtain ⟨g1, g2, g3, g4⟩ := hX.blt h1
      have hx := of_decide_eq_true h2
      subst hx
      have sa := sndE a hX h4
      split at h5
      · rename_i tn tp
        cases ts with
        | nil => simp only [tysB] at h5; cases h5
        | cons t0 ts =>
          simp only [tysB] at h5
          cases ts with
          | cons t1 ts => simp only [tysB, Bool.and_false] at h5; cases h5
          | nil =>
            obtain ⟨h5a, h7⟩ := ands h5
            obtain ⟨h5b, h6'⟩ := ands h5a
            obtain ⟨b1, b2, b3, b4⟩ := hX.blt h5b
            have hv := boot_ty t0
            rw [← of_decide_eq_true h6'] at hv
            exact Snd.plain (e_isi1 (ts := []) g1 g2 h3 sa.pe (pe_bltn (v := .ty (tyN t0)) b1 b2 hv rfl b4 b3)) (fun _ => rfl) rfl rfl
      · rename_i us kk pp
        obtain ⟨h5, h6⟩ := ands h5
        obtain ⟨r1, r2⟩ := tys_pa hX h6
        exact Snd.plain (e_isiT g1 g2 h3 sa.pe r1 (Nat.le_of_ble_eq_true h5)) (fun _ => rfl) rfl rfl
      · cases h5
    · cases h
  | .lrg lo hi, c, X, e, hX, h => by
    simp only [chkE] at h
    split at h
    · rename_i x p y q xs r s
      obtain ⟨h, h5⟩ := ands h
      obtain ⟨h, h4⟩ := ands h
      obtain ⟨h, h3⟩ := ands h
      obtain ⟨h1, h2⟩ := ands h
      obtain ⟨g1, g2, g3, g4⟩ := hX.blt h1
      obtain ⟨g5, g6, _, _⟩ := hX.blt h3
      have hx := of_decide_eq_true h2
      have hy := of_decide_eq_true h4
      subst hx; subst hy
      split at h5
      · rename_i hh
        obtain ⟨h5, h7⟩ := ands h5
        obtain ⟨h5, h6⟩ := ands h5
        split at h5
        · exact Snd.plain (e_lrg hX.calm g1 g2 rfl (rg_1 g5 g6 h6 (sndE hi hX h7).pe)) (fun _ => rfl) rfl rfl
        · cases h5
      · rename_i l hh
        obtain ⟨h5, h8⟩ := ands h5
        obtain ⟨h5, h7⟩ := ands h5
        obtain ⟨h5, h6⟩ := ands h5
        exact Snd.plain (e_lrg hX.calm g1 g2 rfl (rg_2 g5 g6 h5 h6 (sndE lo hX h7).pe (sndE hi hX h8).pe)) (fun _ => rfl) rfl rfl
      · cases h5
    · cases h
  | .trg lo hi, c, X, e, hX, h => by
    simp only [chkE] at h
    split at h
    · rename_i x p y q xs r s
      obtain ⟨h, h5⟩ := ands h
      obtain ⟨h, h4⟩ := ands h
      obtain ⟨h, h3⟩ := ands h
      obtain ⟨h1, h2⟩ := ands h
      obtain ⟨g1, g2, g3, g4⟩ := hX.blt h1
      obtain ⟨g5, g6, _, _⟩ := hX.blt h3
      have hx := of_decide_eq_true h2
      have hy := of_decide_eq_true h4
      subst hx; subst hy
      split at h5
      · rename_i hh
        obtain ⟨h5, h7⟩ := ands h5
        obtain ⟨h5, h6⟩ := ands h5
        split at h5
        · exact Snd.plain (e_trg hX.calm g1 g2 rfl (rg_1 g5 g6 h6 (sndE hi hX h7).pe)) (fun _ => rfl) rfl rfl
        · cases h5
      · rename_i l hh
        obtain ⟨h5, h8⟩ := ands h5
        obtain ⟨h5, h7⟩ := ands h5
        obtain ⟨h5, h6⟩ := ands h5
        exact Snd.plain (e_trg hX.calm g1 g2 rfl (rg_2 g5 g6 h5 h6 (sndE lo hX h7).pe (sndE hi hX h8).pe)) (fun _ => rfl) rfl rfl
      · cases h5
    · cases h
  | .lc elt tg it cd own, c, X, e, hX, h => by
    unfold chkE at h
    split at h
    · rename_i x t i fs scope pp
      obtain ⟨h, h7⟩ := ands h
      obtain ⟨h, h6⟩ := ands h
      obtain ⟨h, h5⟩ := ands h
      obtain ⟨h, h4⟩ := ands h
      obtain ⟨h, h3⟩ := ands h
      obtain ⟨h, h2⟩ := ands h
      obtain ⟨h0, h1⟩ := ands h
      have ok : BlkOk X.N X.env.scope scope (ownN c own) := by rw [hX.N, hX.sc]; exact blkOk_by h0
      have hown : ∀ j ∈ tgS tg, j ∈ own := fun j hj => by
        have := List.all_eq_true.mp h4 j hj
        simpa using this
      have pi := sndI it hX h1
      have hg : ∀ (s : Shared) (H : Hp) (Ca : Addr) (cl : List (Str × Addr)) (fp : List Addr), PG (X.blk s H scope (compEnvC scope cl Ca X.env) fp) t (gT (pg.F k) pg.C X.K γ tg) := fun s H Ca cl fp => sndT tg (hX.blk scope s H Ca cl fp) h5
      have he : ∀ (s : Shared) (H : Hp) (Ca : Addr) (cl : List (Str × Addr)) (fp : List Addr), PE (X.blk s H scope (compEnvC scope cl Ca X.env) fp) x (tE (pg.F k) pg.C X.K γ elt) := fun s H Ca cl fp => (sndE elt (hX.blk scope s H Ca cl fp) h7).pe
      have ht : ∀ (s : Shared) (H : Hp) (Ca : Addr) (cl : List (Str × Addr)) (fp : List Addr), PTs (X.blk s H scope (compEnvC scope cl Ca X.env) fp) fs (tD (pg.F k) pg.C X.K γ cd) := fun s H Ca cl fp => sndD cd (hX.blk scope s H Ca cl fp) h6
      have red : ∀ {σ : L2.St} {H : Hp} {Q : VK}, tE (pg.F k) pg.C X.K γ (.lc elt tg it cd own) σ H Q → tLc (tI (pg.F k) pg.C X.K γ it) (gT (pg.F k) pg.C X.K γ tg) (tD (pg.F k) pg.C X.K γ cd) (tE (pg.F k) pg.C X.K γ elt) ((ownN c own).map (·.2)) σ H Q := fun {σ H Q} q => by
        rw [own_ix]; exact lc_red hown q
      have pe : PE X (.ListComp x [⟨t, i, fs, 0⟩] scope pp) (tE (pg.F k) pg.C X.K γ (.lc elt tg it cd own)) := PE.weak (pe_lc hX.calm hX.nd pi ok hg ht he (fold_no h2)) fun _ _ _ q => red q
      exact ⟨pe, pt_plain pe fun _ => rfl, fun z => (nomatch z), fun _ j y py spos a1 a2 a3 => PS.weak (ps_setLc hX.calm hX.nd a1 a2 a3 pi ok hg ht he (fold_no h2)) fun D σ H q => red q⟩
    · cases h
  | .mth m i es, c, X, e, hX, h => by
    simp only [chkE] at h
    split at h
    · obtain ⟨h, h5⟩ := ands h
      obtain ⟨h, h4⟩ := ands h
      obtain ⟨h, h3⟩ := ands h
      obtain ⟨h1, h2⟩ := ands h
      obtain ⟨q1, q2, q3, q4⟩ := slotB_of h1
      rw [← hX.N] at q1; rw [← hX.sc] at q2
      obtain ⟨s1, s2⟩ := stars_of h5
      exact Snd.plain (e_mth q1 q2 q3 q4 (of_decide_eq_true h2) h3 s1 (blt_lt h4) s2 (sndA es hX h5)) (fun _ => rfl) rfl rfl
    · cases h
  | .rpr es, c, X, e, hX, h => by
    simp only [chkE] at h
    split at h
    · obtain ⟨h12, h3⟩ := ands h
      obtain ⟨h1, h2⟩ := ands h12
      obtain ⟨g1, g2, g3, g4⟩ := hX.blt h1
      have hx := of_decide_eq_true h2
      subst hx
      exact Snd.plain (e_rpr hX.gds hX.u65 g1 g2 (sndA es hX h3)) (fun _ => rfl) rfl rfl
    · cases h
  | .giv a, c, X, e, hX, h => by
    simp only [chkE] at h
    have sa := sndE a hX h
    have red : ∀ {σ : L2.St} {H : Hp} {Q : VK}, tE (pg.F k) pg.C X.K γ (.giv a) σ H Q → tE (pg.F k) pg.C X.K γ a σ H Q := fun {σ H Q} ⟨G, env, o, env', sr, ev, q⟩ => by
      simp only [evE] at ev
      split at ev
      · rename_i xs e1 h1
        cases ev
        exact ⟨G, env, _, _, sr, h1, fun G' H' x s st r => q G' H' x s st r⟩
      · cases ev
    have no : ∀ {σ : L2.St} {H : Hp} {Q : Bool → Hp → Prop}, tT (pg.F k) pg.C X.K γ (.giv a) σ H Q → False := fun {σ H Q} ⟨G, env, o, env', sr, ev, q⟩ => by
      simp only [evE] at ev
      split at ev
      · cases ev
      · cases ev
    exact ⟨PE.weak sa.pe fun _ _ _ q => red q, ⟨fun _ _ _ _ _ _ q => (no q).elim⟩, fun _ => ⟨fun _ _ _ _ _ _ _ q => (no q).elim⟩, fun hl i y py spos a1 a2 a3 => PS.weak (sa.set hl a1 a2 a3) fun D σ H q => red q⟩
theorem sndA : ∀ (ies : IEs) {c : SC} {X : Cx} {es : List Expr}, XOk pg k c X → chkEs pg c ies es = true → PA X es (tA (pg.F k) pg.C X.K γ ies)
  | .nil, c, X, es, hX, h => by
    simp only [chkEs] at h
    split at h
    · exact a_nil
    · cases h
  | .cons ie r, c, X, es, hX, h => by
    simp only [chkEs] at h
    split at h
    · obtain ⟨h12, h3⟩ := ands h
      obtain ⟨h1, h2⟩ := ands h12
      exact a_cons h1 (sndE ie hX h2).pe (sndA r hX h3)
    · cases h
theorem sndP : ∀ (ies : IEs) {c : SC} {X : Cx} {es : List Expr}, XOk pg k c X → chkEs pg c ies es = true → PA X es (tP (pg.F k) pg.C X.K γ ies)
  | .nil, c, X, es, hX, h => by
    simp only [chkEs] at h
    split at h
    · exact p_nil
    · cases h
  | .cons ie r, c, X, es, hX, h => by
    simp only [chkEs] at h
    split at h
    · obtain ⟨h12, h3⟩ := ands h
      obtain ⟨h1, h2⟩ := ands h12
      exact p_cons h1 (sndE ie hX h2).pe (sndP r hX h3)
    · cases h
theorem sndK : ∀ (ies : IEs) {c : SC} {X : Cx} {kws : List Keyword}, XOk pg k c X → chkKs pg c ies kws = true → PK X kws (tA (pg.F k) pg.C X.K γ ies)
  | .nil, c, X, es, hX, h => by
    simp only [chkKs] at h
    split at h
    · exact k_nil
    · cases h
  | .cons ie r, c, X, es, hX, h => by
    simp only [chkKs] at h
    split at h
    · obtain ⟨h1, h2⟩ := ands h
      exact k_cons (sndE ie hX h1).pe (sndK r hX h2)
    · cases h
theorem sndO : ∀ (io : IO) {c : SC} {X : Cx} {e : Option Expr}, XOk pg k c X → chkO pg c io e = true → PO X e (tO (pg.F k) pg.C X.K γ io)
  | .non, c, X, e, hX, h => by
    simp only [chkO] at h
    split at h
    · exact o_non
    · cases h
  | .som a, c, X, e, hX, h => by
    simp only [chkO] at h
    split at h
    · exact o_som (sndE a hX h).pe
    · cases h
theorem sndD : ∀ (io : IO) {c : SC} {X : Cx} {fs : List Expr}, XOk pg k c X → (match fs, io with
        | [], .non => true
        | [f], .som d => chkE pg c d f
        | _, _ => false) = true → PTs X fs (tD (pg.F k) pg.C X.K γ io)
  | .non, c, X, fs, hX, h => by
    split at h
    · exact d_non
    · rename_i q; cases q
    · cases h
  | .som a, c, X, fs, hX, h => by
    split at h
    · rename_i q; cases q
    · rename_i f d q
      cases q
      exact d_som (sndE a hX h).pt
    · cases h
theorem sndI : ∀ (ii : II) {c : SC} {X : Cx} {t e : Expr}, XOk pg k c X → chkI pg c ii t e = true → PI X t e (tI (pg.F k) pg.C X.K γ ii)
  | .it a, c, X, t, e, hX, h => by
    simp only [chkI] at h
    exact i_it (sndE a hX h).pe
  | .rng lo hi, c, X, t, e, hX, h => by
    simp only [chkI] at h
    split at h
    · obtain ⟨h, h5⟩ := ands h
      obtain ⟨h3, h4⟩ := ands h
      obtain ⟨g5, g6, _, _⟩ := hX.blt h3
      have hy := of_decide_eq_true h4
      subst hy
      split at h5
      · rename_i hh
        obtain ⟨h5, h7⟩ := ands h5
        obtain ⟨h5, h6⟩ := ands h5
        split at h5
        · exact i_rg1 g5 g6 h6 (sndE hi hX h7).pe
        · cases h5
      · rename_i l hh
        obtain ⟨h5, h8⟩ := ands h5
        obtain ⟨h5, h7⟩ := ands h5
        obtain ⟨h5, h6⟩ := ands h5
        exact i_rg2 g5 g6 h5 h6 (sndE lo hX h7).pe (sndE hi hX h8).pe
      · cases h5
    · cases h
  | .enu a, c, X, t, e, hX, h => by
    simp only [chkI] at h
    split at h
    · obtain ⟨h, h4⟩ := ands h
      obtain ⟨h, h3⟩ := ands h
      obtain ⟨h1, h2⟩ := ands h
      obtain ⟨g1, g2, _, _⟩ := hX.blt h1
      have hy := of_decide_eq_true h2
      subst hy
      exact i_enu g1 g2 h3 (sndE a hX h4).pe
    · cases h
  | .zip a b, c, X, t, e, hX, h => by
    simp only [chkI] at h
    split at h
    · obtain ⟨h, h6⟩ := ands h
      obtain ⟨h, h5⟩ := ands h
      obtain ⟨h, h4⟩ := ands h
      obtain ⟨h, h3⟩ := ands h
      obtain ⟨h1, h2⟩ := ands h
      obtain ⟨g1, g2, _, _⟩ := hX.blt h1
      have hy := of_decide_eq_true h2
      subst hy
      exact i_zip g1 g2 h3 h4 (sndE a hX h5).pe (sndE b hX h6).pe
    · cases h
theorem sndT : ∀ (it : IT) {c : SC} {X : Cx} {e : Expr}, XOk pg k c X → chkT pg c it e = true → PG X e (gT (pg.F k) pg.C X.K γ it)
  | .nm i, c, X, e, hX, h => by
    simp only [chkT] at h
    split at h
    · obtain ⟨h1, h2, h3⟩ := storeB_of h
      rw [← hX.N] at h1; rw [← hX.sc] at h2 h3; rw [← hX.fn] at h3
      exact g_nm hX.nd h1 h2 h3
    · cases h
  | .tp ts, c, X, e, hX, h => by
    simp only [chkT] at h
    split at h
    · obtain ⟨a, b⟩ := chkTs_len h
      exact g_tp hX.calm a b (sndTs ts hX h)
    · cases h
  | .sub i a, c, X, e, hX, h => by
    simp only [chkT] at h
    split at h
    · obtain ⟨h12, h3⟩ := ands h
      obtain ⟨h1, h2⟩ := ands h12
      obtain ⟨q1, q2, q3, q4⟩ := slotB_of h1
      rw [← hX.N] at q1; rw [← hX.sc] at q2
      exact g_sub q1 q2 q3 q4 h2 (sndE a hX h3).pe
    · cases h
theorem sndTs : ∀ (its : ITs) {c : SC} {X : Cx} {es : List Expr}, XOk pg k c X → chkTs pg c its es = true → PGs X es (gTs (pg.F k) pg.C X.K γ its)
  | .nil, c, X, es, hX, h => by
    simp only [chkTs] at h
    split at h
    · exact gs_nil
    · cases h
  | .cons t r, c, X, es, hX, h => by
    simp only [chkTs] at h
    split at h
    · obtain ⟨h12, h3⟩ := ands h
      obtain ⟨h1, h2⟩ := ands h12
      exact gs_cons h1 (sndT t hX h2) (sndTs r hX h3)
    · cases h
end
end Rf

set_option Elab.async false
set_option linter.all false
set_option maxRecDepth 100000
set_option maxHeartbeats 4000000
/-! Rf: the checker of statements, and what it lets through. -/
namespace Rf
open PySem PySem.Spec PyProof.Rows L2

def noSD : Expr → Bool
  | .SetComp .. => false
  | .DictComp .. => false
  | _ => true
def noComp : Expr → Bool
  | .SetComp .. => false
  | .DictComp .. => false
  | .ListComp .. => false
  | _ => true
def isTupE : Expr → Bool
  | .Tuple .. => true
  | _ => false
def asgOk : Expr → Expr → Bool
  | .Name .., v => noSD v
  | .Subscript .., _ => true
  | .Tuple .., v => !isTupE v
  | _, _ => false
mutual
def chkS (pg : Pg) : SC → IS → Stmt → Bool
  | c, .asg t e, s => match s with
    | .Assign [tg] v _ => asgOk tg v && chkT pg c t tg && chkE pg c e v
    | _ => false
  | c, .own i e, s => match s with
    | .Assign [.Name x _] v _ => storeB c i x && noSD v && chkE pg c e v
    | _ => false
  | c, .par2 i j u v a b, s => match s with
    | .Assign [.Tuple [.Name x px, .Name y py] _ _] (.Tuple [ea, eb] _ _) _ => storeB c i x && storeB c j y && !(Nat.beq i j) && notStar ea && notStar eb && isFun c.sc && (match sw2 c.sc x y px py ea eb with
        | some true => isLoc c.sc x && isLoc c.sc y
        | some false => true
        | none => false) && chkE pg c a ea && chkE pg c b eb
    | _ => false
  | c, .par3 i j l u v w a b d, s => match s with
    | .Assign [.Tuple [.Name x px, .Name y py, .Name z pz] _ _] (.Tuple [ea, eb, ec] _ _) _ => storeB c i x && storeB c j y && storeB c l z && !(Nat.beq i j) && !(Nat.beq i l) && !(Nat.beq j l) && notStar ea && notStar eb && notStar ec && isFun c.sc && (match sw3 c.sc x y z px py pz ea eb ec with
        | some true => isLoc c.sc x && isLoc c.sc y && isLoc c.sc z
        | some false => true
        | none => false) && chkE pg c a ea && chkE pg c b eb && chkE pg c d ec
    | _ => false
  | c, .ex e, s => match s with
    | .Expr v _ => noComp v && chkE pg c e v
    | _ => false
  | c, .ret e, s => match s with
    | .Return (some v) _ => chkE pg c e v
    | .Return none _ => (match e with | .cst .none => true | _ => false)
    | _ => false
  | c, .ite q a b, s => match s with
    | .If x y z _ => chkE pg c q x && chkSs pg c a y && chkSs pg c b z
    | _ => false
  | c, .fo t it b, s => match s with
    | .For tg iter body [] _ => notSet iter && chkT pg c t tg && chkI pg c it tg iter && chkSs pg c b body
    | _ => false
  | c, .wh q b, s => match s with
    | .While x body [] _ => chkE pg c q x && chkSs pg c b body
    | _ => false
  | _, .pass, s => match s with
    | .Pass _ => true
    | .Expr (.Constant (.str _) _ _) _ => true
    | _ => false
  | _, .brk, s => match s with
    | .Break _ => true
    | _ => false
  | _, .cnt, s => match s with
    | .Continue _ => true
    | _ => false
  | _, .nev, _ => true
def chkSs (pg : Pg) : SC → ISs → List Stmt → Bool
  | _, .nil, ss => match ss with
    | [] => true
    | _ => false
  | c, .cons s r, ss => match ss with
    | st :: rest => chkS pg c s st && chkSs pg c r rest
    | _ => false
end

theorem sw_no {e : Expr} {t : Option Expr} {l : Nat} {env : Env} (h : noComp e = true) : swapsWith e t l env = pure false := by
  cases e <;> first | rfl | cases h
theorem sw_tup {e : Expr} {es : List Expr} {kk : Nat} {p : Pos} {l : Nat} {env : Env} : swapsWithSole [.Tuple es kk p] e l env = pure false := by
  cases e <;> rfl
theorem sw_sub {e a b : Expr} {p : Pos} {l : Nat} {env : Env} : swapsWithSole [.Subscript a b p] e l env = pure false := by
  cases e <;> rfl
theorem ss_tup {e : Expr} {es : List Expr} {kk : Nat} {p : Pos} {env : Env} (h : isTupE e = false) : swappedStores [.Tuple es kk p] e env = pure none := by
  cases e <;> first | rfl | cases h
theorem ss_sub {e a b : Expr} {p : Pos} {env : Env} : swappedStores [.Subscript a b p] e env = pure none := by
  cases e <;> rfl
section
variable {pg : Pg} {k : Nat} {γ : Gam} {c : SC} {X : Cx} {e : Expr} {ie : IE}
/-- a name's store, on whichever line -/
theorem nm_set (hX : XOk pg k c X) {i : Nat} {y : Str} {py pos : Pos} (h : storeB c i y = true) (hn : noSD e = true) (s : Snd X (pg.F k) pg.C γ e ie) : PS X (.Assign [.Name y py] e pos) (tAsg (tE (pg.F k) pg.C X.K γ ie) (gName i)) := by
  obtain ⟨h1, h2, h3⟩ := storeB_of h
  rw [← hX.N] at h1; rw [← hX.sc] at h2 h3; rw [← hX.fn] at h3
  cases hc : noComp e with
  | true => exact ps_set hX.nd h1 h2 s.pe (sw_no hc) h3
  | false =>
    cases e <;> first | (cases hn; done) | (cases hc; done) | skip
    rename_i elt gs scope p
    have key : ∀ b : Bool, swapsWith (.ListComp elt gs scope p) (some (.Name y py)) pos.line X.env = pure b → (b = true → X.env.scope.names.lookup y = some .local) → PS X (.Assign [.Name y py] (.ListComp elt gs scope p) pos) (tAsg (tE (pg.F k) pg.C X.K γ ie) (gName i)) := fun b hb hl => by
      cases b with
      | true => exact s.set rfl h1 (hl rfl) hb
      | false => exact ps_set hX.nd h1 h2 s.pe hb h3
    refine key (X.env.blockKind == .function && X.env.kindOf y == some .local && py.line == p.line && !(scope.names.any fun (n, k) => n == y && (k == .local || k == .cell))) rfl fun z => ?_
    obtain ⟨z, _⟩ := ands z
    obtain ⟨z, _⟩ := ands z
    obtain ⟨_, z⟩ := ands z
    rw [isLoc_eq] at z
    exact isLoc_of z
end
variable {pg : Pg} {k : Nat} {γ : Gam}
theorem nbeq {i j : Nat} (h : (!(Nat.beq i j)) = true) : i ≠ j := fun z => by
  subst z
  have : Nat.beq i i = true := Nat.beq_refl i
  rw [this] at h; cases h
mutual
theorem sndS : ∀ (is : IS) {c : SC} {X : Cx} {s : Stmt}, XOk pg k c X → PassesOwn (model X.prog X.w) X.A X.env X.xe → chkS pg c is s = true → PS X s (tS (pg.F k) pg.C X.K γ is)
  | .asg t e, c, X, s, hX, hp, h => by
    simp only [chkS] at h
    split at h
    · rename_i tg v pos
      obtain ⟨h12, h3⟩ := ands h
      obtain ⟨h1, h2⟩ := ands h12
      have se := sndE (γ := γ) e hX h3
      cases tg with
      | Name x py =>
        cases t with
        | nm i =>
          simp only [chkT] at h2
          exact PS.weak (nm_set hX h2 h1 se) fun D σ H q => nm_red q
        | tp ts => simp only [chkT] at h2; cases h2
        | sub i a => simp only [chkT] at h2; cases h2
      | Subscript o ix sp => exact s_asg sw_sub ss_sub rfl se.pe (sndT t hX h2)
      | Tuple es kk tp => exact s_asg sw_tup (ss_tup (by simpa [asgOk] using h1)) rfl se.pe (sndT t hX h2)
      | _ => simp only [asgOk] at h1; cases h1
    · cases h
  | .own i e, c, X, s, hX, hp, h => by
    simp only [chkS] at h
    split at h
    · obtain ⟨h12, h3⟩ := ands h
      obtain ⟨h1, h2⟩ := ands h12
      exact PS.weak (nm_set hX h1 h2 (sndE (γ := γ) e hX h3)) fun D σ H q => own_red q
    · cases h
  | .par2 i j u v a b, c, X, s, hX, hp, h => by
    simp only [chkS] at h
    split at h
    · obtain ⟨h, h9⟩ := ands h
      obtain ⟨h, h8⟩ := ands h
      obtain ⟨h, h7⟩ := ands h
      obtain ⟨h, h6⟩ := ands h
      obtain ⟨h, h5⟩ := ands h
      obtain ⟨h, h4⟩ := ands h
      obtain ⟨h, h3⟩ := ands h
      obtain ⟨h1, h2⟩ := ands h
      obtain ⟨a1, a2, a3⟩ := storeB_of h1
      obtain ⟨b1, b2, b3⟩ := storeB_of h2
      rw [← hX.N] at a1 b1; rw [← hX.sc] at a2 a3 b2 b3 h6 h7; rw [← hX.fn] at a3 b3
      split at h7
      · rename_i q
        obtain ⟨l1, l2⟩ := ands h7
        exact s_par2 (isFun_of h6) hX.calm hX.nd a1 b1 (nbeq h3) a2 b2 a3 b3 h4 h5 (sndE a hX h8).pe (sndE b hX h9).pe q fun _ => ⟨isLoc_of l1, isLoc_of l2⟩
      · rename_i q
        exact s_par2 (isFun_of h6) hX.calm hX.nd a1 b1 (nbeq h3) a2 b2 a3 b3 h4 h5 (sndE a hX h8).pe (sndE b hX h9).pe q fun z => (nomatch z)
      · cases h7
    · cases h
  | .par3 i j l u v w a b d, c, X, s, hX, hp, h => by
    simp only [chkS] at h
    split at h
    · obtain ⟨h, h14⟩ := ands h
      obtain ⟨h, h13⟩ := ands h
      obtain ⟨h, h12⟩ := ands h
      obtain ⟨h, h11⟩ := ands h
      obtain ⟨h, h10⟩ := ands h
      obtain ⟨h, h9⟩ := ands h
      obtain ⟨h, h8⟩ := ands h
      obtain ⟨h, h7⟩ := ands h
      obtain ⟨h, h6⟩ := ands h
      obtain ⟨h, h5⟩ := ands h
      obtain ⟨h, h4⟩ := ands h
      obtain ⟨h, h3⟩ := ands h
      obtain ⟨h1, h2⟩ := ands h
      obtain ⟨a1, a2, a3⟩ := storeB_of h1
      obtain ⟨b1, b2, b3⟩ := storeB_of h2
      obtain ⟨c1, c2, c3⟩ := storeB_of h3
      rw [← hX.N] at a1 b1 c1; rw [← hX.sc] at a2 a3 b2 b3 c2 c3 h10 h11; rw [← hX.fn] at a3 b3 c3
      split at h11
      · rename_i q
        obtain ⟨l12, l3⟩ := ands h11
        obtain ⟨l1, l2⟩ := ands l12
        exact s_par3 (isFun_of h10) hX.calm hX.nd a1 b1 c1 (nbeq h4) (nbeq h5) (nbeq h6) a2 b2 c2 a3 b3 c3 h7 h8 h9 (sndE a hX h12).pe (sndE b hX h13).pe (sndE d hX h14).pe q fun _ => ⟨isLoc_of l1, isLoc_of l2, isLoc_of l3⟩
      · rename_i q
        exact s_par3 (isFun_of h10) hX.calm hX.nd a1 b1 c1 (nbeq h4) (nbeq h5) (nbeq h6) a2 b2 c2 a3 b3 c3 h7 h8 h9 (sndE a hX h12).pe (sndE b hX h13).pe (sndE d hX h14).pe q fun z => (nomatch z)
      · cases h11
    · cases h
  | .ex e, c, X, s, hX, hp, h => by
    simp only [chkS] at h
    split at h
    · obtain ⟨h1, h2⟩ := ands h
      exact s_ex (sw_no h1) (sndE e hX h2).pe
    · cases h
  | .ret e, c, X, s, hX, hp, h => by
    simp only [chkS] at h
    split at h
    · exact s_ret (sndE e hX h).pe
    · split at h
      · exact s_retN
      · cases h
    · cases h
  | .ite q a b, c, X, s, hX, hp, h => by
    simp only [chkS] at h
    split at h
    · obtain ⟨h12, h3⟩ := ands h
      obtain ⟨h1, h2⟩ := ands h12
      exact s_if (sndE q hX h1).pt (sndSs a hX hp h2) (sndSs b hX hp h3)
    · cases h
  | .fo t it b, c, X, s, hX, hp, h => by
    simp only [chkS] at h
    split at h
    · obtain ⟨h, h4⟩ := ands h
      obtain ⟨h, h3⟩ := ands h
      obtain ⟨h1, h2⟩ := ands h
      exact s_for hp hX.calm h1 (sndI it hX h3) (sndT t hX h2) (sndSs b hX hp h4)
    · cases h
  | .wh q b, c, X, s, hX, hp, h => by
    simp only [chkS] at h
    split at h
    · obtain ⟨h1, h2⟩ := ands h
      exact s_wh hp (sndE q hX h1).pt (sndSs b hX hp h2)
    · cases h
  | .pass, c, X, s, hX, hp, h => by
    simp only [chkS] at h
    split at h
    · exact s_pass
    · exact s_doc
    · cases h
  | .brk, c, X, s, hX, hp, h => by
    simp only [chkS] at h
    split at h
    · exact s_brk
    · cases h
  | .cnt, c, X, s, hX, hp, h => by
    simp only [chkS] at h
    split at h
    · exact s_cnt
    · cases h
  | .nev, c, X, s, hX, hp, h => s_nev
theorem sndSs : ∀ (iss : ISs) {c : SC} {X : Cx} {ss : List Stmt}, XOk pg k c X → PassesOwn (model X.prog X.w) X.A X.env X.xe → chkSs pg c iss ss = true → PSs X ss (tSs (pg.F k) pg.C X.K γ iss)
  | .nil, c, X, ss, hX, hp, h => by
    simp only [chkSs] at h
    split at h
    · exact s_nil
    · cases h
  | .cons s r, c, X, ss, hX, hp, h => by
    simp only [chkSs] at h
    split at h
    · obtain ⟨h1, h2⟩ := ands h
      exact s_cons (sndS s hX hp h1) (sndSs r hX hp h2)
    · cases h
end
end Rf

set_option Elab.async false
set_option linter.all false
set_option maxRecDepth 100000
set_option maxHeartbeats 4000000
/-! Rf: a def keeps its promise. -/
namespace Rf
open PySem PySem.Spec PyProof.Rows L2

section
variable {K : PySem.W.Frag} {γ : Gam} {G H G' H' : Hp} {env : Ev} {σ : L2.St}
theorem ArsR.get {i : Nat} {a : Ar} : ∀ {as : List Ar} {vs : List V} {i : Nat}, ArsR K G H as vs → as[i]? = some a → ∃ v, vs[i]? = some v ∧ ArR K G H a v
  | _, _, _, .nil, h => by simp at h
  | _, _, 0, .cons r _, h => by simp at h; subst h; exact ⟨_, rfl, r⟩
  | _, _, i + 1, .cons _ rr, h => by
    obtain ⟨v, h1, h2⟩ := ArsR.get (i := i) rr (by simpa using h)
    exact ⟨v, by simpa using h1, h2⟩
theorem io_mem {a : Addr} {xs : List D} : ∀ {as : List Ar} {vs : List V} {i : Nat}, as[i]? = some (.io xs) → vs[i]? = some (.ref a) → a ∈ ioAd as vs
  | [], _, _, h, _ => by simp at h
  | _ :: _, [], _, _, h => by simp at h
  | b :: as, v :: vs, 0, h1, h2 => by
    simp at h1 h2
    subst h1; subst h2
    exact List.mem_cons_self
  | b :: as, v :: vs, i + 1, h1, h2 => by
    have := io_mem (as := as) (vs := vs) (i := i) (by simpa using h1) (by simpa using h2)
    cases b with
    | io ys => cases v <;> first | exact List.mem_cons_of_mem _ this | exact this
    | pu d => cases v <;> exact this
    | sc ys => cases v <;> exact this
theorem io_inj {a : Addr} {xs ys : List D} : ∀ {as : List Ar} {vs : List V} {i j : Nat}, (ioAd as vs).Nodup → as[i]? = some (.io xs) → vs[i]? = some (.ref a) → as[j]? = some (.io ys) → vs[j]? = some (.ref a) → i = j
  | [], _, _, _, _, h, _, _, _ => by simp at h
  | _ :: _, [], _, _, _, _, h, _, _ => by simp at h
  | b :: as, v :: vs, 0, 0, _, _, _, _, _ => rfl
  | b :: as, v :: vs, 0, j + 1, nd, h1, h2, h3, h4 => by
    simp at h1 h2
    subst h1; subst h2
    have := io_mem (as := as) (vs := vs) (i := j) (by simpa using h3) (by simpa using h4)
    exact absurd this (List.nodup_cons.mp nd).1
  | b :: as, v :: vs, i + 1, 0, nd, h1, h2, h3, h4 => by
    simp at h3 h4
    subst h3; subst h4
    have := io_mem (as := as) (vs := vs) (i := i) (by simpa using h1) (by simpa using h2)
    exact absurd this (List.nodup_cons.mp nd).1
  | b :: as, v :: vs, i + 1, j + 1, nd, h1, h2, h3, h4 => by
    have nd' : (ioAd as vs).Nodup := by
      cases b with
      | io ys => cases v <;> first | exact (List.nodup_cons.mp nd).2 | exact nd
      | pu d => cases v <;> exact nd
      | sc ys => cases v <;> exact nd
    exact congrArg Nat.succ (io_inj nd' (by simpa using h1) (by simpa using h2) (by simpa using h3) (by simpa using h4))
theorem slOf_get : ∀ {as : List Ar} {t i : Nat} {s : Sl}, (slOf t as)[i]? = some s → ∃ a, as[i]? = some a ∧ s = (match a with | .pu d => .val d | .io xs => .own (t + i + 1) xs | .sc xs => .scr (t + i + 1) xs)
  | [], _, _, _, h => by simp [slOf] at h
  | a :: as, t, 0, s, h => by
    cases a <;> simp [slOf] at h <;> exact ⟨_, rfl, h.symm⟩
  | a :: as, t, i + 1, s, h => by
    have h' : (slOf (t + 1) as)[i]? = some s := by cases a <;> simpa [slOf] using h
    obtain ⟨b, h1, h2⟩ := slOf_get h'
    refine ⟨b, by simpa using h1, ?_⟩
    rw [h2]
    have e : t + 1 + i + 1 = t + (i + 1) + 1 := by omega
    cases b <;> simp only [e]
theorem slOf_len : ∀ (as : List Ar) (t : Nat), (slOf t as).length = as.length
  | [], _ => rfl
  | a :: as, t => by cases a <;> simp [slOf, slOf_len as (t + 1)]
/-- where the lists handed in stand -/
def tauOf (vs : List V) (t : Nat) : Addr := match vs[t - 1]? with
  | some (.ref a) => a
  | _ => 0
theorem entry_ok {as : List Ar} {vs : List V} {n : Nat} {N : List Str} (sub : Sub G H) (ar : ArsR K G H as vs) (nd : (ioAd as vs).Nodup) (hN : N.length = n) (hv : vs.length ≤ n) :
    Sr K ⟨tauOf vs, H⟩ G H (slOf 0 as ++ List.replicate (n - vs.length) .emp) (start N vs) ∧ ∀ a, Ow (slOf 0 as ++ List.replicate (n - vs.length) .emp) (start N vs) a → a ∈ ioAd as vs := by
  have la := ar.length
  have at1 : ∀ {i : Nat} {s : Sl}, (slOf 0 as ++ List.replicate (n - vs.length) Sl.emp)[i]? = some s → s = .emp ∨ ∃ a v, as[i]? = some a ∧ vs[i]? = some v ∧ ArR K G H a v ∧ (start N vs)[i]? = some (some v) ∧ s = (match a with | .pu d => .val d | .io xs => .own (i + 1) xs | .sc xs => .scr (i + 1) xs) := fun {i s} h => by
    by_cases hi : i < (slOf 0 as).length
    · rw [List.getElem?_append_left hi] at h
      obtain ⟨a, h1, h2⟩ := slOf_get h
      obtain ⟨v, h3, h4⟩ := ar.get (i := 0) h1
      refine .inr ⟨a, v, h1, h3, h4, ?_, by rw [h2]; cases a <;> simp⟩
      unfold L2.start
      rw [List.getElem?_append_left (by rw [List.length_map, ← la, ← slOf_len as 0]; exact hi), List.getElem?_map, h3]
      rfl
    · rw [List.getElem?_append_right (by omega), List.getElem?_replicate] at h
      split at h
      · cases h; exact .inl rfl
      · cases h
  have own1 : ∀ {i : Nat} {a : Addr}, OwnAt (slOf 0 as ++ List.replicate (n - vs.length) Sl.emp) (start N vs) i a → ∃ xs, as[i]? = some (.io xs) ∧ vs[i]? = some (.ref a) := fun {i a} ⟨⟨t, xs, h⟩, h'⟩ => by
    rcases at1 h with z | ⟨b, v, h1, h2, h3, h4, h5⟩
    · cases z
    · rw [h4] at h'
      cases h'
      cases b <;> simp only at h5 <;> cases h5
      exact ⟨_, h1, h2⟩
  refine ⟨⟨sub, ?_, fun i s h => ?_, fun i j a h h' => ?_⟩, fun a ⟨i, h⟩ => ?_⟩
  · unfold L2.start
    rw [List.length_append, List.length_append, slOf_len, List.length_replicate, List.length_map, List.length_replicate, la, hN]
  · rcases at1 h with z | ⟨b, v, h1, h2, h3, h4, h5⟩
    · subst z; trivial
    · subst h5
      cases b with
      | pu d => exact ⟨v, h4, h3⟩
      | io xs =>
        obtain ⟨a, ys, rfl, q1, q2, q3⟩ := h3
        refine ⟨a, ys, h4, q1, q2, q3, fun z => (nomatch z), fun _ => ?_⟩
        show a = tauOf vs (i + 1)
        unfold tauOf
        rw [Nat.add_sub_cancel, h2]
      | sc xs =>
        obtain ⟨a, ys, rfl, q1, q2⟩ := h3
        exact ⟨a, ys, h4, q1, q2⟩
  · obtain ⟨xs, q1, q2⟩ := own1 h
    obtain ⟨ys, q3, q4⟩ := own1 h'
    exact io_inj nd q1 q2 q3 q4
  · obtain ⟨xs, q1, q2⟩ := own1 h
    exact io_mem q1 q2
theorem outs_ok {e : Ev} {σ' : L2.St} {G0 H0 : Hp} (s : Sr K γ G' H' e σ') : ∀ {as : List Ar} {vs : List V} {t : Nat} {outs : List (List D)}, ArsR K G0 H0 as vs → (∀ (j : Nat) (a : Addr), vs[j]? = some (.ref a) → γ.τ (t + j + 1) = a) → outsOf e t as = some outs → OutsR K G' H' (ioAd as vs) outs
  | _, _, _, _, .nil, _, h => by simp only [outsOf] at h; cases h; exact .nil
  | _, _, t, outs, .cons (a := b) (x := v) (as := as) (xs := vs) r rr, hτ, h => by
    have hτ' : ∀ (j : Nat) (a : Addr), vs[j]? = some (.ref a) → γ.τ (t + 1 + j + 1) = a := fun j a q => by
      have := hτ (j + 1) a (by simpa using q)
      have e1 : t + (j + 1) + 1 = t + 1 + j + 1 := by omega
      rw [e1] at this
      exact this
    cases b with
    | pu d =>
      simp only [outsOf] at h
      have := outs_ok s rr hτ' h
      cases v <;> exact this
    | sc xs =>
      simp only [outsOf] at h
      have := outs_ok s rr hτ' h
      cases v <;> exact this
    | io xs =>
      simp only [outsOf] at h
      split at h
      · rename_i u ys xss h1 h2
        split at h
        · rename_i hu
          cases h
          obtain ⟨a, zs, rfl, _⟩ := r
          obtain ⟨a', ws, q1, q2, q3, q4, q5, q6⟩ := s.slot t _ h1
          have e1 : a' = γ.τ u := q6 (by omega)
          have e2 := hτ 0 a rfl
          have e3 : a' = a := by rw [e1, hu, ← e2]
          subst e3
          exact .cons q2 q3 q4 (outs_ok s rr hτ' h2)
        · cases h
      · cases h
theorem rv_ok {e : Ev} {σ' : L2.St} {x : V} {o : Opd} {rv : Rv} (s : Sr K γ G' H' e σ') (r : OpdR K G' H' e σ' H x o) (h : rvOf e o = some rv) (h0 : γ.h0 = H) : RvR K G' H' H x rv := by
  cases o with
  | pu d => simp only [rvOf] at h; cases h; exact r
  | fr xs =>
    simp only [rvOf] at h; cases h
    obtain ⟨a, ys, q1, q2, q3, q4, _, q5⟩ := r
    exact ⟨a, ys, q1, q2, q3, q4, q5⟩
  | fo xs => simp only [rvOf] at h; cases h
  | bo i =>
    have r' : σ'[i]? = some (some x) := r
    simp only [rvOf] at h
    split at h
    · rename_i xs q
      cases h
      obtain ⟨a, ys, w1, w2, w3, w4, w5, _⟩ := s.slot i _ q
      rw [r'] at w1; cases w1
      exact ⟨a, ys, rfl, w2, w3, w4, by rw [← h0]; exact w5 rfl⟩
    · cases h
end

theorem guards_deeper {A : Around} {env : Env} : (A.deeper env).guards = A.guards := by
  first | rfl | simp [Around.deeper]
theorem fnG_of {pg : Pg} {P : Program} {w : World} {K : PySem.W.Frag} {mg : Str → Option Value} {base : Heap} {k fi : Nat} {f : Addr} {name qual : Str} {params : Arguments} {body : List Stmt} {scope : Scope} {dV kV doc pm cdv ct oc : Value} {an od : Option Addr}
    {osl : Array (Option Value)} {N ps : List Str} {fn : Fn} (lk : K.lookup f = some ⟨oc, od, .func (PySem.W.fnOf name qual params body scope dV kV doc pm an cdv ct), osl⟩) (hcd : PySem.W.codeIn K cdv qual = true) (S : FnScope N ps scope)
    (hfn : pg.T[fi]? = some fn) (hnp : fn.np = ps.length) (hns : fn.ns = N.length) (hchk : chkSs pg ⟨N, scope, fun _ => true⟩ fn.body body = true) (hpg : PgOk pg k P w K mg base) :
    FnG P w K mg base (k + 1) f (PySem.W.fnOf name qual params body scope dV kV doc pm an cdv ct) ps (spF K (pg.F (k + 1)) fi ps.length) := by
  refine ⟨fun vs H Q E ⟨_, _, _, _, _, _, _, _, hl, _⟩ => hl, fun A outer s H args us vs Q E hr hgd e0 hb r hsp => ?_⟩
  obtain ⟨G, as, rv, outs, sub, ar, nd, hF, hl, cont⟩ := hsp
  have KX : K.In s.heap := e0.mod.kin.keeps fun b o e => (e0.bs b o e).1
  have lim : s.heap.NoLimit := e0.mod.nolimit.keeps fun b o e => (e0.bs b o e).1
  have hkind : ∀ y ∈ ps.zip us, scope.names.lookup y.1 = some .local ∨ (scope.names.lookup y.1 = some .cell ∧ ((cellsFrom (s.heap.objs.size + 1) scope.names []).lookup y.1).isSome = true) := fun ⟨n, v⟩ hy => by
    rcases S.par n (List.of_mem_zip hy).1 with q | q
    · exact .inl q
    · exact .inr ⟨q, PySem.W.cellsFrom_some _ _ _ (.inl q)⟩
  refine codeAny_call_function hr.depth (KX _ _ lk) rfl S.co S.gen rfl (PySem.W.codeRec_of KX hcd) (hb _ _ _ _ ?_)
  refine wpAny_newFunctionEnv_cells S.kind hkind fun env he s1 x => ?_
  subst he
  refine ⟨lim.keeps x.toInCall.keep, codeAny_func ?_⟩
  have I : Inv (cxOf (fun _ _ _ _ _ _ => False) P w K mg base N qual scope f cdv A outer s H (fun _ _ _ => False)) [] (start N vs) H s1 := inv_start S hr.hd e0 hl r x
  -- the run
  have hF' : callN pg.C pg.T (k + 1) fi as = some (rv, outs) := hF
  simp only [callN, hfn] at hF'
  simp only [runF] at hF'
  have hpl : ps.length ≤ N.length := by have := congrArg List.length S.pre; rw [List.length_take] at this; omega
  split at hF'
  · rename_i hnl
    split at hF'
    · rename_i fl hev
      have hX : XOk pg k ⟨N, scope, fun _ => true⟩ (cxOf (fun _ _ _ _ _ _ => False) P w K mg base N qual scope f cdv A outer s H (fun _ _ _ => False)) :=
        ⟨rfl, S.nd, rfl, rfl, rfl, hr.deeper _, by show (A.deeper _).guards = _; rw [guards_deeper]; exact hgd, hpg⟩
      have hp : PassesOwn (model P w) (A.deeper (envOfC qual scope s.heap.objs.size f cdv)) (envOfC qual scope s.heap.objs.size f cdv) (cxOf (fun _ _ _ _ _ _ => False) P w K mg base N qual scope f cdv A outer s H (fun _ _ _ => False)).xe := PassesOwn.leaving
      have ss := sndSs (γ := ⟨tauOf vs, H⟩) fn.body hX hp hchk
      obtain ⟨sr, own⟩ := entry_ok (N := N) sub ar nd rfl (by rw [hl]; exact hpl)
      have ens : fn.ns - fn.np = N.length - vs.length := by rw [hns, hnp, hl]
      rw [ens] at hev
      have hτ : ∀ (j : Nat) (a : Addr), vs[j]? = some (.ref a) → tauOf vs (0 + j + 1) = a := fun j a q => by
        unfold tauOf
        rw [Nat.zero_add, Nat.add_sub_cancel, q]
      have cq : ∀ {G' H' : Hp} {e' : Ev} {σ' : L2.St} {x : V} {os : List (List D)} {rv' : Rv}, Sr K ⟨tauOf vs, H⟩ G' H' e' σ' → Step (Ow (slOf 0 as ++ List.replicate (N.length - vs.length) Sl.emp) (start N vs)) G H (Ow e' σ') G' H' → outsOf e' 0 as = some os → RvR K G' H' H x rv' → CallQ K G H (ioAd as vs) os rv' G' H' x := fun {G' H' e' σ' x os rv'} s' st' ho hr' =>
        ⟨s'.sub, st'.g, fun a ob h n => st'.h a ob h fun z => n (own a z), fun a h1 h2 n => st'.n a h1 h2 fun z => n (own a z), st'.f, outs_ok s' ar hτ ho, hr'⟩
      have hq : tSs (pg.F k) pg.C K ⟨tauOf vs, H⟩ fn.body { nx := fun _ H' => Q .non H', rt := Q } (start N vs) H := by
        refine ⟨G, _, fl, fun _ h => h, sr, hev, ?_⟩
        cases fl with
        | nx e' =>
          simp only [finF] at hF'
          split at hF'
          · rename_i os ho
            cases hF'
            exact fun G' H' σ' s' st' => cont G' H' _ (cq s' st' ho .non)
          · cases hF'
        | rt o e' =>
          simp only [finF] at hF'
          split at hF'
          · rename_i rv' os hr' ho
            cases hF'
            exact fun G' H' σ' x s' st' ro => cont G' H' x (cq s' st' ho (rv_ok s' ro hr' rfl))
          · cases hF'
        | bk e' => simp only [finF] at hF'; cases hF'
        | ct e' => simp only [finF] at hF'; cases hF'
      refine wpAny_mono (ss.run [] s1 (start N vs) H _ I hq) (fun fl' s' hs => ?_) fun e s' hs => hs
      have fin : ∀ {σ' : L2.St} {H' : Hp} {v : V} {u : Value}, Inv (cxOf (fun _ _ _ _ _ _ => False) P w K mg base N qual scope f cdv A outer s H (fun _ _ _ => False)) [] σ' H' s' → RelV v u → Q v H' → CE outer P w H s Q u s' :=
        fun {σ' H' v u} J rv q => ⟨v, H', J.os, J.bare, J.base, J.hok, rv, q⟩
      cases fl' with
      | ret u =>
        obtain ⟨v, σ', H', J, rv, q⟩ := hs
        exact fin J rv q
      | next =>
        obtain ⟨σ', H', J, q⟩ := hs
        exact fin (v := V.non) (u := Value.none) J rfl q
      | brk =>
        obtain ⟨_, _, _, q⟩ := hs
        exact False.elim q
      | cont =>
        obtain ⟨_, _, _, q⟩ := hs
        exact False.elim q
    · cases hF'
  · cases hF'
end Rf

set_option Elab.async false
set_option linter.all false
set_option maxRecDepth 100000
set_option maxHeartbeats 4000000
/-! Rf: a whole program's defs keep their promises; the law's end. -/
namespace Rf
open PySem PySem.Spec PyProof.Rows L2

/-! ### binding -/
theorem look_none {n : Str} : ∀ {ps : List Str} {us : List Value}, n ∉ ps → (ps.zip us).lookup n = none
  | [], _, _ => rfl
  | _ :: _, [], _ => rfl
  | p :: ps, u :: us, h => by
    simp only [List.mem_cons, not_or] at h
    rw [List.zip_cons_cons, List.lookup_cons, beq_false_of_ne h.1]
    exact look_none h.2
theorem look_some {n : Str} : ∀ {ps : List Str} {us : List Value}, us.length = ps.length → n ∈ ps → ((ps.zip us).lookup n).isNone = false
  | [], _, _, h => by cases h
  | _ :: _, [], h, _ => by simp at h
  | p :: ps, u :: us, h, hm => by
    rw [List.zip_cons_cons, List.lookup_cons]
    by_cases q : n = p
    · subst q; simp
    · rw [beq_false_of_ne q]
      exact look_some (by simpa using h) ((List.mem_cons.mp hm).elim (fun z => absurd z q) id)
theorem fm_congr {α β : Type} {f g : α → Option β} : ∀ {l : List α}, (∀ a ∈ l, f a = g a) → l.filterMap f = l.filterMap g
  | [], _ => rfl
  | a :: l, h => by
    rw [List.filterMap_cons, List.filterMap_cons, h a List.mem_cons_self, fm_congr fun b hb => h b (List.mem_cons_of_mem _ hb)]
theorem look_zip : ∀ {ps : List Str} {us : List Value}, ps.Nodup → us.length = ps.length → ps.filterMap (fun n => ((ps.zip us).lookup n).map (n, ·)) = ps.zip us
  | [], us, _, _ => rfl
  | _ :: _, [], _, h => by simp at h
  | p :: ps, u :: us, nd, h => by
    obtain ⟨n1, n2⟩ := List.nodup_cons.mp nd
    rw [List.zip_cons_cons, List.filterMap_cons, List.lookup_cons, beq_self_eq_true]
    simp only [Option.map_some]
    congr 1
    refine Eq.trans (fm_congr fun n hn => ?_) (look_zip n2 (by simpa using h))
    have ne : n ≠ p := fun z => by subst z; exact n1 hn
    rw [List.lookup_cons, beq_false_of_ne ne]
theorem bind_pos {fd : FuncData} {as : List Arg} {kd : List (Option Expr)} (hp : fd.params = ⟨[], as, none, [], kd, none, []⟩) (hd : fd.defaults = .none) (nd : (as.map (·.arg)).Nodup) (us : List Value) (hl : us.length = as.length) :
    bindArgs fd ⟨us, []⟩ = pure ((as.map (·.arg)).zip us) := by
  have hl' : us.length = (as.map (·.arg)).length := by rw [List.length_map]; exact hl
  have h1 := look_zip nd hl'
  have h2 : ((as.map (·.arg)).take as.length).filter (fun n => (((as.map (·.arg)).zip us).lookup n).isNone) = [] := by
    rw [List.filter_eq_nil_iff]
    intro n hn
    rw [look_some hl' (List.mem_of_mem_take hn)]
    decide
  unfold bindArgs
  simp only [hp, hd]
  rw [show seqItems? Value.none = pure none from rfl]
  simp [hl, List.map_nil, List.nil_append, List.length_map, List.drop_nil, h2]
  rw [List.filterMap_map] at h1
  rw [h1]

/-! ### rows of defs -/
/-- a def: its name, parameters, body, scope, its names by slot, its IR -/
structure DR where
  x : Str
  a : Arguments
  b : List Stmt
  sc : Scope
  N : List Str
  fn : Fn
def DR.ps (d : DR) : List Str := d.a.args.map (·.arg)
def DR.D (d : DR) : He.DefD := ⟨(d.x, none), d.x, d.x, d.a, d.b, d.sc, [], []⟩
def findDef (x : Str) : List Stmt → Option (Arguments × List Stmt × Scope)
  | [] => none
  | .FunctionDef n a b _ _ _ sc _ _ _ :: r => if n = x then some (a, b, sc) else findDef x r
  | _ :: r => findDef x r
def mkDR (body : List Stmt) (q : Str × List Str × Fn) : DR := match findDef q.1 body with
  | some (a, b, sc) => ⟨q.1, a, b, sc, q.2.1, q.2.2⟩
  | none => ⟨q.1, ⟨[], [], none, [], [], none, []⟩, [], ⟨.function, [], false, false, []⟩, q.2.1, q.2.2⟩
def mkPg (drs : List DR) (gl : List (Str × D)) (bn : List Str) (gcd : Bool) (kws : List (Nat × List Str × List Nat)) : Pg := ⟨drs.map fun d => (d.x, d.ps, d.fn), gl, bn, gcd, kws⟩
def plainArgs (a : Arguments) : Bool := match a with
  | ⟨[], _, none, [], _, none, []⟩ => true
  | _ => false
def strNodup : List Str → Bool
  | [] => true
  | x :: r => !r.contains x && strNodup r
theorem strNodup_ok : ∀ {l : List Str}, strNodup l = true → l.Nodup
  | [], _ => .nil
  | x :: r, h => by
    obtain ⟨h1, h2⟩ := ands h
    refine List.nodup_cons.mpr ⟨fun z => ?_, strNodup_ok h2⟩
    simp [z] at h1
def chkDR (pg : Pg) (d : DR) : Bool :=
  plainArgs d.a && isFun d.sc && !d.sc.isCoroutine && !d.sc.isGenerator && strNodup d.N && decide (d.N.take d.ps.length = d.ps) && (d.ps.all fun x => match d.sc.names.lookup x with
    | some .local => true
    | some .cell => true
    | _ => false) && (d.sc.names.all fun y => match y.2 with
    | .free => false
    | _ => true) && Nat.beq d.fn.np d.ps.length && Nat.beq d.fn.ns d.N.length && chkSs pg ⟨d.N, d.sc, fun _ => true⟩ d.fn.body d.b
def KwAll (drs : List DR) : List (Nat × List Str × List Nat) → Prop
  | [] => True
  | (f, ks, p) :: r => (∃ d, drs[f]? = some d ∧ ∀ (kV doc pm : Value) (an : Option Addr) (cdv ct : Value) (ws : List Value), ws.length = ks.length → ∃ us, pick ws p = some us ∧ bindArgs (PySem.W.fnOf d.x d.x d.a d.b d.sc .none kV doc pm an cdv ct) ⟨[], ks.zip ws⟩ = pure (d.ps.zip us)) ∧ KwAll drs r
theorem KwAll.get {drs : List DR} : ∀ {l : List (Nat × List Str × List Nat)} {f : Nat} {ks : List Str} {p : List Nat}, KwAll drs l → (f, ks, p) ∈ l → ∃ d, drs[f]? = some d ∧ ∀ (kV doc pm : Value) (an : Option Addr) (cdv ct : Value) (ws : List Value), ws.length = ks.length → ∃ us, pick ws p = some us ∧ bindArgs (PySem.W.fnOf d.x d.x d.a d.b d.sc .none kV doc pm an cdv ct) ⟨[], ks.zip ws⟩ = pure (d.ps.zip us)
  | [], _, _, _, _, h => by cases h
  | (f, ks, p) :: r, _, _, _, k, h => by
    rcases List.mem_cons.mp h with e | h
    · cases e; exact k.1
    · exact KwAll.get k.2 h

/-! ### constants -/
mutual
def dvB (K : PySem.W.Frag) : D → Value → Bool
  | .none, .none => true
  | .bool a, .bool b => a == b
  | .int i, .int j _ => decide (i = j)
  | .str x, .str y _ => decide (x = y)
  | .tuple ds, .ref a => (match K.lookup a with
    | some ⟨.type c, _, .seq its _, _⟩ => decide (c = "tuple") && (decide (its.size ≤ sizeLine) && dvAll K ds its.toList)
    | _ => false)
  | _, _ => false
def dvAll (K : PySem.W.Frag) : List D → List Value → Bool
  | [], [] => true
  | d :: ds, u :: us => dvB K d u && dvAll K ds us
  | _, _ => false
end
mutual
theorem dv_ok {K : PySem.W.Frag} : ∀ (d : D) {u : Value}, dvB K d u = true → ∃ v, RelV v u ∧ ∀ G, Pu K G d v
  | .none, u, h => by
    cases u <;> simp only [dvB] at h <;> first | (cases h; done) | exact ⟨.non, rfl, fun _ => .non⟩
  | .bool a, u, h => by
    cases u <;> simp only [dvB] at h <;> first | (cases h; done) | skip
    have e := eq_of_beq h
    subst e
    exact ⟨.bl _, rfl, fun _ => .bl _⟩
  | .int i, u, h => by
    cases u <;> simp only [dvB] at h <;> first | (cases h; done) | skip
    have e := of_decide_eq_true h
    subst e
    exact ⟨.int _, ⟨_, rfl⟩, fun _ => .int _⟩
  | .str i, u, h => by
    cases u <;> simp only [dvB] at h <;> first | (cases h; done) | skip
    have e := of_decide_eq_true h
    subst e
    exact ⟨.str _, ⟨_, rfl⟩, fun _ => .str _⟩
  | .list ds, u, h => by simp only [dvB] at h; cases h
  | .dict ds, u, h => by simp only [dvB] at h; cases h
  | .tuple ds, u, h => by
    cases u <;> simp only [dvB] at h <;> first | (cases h; done) | skip
    rename_i a
    split at h
    · rename_i c od its n sl q
      obtain ⟨h1, h2⟩ := ands h
      obtain ⟨h2, h3⟩ := ands h2
      obtain ⟨vs, r, p⟩ := dvAll_ok ds h3
      exact ⟨.ref a, rfl, fun G => .tup (.inr ⟨_, its, n, q, congrArg Value.type (of_decide_eq_true h1), rfl, of_decide_eq_true h2, r⟩) (p G)⟩
    · cases h
theorem dvAll_ok {K : PySem.W.Frag} : ∀ (ds : List D) {us : List Value}, dvAll K ds us = true → ∃ vs, Vals vs us ∧ ∀ G, PuA K G ds vs
  | [], us, h => by
    cases us <;> simp only [dvAll] at h <;> first | (cases h; done) | exact ⟨[], .nil, fun _ => .nil⟩
  | d :: ds, us, h => by
    cases us <;> simp only [dvAll] at h <;> first | (cases h; done) | skip
    obtain ⟨h1, h2⟩ := ands h
    obtain ⟨v, r, p⟩ := dv_ok d h1
    obtain ⟨vs, rs, ps⟩ := dvAll_ok ds h2
    exact ⟨v :: vs, .cons r rs, fun G => .cons (p G) (ps G)⟩
end

/-! ### the Hook -/
open He in
def chkK (pg : Pg) (K : PySem.W.Frag) : Bool := (pg.fns.all fun q => eqO (PySem.W.nsIn K mainGlobals q.1) (some (some (.ref (ga K q.1))))) && (pg.bn.all fun x => eqO (PySem.W.nsIn K mainGlobals x) (some none)) &&
  (!pg.gcd || eqO (PySem.W.nsIn K mainGlobals "gcd") (some (some (.builtin "math.gcd")))) && (pg.gl.all fun q => match PySem.W.nsIn K mainGlobals q.1 with
    | some (some v) => dvB K q.2 v
    | _ => false)
open He in
def obsR (pg : Pg) (fn : List DefD) (K : PySem.W.Frag) : AlD := (chkK pg K && fn.all fun d => d.ok K, fn.map fun d => fnW K d.at_)
open He in
def hookR (n : Nat) (pg : Pg) (fn : List DefD) : PySem.W.Hook where
  α := AlD
  obs := fun s => obsR pg fn (frG s.heap.get? (asD s.heap.get? n))
  val := fun _ => valD fn
  says := fun _ h => ∃ K : PySem.W.Frag, K.In h ∧ obsR pg fn K = valD fn
  of := fun _ _ e => ⟨_, frG_in, e⟩
  keeps := fun _ _ _ ⟨K, hK, c⟩ k => ⟨K, PySem.W.Frag.In.keeps hK k, c⟩
open He in
def obR (n : Nat) (pg : Pg) (fn : List DefD) (s : PySem.W.SharedT) : AlD := obsR pg fn (frG (HandSHeadRun.getT s) (asD (HandSHeadRun.getT s) n))
theorem obR_eq {n : Nat} {pg : Pg} {fn : List He.DefD} (s : PySem.W.SharedT) : obR n pg fn s = (hookR n pg fn).obs s.abs := by
  have e : HandSHeadRun.getT s = s.abs.heap.get? := funext (HandSHeadRun.getT_eq s)
  unfold obR
  rw [e]
  rfl
section
variable {pg : Pg} {fn : List He.DefD} {K : PySem.W.Frag}
theorem says_chk (c : obsR pg fn K = He.valD fn) : chkK pg K = true := (ands (show (chkK pg K && fn.all fun d => d.ok K) = true from congrArg (fun z : He.AlD => z.1) c)).1
theorem says_def (c : obsR pg fn K = He.valD fn) {i : Nat} {d : He.DefD} (h : fn[i]? = some d) : ∃ fd, FunD K d.name d.qual d.params d.body d.scope (d.dvs K) (d.kws K) (He.fAd K d.at_) fd := by
  have c2 := (ands (show (chkK pg K && fn.all fun d => d.ok K) = true from congrArg (fun z : He.AlD => z.1) c)).2
  have e : fn.map (fun d => He.fnW K d.at_) = fn.map He.DefD.val := congrArg (fun z : He.AlD => z.2) c
  have e2 : (fn.map fun d => He.fnW K d.at_)[i]? = (fn.map He.DefD.val)[i]? := by rw [e]
  rw [List.getElem?_map, List.getElem?_map, h] at e2
  exact He.DefD.funD (Option.some.inj e2) (List.all_eq_true.mp c2 d (List.mem_of_getElem? h))
end

/-! ### every def keeps its promise -/
theorem fn_zero {pg : Pg} {P : Program} {w : World} {K : PySem.W.Frag} {mg : Str → Option Value} {base : Heap} {a : Addr} {fd : FuncData} {f : Nat} {ps : List Str} : FnG P w K mg base 0 a fd ps (spF K (pg.F 0) f ps.length) :=
  ⟨fun vs H Q E ⟨_, _, _, _, _, _, _, _, hl, _⟩ => hl, fun A outer s H args us vs Q E _ _ _ _ _ ⟨_, _, _, _, _, _, _, hF, _⟩ => by cases hF⟩
theorem fn_succ {pg : Pg} {P : Program} {w : World} {K : PySem.W.Frag} {mg : Str → Option Value} {base : Heap} {fd : FuncData} {f k : Nat} {d : DR} (F : FunD K d.x d.x d.a d.b d.sc [] [] (He.ga K d.x) fd) (hck : chkDR pg d = true) (hT : pg.T[f]? = some d.fn) (ih : PgOk pg k P w K mg base) :
    FnG P w K mg base (k + 1) (He.ga K d.x) fd d.ps (spF K (pg.F (k + 1)) f d.ps.length) := by
  obtain ⟨oc, od, dV, kV, doc, pm, an, cdv, ct, osl, efd, lk, hcd, hD, hK⟩ := F.ex
  subst efd
  unfold chkDR at hck
  simp only [Bool.and_eq_true] at hck
  obtain ⟨⟨⟨⟨⟨⟨⟨⟨⟨⟨k1, k2⟩, k3⟩, k4⟩, k5⟩, k6⟩, k7⟩, k8⟩, k9⟩, k10⟩, k11⟩ := hck
  have S : FnScope d.N d.ps d.sc := by
    refine ⟨isFun_of k2, by simpa using k3, by simpa using k4, strNodup_ok k5, of_decide_eq_true k6, fun x hx => ?_, fun y hy z => ?_⟩
    · have q := List.all_eq_true.mp k7 x hx
      split at q
      · rename_i e; exact .inl e
      · rename_i e; exact .inr e
      · cases q
    · have q := List.all_eq_true.mp k8 y hy
      rw [z] at q
      cases q
  exact fnG_of lk hcd S hT (Nat.eq_of_beq_eq_true k9) (Nat.eq_of_beq_eq_true k10) k11 ih
theorem pgOk {drs : List DR} {gl : List (Str × D)} {bn : List Str} {gcd : Bool} {kws : List (Nat × List Str × List Nat)} {P : Program} {w : World} {K : PySem.W.Frag} {mg : Str → Option Value} {base h : Heap} (X : K.In h) (G : h.Ns mainGlobals mg)
    (c : obsR (mkPg drs gl bn gcd kws) (drs.map DR.D) K = He.valD (drs.map DR.D)) (hchk : drs.all (chkDR (mkPg drs gl bn gcd kws)) = true) (hkw : KwAll drs kws) : ∀ k, PgOk (mkPg drs gl bn gcd kws) k P w K mg base := by
  have cc := says_chk c
  unfold chkK at cc
  obtain ⟨cc, c4⟩ := ands cc
  obtain ⟨cc, c3⟩ := ands cc
  obtain ⟨c1, c2⟩ := ands cc
  have key : ∀ k, (∀ (f : Nat) (d : DR), drs[f]? = some d → ∀ fd, FunD K d.x d.x d.a d.b d.sc [] [] (He.ga K d.x) fd → FnG P w K mg base k (He.ga K d.x) fd d.ps (spF K ((mkPg drs gl bn gcd kws).F k) f d.ps.length)) → PgOk (mkPg drs gl bn gcd kws) k P w K mg base := fun k hF => by
    refine ⟨fun n y d hq => ?_, fun x hx => ?_, fun hg => ?_, fun f x ps fn hq => ?_⟩
    · have q := List.all_eq_true.mp c4 (y, d) (List.mem_of_getElem? hq)
      dsimp only at q
      split at q
      · rename_i v e
        obtain ⟨v', r, p⟩ := dv_ok d q
        exact ⟨v', v, PySem.W.mg_of X G e, r, p⟩
      · cases q
    · exact PySem.W.mg_none_of X G (He.eqO_ok (List.all_eq_true.mp c2 x hx))
    · have hg' : gcd = true := hg
      have q : (!gcd || He.eqO (PySem.W.nsIn K mainGlobals "gcd") (some (some (.builtin "math.gcd")))) = true := c3
      rw [hg'] at q
      exact PySem.W.mg_of X G (He.eqO_ok q)
    · have hq' : (drs.map fun d => (d.x, d.ps, d.fn))[f]? = some (x, ps, fn) := hq
      rw [List.getElem?_map] at hq'
      obtain ⟨d, hd, e⟩ := Option.map_eq_some_iff.mp hq'
      cases e
      obtain ⟨fd, F⟩ := says_def c (i := f) (d := d.D) (by rw [List.getElem?_map, hd]; rfl)
      have F' : FunD K d.x d.x d.a d.b d.sc [] [] (He.ga K d.x) fd := F
      have hck := List.all_eq_true.mp hchk d (List.mem_of_getElem? hd)
      unfold chkDR at hck
      simp only [Bool.and_eq_true] at hck
      obtain ⟨⟨⟨⟨⟨⟨⟨⟨⟨⟨k1, k2⟩, k3⟩, k4⟩, k5⟩, k6⟩, k7⟩, k8⟩, k9⟩, k10⟩, k11⟩ := hck
      have hnp : d.fn.np = d.ps.length := Nat.eq_of_beq_eq_true k9
      have q := List.all_eq_true.mp c1 (d.x, d.ps, d.fn) (List.mem_map.mpr ⟨d, List.mem_of_getElem? hd, rfl⟩)
      refine ⟨He.ga K d.x, fd, PySem.W.mg_of X G (He.eqO_ok q), F'.kp, hnp, ⟨fun s us _ hl => ?_, fun ks p hm s ws _ hl => ?_⟩, hF f d hd fd F'⟩
      · have nd : d.ps.Nodup := by
          have e := of_decide_eq_true k6
          rw [← e]
          exact (strNodup_ok k5).sublist (List.take_sublist _ _)
        refine FunD.bindsA (ps := d.ps) F' (fun kV doc pm an cdv ct us' hl' => ?_) s us hl
        have ha : ∃ as kd, d.a = ⟨[], as, none, [], kd, none, []⟩ := by
          unfold plainArgs at k1
          split at k1
          · rename_i as kd e; exact ⟨as, kd, e⟩
          · cases k1
        obtain ⟨as, kd, ha⟩ := ha
        have e1 : d.ps = as.map (·.arg) := by unfold DR.ps; rw [ha]
        rw [e1] at hl' nd ⊢
        exact bind_pos (kd := kd) (show (PySem.W.fnOf d.x d.x d.a d.b d.sc .none kV doc pm an cdv ct).params = _ from ha) rfl nd us' (by simpa using hl')
      · obtain ⟨d', hd', hb⟩ := hkw.get hm
        rw [hd] at hd'
        cases hd'
        obtain ⟨oc, od, dV, kV, doc, pm, an, cdv, ct, osl, efd, lk, hcd, hD, hK⟩ := F'.ex
        obtain ⟨us, p1, p2⟩ := hb kV doc pm an cdv ct ws hl
        refine ⟨us, p1, ?_⟩
        rcases hD with ⟨_, e⟩ | ⟨e, _⟩
        · subst e; subst efd
          exact .of_eq p2
        · exact absurd rfl e
  intro k
  induction k with
  | zero => exact key 0 fun f d hd fd F => fn_zero
  | succ k ih => exact key (k + 1) fun f d hd fd F => fn_succ F (List.all_eq_true.mp hchk d (List.mem_of_getElem? hd)) (by
      show ((drs.map fun d => (d.x, d.ps, d.fn)).map (·.2.2))[f]? = some d.fn
      rw [List.map_map, List.getElem?_map, hd]; rfl) ih
/-- the same, by the def's own datum -/
theorem fn_all {drs : List DR} {gl : List (Str × D)} {bn : List Str} {gcd : Bool} {kws : List (Nat × List Str × List Nat)} {P : Program} {w : World} {K : PySem.W.Frag} {mg : Str → Option Value} {base h : Heap} (X : K.In h) (G : h.Ns mainGlobals mg)
    (c : obsR (mkPg drs gl bn gcd kws) (drs.map DR.D) K = He.valD (drs.map DR.D)) (hchk : drs.all (chkDR (mkPg drs gl bn gcd kws)) = true) (hkw : KwAll drs kws) {f : Nat} {d : DR} (hd : drs[f]? = some d) {fd : FuncData} (F : FunD K d.x d.x d.a d.b d.sc [] [] (He.ga K d.x) fd) :
    ∀ k, FnG P w K mg base k (He.ga K d.x) fd d.ps (spF K ((mkPg drs gl bn gcd kws).F k) f d.ps.length)
  | 0 => fn_zero
  | k + 1 => fn_succ F (List.all_eq_true.mp hchk d (List.mem_of_getElem? hd)) (by
      show ((drs.map fun d => (d.x, d.ps, d.fn)).map (·.2.2))[f]? = some d.fn
      rw [List.map_map, List.getElem?_map, hd]; rfl) (pgOk X G c hchk hkw k)

/-! ### the law's end -/
theorem scr_of {K : PySem.W.Frag} {H : Hp} {a : Addr} {ys : List V} (hO : Only H) (hS : SqL K H a ys) : ScrR K H a ys := by
  rcases hS with (h | h) | h
  · rcases hO a with z | ⟨o, xs, z⟩
    · rw [h] at z; cases z
    · rw [h] at z; cases z
  · exact .inl h
  · exact .inr fun H' => .inr h
theorem pu_ints {K : PySem.W.Frag} {G : Hp} : ∀ ns : List Int, PuA K G (ns.map .int) (ns.map V.int)
  | [] => .nil
  | n :: ns => .cons (.int n) (pu_ints ns)
theorem sp_law {K : PySem.W.Frag} {F : FT} {f : Nat} {H : Hp} {a : Addr} {ns : List Int} {Q : VK} {E : XK} (hO : Only H) (hS : SqL K H a (ns.map V.int)) (h : F f [.sc (ns.map .int)] = some (.pu (.bool true), [])) (q : ∀ H', Q (.bl true) H') : spF K F f 1 [.ref a] H Q E := by
  refine ⟨fun _ => none, [.sc (ns.map .int)], _, _, fun _ _ z => (nomatch z), .cons ⟨a, ns.map V.int, rfl, scr_of hO hS, pu_ints ns⟩ .nil, .nil, h, rfl, fun G' H' x c => ?_⟩
  have r : Pu K G' (.bool true) x := c.r
  cases r
  exact q H'
end Rf

set_option Elab.async false
set_option linter.all false
set_option maxRecDepth 100000
set_option maxHeartbeats 4000000
/-! Rf: from the defs' promises to the law's word. -/
namespace Rf
open PySem PySem.Spec PyProof.Rows L2

section
variable {P : Program} {w : World} {K : PySem.W.Frag} {mg mb : Str → Option Value} {k : Nat} {fa a : Addr} {fd : FuncData} {x : Str} {sp : Sp} {s₁ : Shared} {vs : List Value} {ns : List Int}
/-- the call from the top, at an abstract heap that tracks the script alone or nothing -/
theorem call_at (KX : K.In s₁.heap) (hns : s₁.heap.Ns mainGlobals mg) (hb : s₁.heap.Ns builtinsNs mb) (hbb : ∀ x : Str, x ≠ "__name__" → mb x = bootBuiltins x) (hlim : s₁.heap.NoLimit) (hg : s₁.gens = #[])
    (ha : s₁.heap.get? a = some { cls := .type "list", data := .seq vs.toArray }) (hr : Room k callerA) (F : ∀ base : Heap, K.In base → base.Ns mainGlobals mg → FnG P w K mg base k fa fd [x] sp) (hbind : ∀ (s : Shared) (u : Value), BindsTo s fd ⟨[u], []⟩ [(x, u)])
    {H : Hp} (hO : Only H) (hok : HOk P w H s₁.heap) (hA : ∀ b, H b ≠ none → b = a) (hK : H a ≠ none → K.lookup a = none) (hsp : sp [.ref a] H (fun v _ => v = .bl true) fun _ _ _ => False) :
    codeAny (model P w) callerA (.call (.ref fa) ⟨[.ref a], []⟩) (fun r s' => r = .ok (.ret (.bool true)) ∧ OldK s₁.heap s'.heap ∧ s'.os = s₁.os ∧ AllBare s'.gens) s₁ := by
  have free : ∀ {b : Addr} {o : Obj}, s₁.heap.get? b = some o → b ≠ a → H b = none := fun {b o} _ nb => by
    cases q : H b with
    | none => rfl
    | some u => exact absurd (hA b (by rw [q]; simp)) nb
  have dictFree : ∀ {b : Addr} {o : Obj} {es : Array DictEntry} {ep : Nat}, s₁.heap.get? b = some o → o.data = .dict es ep → H b = none := fun {b o es ep} e d => free e fun z => by
    subst z
    rw [ha] at e
    cases e
    have d' : Data.seq vs.toArray _ = Data.dict es ep := d
    cases d'
  have ns' : ∀ {b : Addr} {m : Str → Option Value}, s₁.heap.Ns b m → (hidT s₁.heap H).Ns b m := fun {b m} ⟨o, es, ep, e, d, r⟩ => ⟨o, es, ep, hidT_get e (dictFree e d), d, r⟩
  have kin : K.In (hidT s₁.heap H) := fun b o e => hidT_get (KX b o e) (by
    cases q : H b with
    | none => rfl
    | some u =>
      have z := hA b (by rw [q]; simp)
      subst z
      rw [hK (by rw [q]; simp)] at e
      cases e)
  have md : Mod K mg (hidT s₁.heap H) := ⟨kin, ns' hns, ⟨mb, ns' hb, hbb⟩, let ⟨mc, h1, h2⟩ := hlim; ⟨mc, ns' h1, h2⟩⟩
  have ev : Env0 P w K mg (hidT s₁.heap H) callerA [] s₁ H := ⟨rfl, md, fun b o e => of_hidT e, Nat.le_of_eq (hidT_size _ _), trivial, fun b hb => absurd (show b ∈ ([] : List Addr) from hb) (by simp), hok, .of_eq hg⟩
  refine codeAny_mono ((F _ kin (ns' hns)).run callerA [] s₁ H ⟨[.ref a], []⟩ [.ref a] [.ref a] _ _ hr rfl ev (hbind s₁ (.ref a)) (.cons rfl .nil) hsp) fun r s' h => ?_
  rcases r with e | fl
  · exact False.elim h
  · cases fl with
    | next => exact False.elim h
    | brk => exact False.elim h
    | cont => exact False.elim h
    | ret u =>
      obtain ⟨v, H', os, bare, un, hok', rv, q⟩ := h
      have q' : v = .bl true := q
      subst q'
      have hu : u = Value.bool true := rv
      subst hu
      refine ⟨rfl, OldK.of_keep fun b o e => ?_, os, bare⟩
      rcases hO b with z | ⟨ob, xs, z⟩
      · exact un.keep b o e z (by intro y; exact absurd (show b ∈ ([] : List Addr) from y) (by simp)) (by simp)
      · obtain ⟨e1, _⟩ := hok b _ z
        obtain ⟨e2, _⟩ := hok' b _ (un.frzs b ob _ z)
        rw [e] at e1
        cases e1
        exact e2
theorem call_top (KX : K.In s₁.heap) (hns : s₁.heap.Ns mainGlobals mg) (hb : s₁.heap.Ns builtinsNs mb) (hbb : ∀ x : Str, x ≠ "__name__" → mb x = bootBuiltins x) (hlim : s₁.heap.NoLimit) (hg : s₁.gens = #[])
    (ha : s₁.heap.get? a = some { cls := .type "list", data := .seq vs.toArray }) (hi : IntsAre vs ns) (hl : ns.length ≤ sizeLine) (hr : Room k callerA) (F : ∀ base : Heap, K.In base → base.Ns mainGlobals mg → FnG P w K mg base k fa fd [x] sp)
    (hbind : ∀ (s : Shared) (u : Value), BindsTo s fd ⟨[u], []⟩ [(x, u)]) (hsp : ∀ H : Hp, Only H → SqL K H a (ns.map V.int) → sp [.ref a] H (fun v _ => v = .bl true) fun _ _ _ => False) :
    codeAny (model P w) callerA (.call (.ref fa) ⟨[.ref a], []⟩) (fun r s' => r = .ok (.ret (.bool true)) ∧ OldK s₁.heap s'.heap ∧ s'.os = s₁.os ∧ AllBare s'.gens) s₁ := by
  have rv := vals_ints hi
  have lv := hi.length
  cases hk : K.lookup a with
  | some o =>
    have e := KX a o hk
    rw [ha] at e
    cases e
    have hO : Only fun _ => none := fun _ => .inl rfl
    exact call_at KX hns hb hbb hlim hg ha hr F hbind (H := fun _ => none) hO (fun b u z => nomatch z) (fun b z => absurd rfl z) (fun z => absurd rfl z)
      (hsp _ hO (.inr ⟨_, vs.toArray, _, hk, rfl, rfl, rfl, by rw [List.size_toArray, lv]; exact hl, by simpa using rv⟩))
  | none =>
    let H1 : Hp := upd (fun _ => none) a (.frz { cls := .type "list", data := .seq vs.toArray } (.lst (ns.map V.int)))
    have at_a : H1 a = some (.frz { cls := .type "list", data := .seq vs.toArray } (.lst (ns.map V.int))) := upd_same
    have off : ∀ b, b ≠ a → H1 b = none := fun b n => upd_ne n
    have hO : Only H1 := fun b => by
      by_cases q : b = a
      · subst q; exact .inr ⟨_, _, at_a⟩
      · exact .inl (off b q)
    refine call_at KX hns hb hbb hlim hg ha hr F hbind (H := H1) hO (fun b u z => ?_) (fun b z => ?_) (fun _ => hk) (hsp _ hO (.inl (.inr ⟨_, at_a⟩)))
    · by_cases q : b = a
      · subst q
        rw [at_a] at z
        cases z
        exact ⟨ha, by rw [List.length_map]; exact hl, vs, _, rv, ha⟩
      · rw [off b q] at z; cases z
    · by_cases q : b = a
      · exact q
      · exact absurd (off b q) z
end
/-- the law's end, over a head by facts -/
theorem walk_G {l : PySem.W.OpenLaw} {n k : Nat} {q : Program} {loose : List Str} {XP : (Str → Option Value) → Heap → Prop} {YP : World → Heap → Prop} {d : DefRec} {x : Str} (hn : l.most = some n) (hn2 : n ≤ sizeLine) (hdf : d.params.defaults = []) (hr : Room k callerA)
    (F : ∀ (w : World) (mg : Str → Option Value) (fa : Addr) (h : Heap), YP w h → h.Ns mainGlobals mg → mg d.name = some (.ref fa) →
      ∃ (K : PySem.W.Frag) (fd : FuncData) (sp : Sp), K.In h ∧ (∀ (s : Shared) (u : Value), BindsTo s fd ⟨[u], []⟩ [(x, u)]) ∧
        (∀ (H : Hp) (a : Addr) (ns : List Int), ns.length ≤ n → Only H → SqL K H a (ns.map V.int) → sp [.ref a] H (fun v _ => v = .bl true) fun _ _ _ => False) ∧
        ∀ base : Heap, K.In base → base.Ns mainGlobals mg → FnG l.prog w K mg base k fa fd [x] sp) :
    PySem.W.WalkO q loose XP YP l.row.toRowW d [] (fun f vs => PySem.call f vs) := by
  refine Att.attach_call hn hdf fun w s₀ s₁ mg mb fa o pm cd doc a vs ns G Y ho hd hcd hmg hobj hints hlen hg => ?_
  obtain ⟨K, fd, sp, KX, hb, hsp, hF⟩ := F w mg fa _ Y G.T.g hmg
  exact call_top KX G.T.g G.T.b G.T.builtins G.T.nolimit hg hobj hints (Nat.le_trans hlen hn2) hr hF hb fun H hO hS => hsp H a ns hlen hO hS
/-- what the law's def promises -/
theorem law_F {drs : List DR} {gl : List (Str × D)} {bn : List Str} {gcd : Bool} {kws : List (Nat × List Str × List Nat)} {P : Program} {w : World} {n k li : Nat} {d : DR} {x : Str} {mg : Str → Option Value} {fa : Addr} {h : Heap} (hchk : drs.all (chkDR (mkPg drs gl bn gcd kws)) = true) (hkw : KwAll drs kws)
    (hd : drs[li]? = some d) (hps : d.ps = [x]) (hev : ∀ ns : List Int, ns.length ≤ n → (mkPg drs gl bn gcd kws).F k li [.sc (ns.map .int)] = some (.pu (.bool true), []))
    (Y : ∃ K : PySem.W.Frag, K.In h ∧ obsR (mkPg drs gl bn gcd kws) (drs.map DR.D) K = He.valD (drs.map DR.D)) (G : h.Ns mainGlobals mg) (hfa : mg d.x = some (.ref fa)) :
    ∃ (K : PySem.W.Frag) (fd : FuncData) (sp : Sp), K.In h ∧ (∀ (s : Shared) (u : Value), BindsTo s fd ⟨[u], []⟩ [(x, u)]) ∧
        (∀ (H : Hp) (a : Addr) (ns : List Int), ns.length ≤ n → Only H → SqL K H a (ns.map V.int) → sp [.ref a] H (fun v _ => v = .bl true) fun _ _ _ => False) ∧
        ∀ base : Heap, K.In base → base.Ns mainGlobals mg → FnG P w K mg base k fa fd [x] sp := by
  obtain ⟨K, KX, c⟩ := Y
  have hq : (mkPg drs gl bn gcd kws).fns[li]? = some (d.x, d.ps, d.fn) := by
    show (drs.map fun d => (d.x, d.ps, d.fn))[li]? = _
    rw [List.getElem?_map, hd]; rfl
  obtain ⟨fd, FD⟩ := says_def c (i := li) (d := d.D) (by rw [List.getElem?_map, hd]; rfl)
  have FD' : FunD K d.x d.x d.a d.b d.sc [] [] (He.ga K d.x) fd := FD
  have e : fa = He.ga K d.x := by
    have ok := pgOk (P := P) (w := w) (base := h) KX G c hchk hkw 0
    have cc := says_chk c
    unfold chkK at cc
    obtain ⟨cc, _⟩ := ands cc
    obtain ⟨cc, _⟩ := ands cc
    obtain ⟨c1, _⟩ := ands cc
    have q := List.all_eq_true.mp c1 (d.x, d.ps, d.fn) (List.mem_of_getElem? hq)
    have m := PySem.W.mg_of KX G (He.eqO_ok q)
    rw [hfa] at m
    cases m; rfl
  refine ⟨K, fd, spF K ((mkPg drs gl bn gcd kws).F k) li 1, KX, fun s u => ?_, fun H a ns hl hO hS => sp_law hO hS (hev ns hl) fun _ => rfl, fun base KB GB => ?_⟩
  · have hck := List.all_eq_true.mp hchk d (List.mem_of_getElem? hd)
    unfold chkDR at hck
    simp only [Bool.and_eq_true] at hck
    obtain ⟨⟨⟨⟨⟨⟨⟨⟨⟨⟨k1, k2⟩, k3⟩, k4⟩, k5⟩, k6⟩, k7⟩, k8⟩, k9⟩, k10⟩, k11⟩ := hck
    have ha : ∃ as kd, d.a = ⟨[], as, none, [], kd, none, []⟩ := by
      unfold plainArgs at k1
      split at k1
      · rename_i as kd e; exact ⟨as, kd, e⟩
      · cases k1
    obtain ⟨as, kd, ha⟩ := ha
    have e1 : d.ps = as.map (·.arg) := by unfold DR.ps; rw [ha]
    have nd : (as.map (·.arg)).Nodup := by rw [← e1, hps]; simp
    have b := FunD.bindsA (ps := d.ps) FD' (fun kV doc pm an cdv ct us' hl' => by
      rw [e1] at hl' ⊢
      exact bind_pos (kd := kd) (show (PySem.W.fnOf d.x d.x d.a d.b d.sc .none kV doc pm an cdv ct).params = _ from ha) rfl nd us' (by simpa using hl')) s [u] (by rw [hps]; rfl)
    rw [hps] at b
    exact b
  · have z := fn_all (P := P) (w := w) (base := base) KX G c hchk hkw hd FD' k
    rw [hps, ← e] at z
    exact z
end Rf

set_option Elab.async false
set_option linter.all false
set_option maxRecDepth 100000
set_option maxHeartbeats 4000000
/-! Rf: loops of the evaluator, for the plain laws. -/
namespace Rf
open PySem

/-- a comprehension: what holds between turns, what each value is -/
theorem lc_inv {st : D → Ev → Option Ev} {ts : Ev → Option (Bool × Ev)} {el : Ev → Option (D × Ev)} {own : List Nat} (I : List D → List D → Ev → Prop)
    (h : ∀ d ds xs e, I (d :: ds) xs e → ∃ e1 b e2, st d e = some e1 ∧ ts e1 = some (b, e2) ∧ (b = false → I ds xs (wipeE e2 own)) ∧ (b = true → ∃ x e3, el e2 = some (x, e3) ∧ I ds (xs ++ [x]) (wipeE e3 own))) :
    ∀ (ds xs : List D) (e : Ev), I ds xs e → ∃ ys e', lcLoop st ts el own ds e = some (ys, e') ∧ I [] (xs ++ ys) e'
  | [], xs, e, hI => ⟨[], e, rfl, by simpa using hI⟩
  | d :: ds, xs, e, hI => by
    obtain ⟨e1, b, e2, h1, h2, h3, h4⟩ := h d ds xs e hI
    cases b with
    | false =>
      obtain ⟨ys, e', q1, q2⟩ := lc_inv I h ds xs _ (h3 rfl)
      exact ⟨ys, e', by simp only [lcLoop, h1, h2, q1], q2⟩
    | true =>
      obtain ⟨x, e3, q, hI'⟩ := h4 rfl
      obtain ⟨ys, e', q1, q2⟩ := lc_inv I h ds (xs ++ [x]) _ hI'
      exact ⟨x :: ys, e', by simp only [lcLoop, h1, h2, q, q1], by simpa using q2⟩
/-- .. that leaves the slots as they were: what comes of each item is told by f -/
theorem lc_map {st : D → Ev → Option Ev} {ts : Ev → Option (Bool × Ev)} {el : Ev → Option (D × Ev)} {own : List Nat} {e : Ev} (f : D → Option D) :
    ∀ (ds : List D), (∀ d ∈ ds, ∃ e1 b e2, st d e = some e1 ∧ ts e1 = some (b, e2) ∧ (b = false → wipeE e2 own = e ∧ f d = none) ∧ (b = true → ∃ x e3, el e2 = some (x, e3) ∧ wipeE e3 own = e ∧ f d = some x)) →
      lcLoop st ts el own ds e = some (ds.filterMap f, e)
  | [], _ => rfl
  | d :: ds, h => by
    obtain ⟨e1, b, e2, h1, h2, h3, h4⟩ := h d List.mem_cons_self
    have ih := lc_map f ds fun x hx => h x (List.mem_cons_of_mem _ hx)
    cases b with
    | false =>
      obtain ⟨w, q⟩ := h3 rfl
      simp only [lcLoop, h1, h2, w, ih, List.filterMap_cons, q]
    | true =>
      obtain ⟨x, e3, q, w, qf⟩ := h4 rfl
      simp only [lcLoop, h1, h2, q, w, ih, List.filterMap_cons, qf]
/-- for: what holds before each turn; Q: how it may end -/
theorem fo_inv {st : D → Ev → Option Ev} {bd : Ev → Option Fl} (I : List D → Ev → Prop) (Q : Fl → Prop) (h0 : ∀ e, I [] e → Q (.nx e))
    (h : ∀ d ds e, I (d :: ds) e → ∃ e1 fl, st d e = some e1 ∧ bd e1 = some fl ∧ (match fl with | .nx e2 => I ds e2 | .ct e2 => I ds e2 | .bk e2 => Q (.nx e2) | .rt o e2 => Q (.rt o e2))) :
    ∀ (ds : List D) (e : Ev), I ds e → ∃ fl, foLoop st bd ds e = some fl ∧ Q fl
  | [], e, hI => ⟨_, rfl, h0 e hI⟩
  | d :: ds, e, hI => by
    obtain ⟨e1, fl, h1, h2, h3⟩ := h d ds e hI
    cases fl with
    | nx e2 =>
      obtain ⟨fl, q1, q2⟩ := fo_inv I Q h0 h ds e2 h3
      exact ⟨fl, by simp only [foLoop, h1, h2, q1], q2⟩
    | ct e2 =>
      obtain ⟨fl, q1, q2⟩ := fo_inv I Q h0 h ds e2 h3
      exact ⟨fl, by simp only [foLoop, h1, h2, q1], q2⟩
    | bk e2 => exact ⟨_, by simp only [foLoop, h1, h2], h3⟩
    | rt o e2 => exact ⟨_, by simp only [foLoop, h1, h2], h3⟩
/-- while: a measure falls -/
theorem wh_inv {ts : Ev → Option (Bool × Ev)} {bd : Ev → Option Fl} (I : Nat → Ev → Prop) (Q : Fl → Prop)
    (h : ∀ n e, I n e → ∃ b e1, ts e = some (b, e1) ∧ (b = false → Q (.nx e1)) ∧ (b = true → ∃ fl, bd e1 = some fl ∧ (match fl with | .nx e2 => ∃ m, m < n ∧ I m e2 | .ct e2 => ∃ m, m < n ∧ I m e2 | .bk e2 => Q (.nx e2) | .rt o e2 => Q (.rt o e2)))) :
    ∀ (fuel n : Nat) (e : Ev), I n e → n < fuel → ∃ fl, whLoop ts bd fuel e = some fl ∧ Q fl
  | 0, _, _, _, hf => by omega
  | fuel + 1, n, e, hI, hf => by
    obtain ⟨b, e1, h1, h2, h3⟩ := h n e hI
    cases b with
    | false => exact ⟨_, by simp only [whLoop, h1], h2 rfl⟩
    | true =>
      obtain ⟨fl, q, r⟩ := h3 rfl
      cases fl with
      | nx e2 =>
        obtain ⟨m, hm, hI'⟩ := r
        obtain ⟨fl, q1, q2⟩ := wh_inv I Q h fuel m e2 hI' (by omega)
        exact ⟨fl, by simp only [whLoop, h1, q, q1], q2⟩
      | ct e2 =>
        obtain ⟨m, hm, hI'⟩ := r
        obtain ⟨fl, q1, q2⟩ := wh_inv I Q h fuel m e2 hI' (by omega)
        exact ⟨fl, by simp only [whLoop, h1, q, q1], q2⟩
      | bk e2 => exact ⟨_, by simp only [whLoop, h1, q], r⟩
      | rt o e2 => exact ⟨_, by simp only [whLoop, h1, q], r⟩
end Rf

set_option Elab.async false
set_option linter.all false
set_option maxRecDepth 100000
namespace K81
open PySem Rf
def consts : List (String × D) := [("MOST_DIMS", (.int 3))]
def n__law_draw : List String := ["pot", "many", "digit"]
def b__law_draw : ISs := .cons (.ite (.cmp .gt (.idx (.var 0) (.cst (.int 0))) (.cst (.int 0))) (.cons (.asg (.tp (.cons (.sub 0 (.cst (.int 0))) (.cons (.nm 2) (.nil)))) (.blt .divmod2 (.cons (.idx (.var 0) (.cst (.int 0))) (.cons (.var 1) (.nil))))) (.cons (.ret (.var 2)) (.nil))) (.nil)) (.cons (.asg (.sub 0 (.cst (.int 1))) (.bin .mod (.blt .int1 (.cons (.bin .add (.bin .mul (.idx (.var 0) (.cst (.int 1))) (.cst (.int 39373))) (.cst (.int 617))) (.nil))) (.cst (.int 2147483587)))) (.cons (.ret (.bin .mod (.blt .int1 (.cons (.bin .fdiv (.bin .mod (.blt .int1 (.cons (.bin .mul (.idx (.var 0) (.cst (.int 1))) (.idx (.var 0) (.cst (.int 1)))) (.nil))) (.cst (.int 2147483563))) (.cst (.int 19))) (.nil))) (.var 1))) (.nil)))
def n__law_turns : List String := ["dims", "found", "place", "longer", "row", "axis", "sign", "one"]
def b__law_turns : ISs := .cons (.asg (.nm 1) (.lst (.cons (.tup (.nil)) (.nil)))) (.cons (.fo (.nm 2) (.rng (.cst (.int 0)) (.var 0)) (.cons (.own 3 (.lst (.nil))) (.cons (.fo (.nm 4) (.it (.var 1)) (.cons (.fo (.nm 5) (.rng (.cst (.int 0)) (.var 0)) (.cons (.fo (.nm 6) (.it (.tup (.cons (.neg (.cst (.int 1))) (.cons (.cst (.int 1)) (.nil))))) (.cons (.ex (.mth .extend 3 (.cons (.ite (.cmp .nmem (.var 5) (.lc (.idx (.var 7) (.cst (.int 0))) (.nm 7) (.it (.var 4)) (.non) [7])) (.lst (.cons (.bin .add (.var 4) (.tup (.cons (.tup (.cons (.var 5) (.cons (.var 6) (.nil)))) (.nil)))) (.nil))) (.lst (.nil))) (.nil)))) (.nil))) (.nil))) (.nil))) (.cons (.asg (.nm 1) (.frz 3)) (.nil))))) (.cons (.ret (.blt .sorted1 (.cons (.var 1) (.nil)))) (.nil)))
def n_is_integer : List String := ["value"]
def b_is_integer : ISs := .cons (.ret (.and2 (.isi (.var 0) [.int]) (.nt (.isi (.var 0) [.bool])))) (.nil)
def n_is_within : List String := ["value", "least", "most"]
def b_is_within : ISs := .cons (.ret (.and2 (.call 2 (.cons (.var 0) (.nil))) (.chn .le .le (.var 1) (.var 0) (.var 2)))) (.nil)
def n_want_dims : List String := ["dims"]
def b_want_dims : ISs := .cons (.ite (.nt (.call 3 (.cons (.var 0) (.cons (.cst (.int 1)) (.cons (.glo 0) (.nil)))))) (.cons (.nev) (.nil)) (.nil)) (.nil)
def n_turns_of : List String := ["dims", "found", "place", "longer", "begun", "left", "axis", "sign", "one"]
def b_turns_of : ISs := .cons (.asg (.nm 1) (.lst (.cons (.tup (.nil)) (.nil)))) (.cons (.fo (.nm 2) (.rng (.cst (.int 0)) (.var 0)) (.cons (.own 3 (.lst (.nil))) (.cons (.fo (.nm 4) (.it (.var 1)) (.cons (.asg (.nm 5) (.lc (.var 6) (.nm 6) (.rng (.cst (.int 0)) (.var 0)) (.som (.cmp .nmem (.var 6) (.lc (.idx (.var 8) (.cst (.int 0))) (.nm 8) (.it (.var 4)) (.non) [8]))) [6])) (.cons (.fo (.nm 6) (.it (.var 5)) (.cons (.ex (.mth .extend 3 (.cons (.lc (.bin .add (.var 4) (.tup (.cons (.tup (.cons (.var 6) (.cons (.var 7) (.nil)))) (.nil)))) (.nm 7) (.it (.tup (.cons (.neg (.cst (.int 1))) (.cons (.cst (.int 1)) (.nil))))) (.non) [7]) (.nil)))) (.nil))) (.nil)))) (.cons (.asg (.nm 1) (.frz 3)) (.nil))))) (.cons (.ret (.blt .sorted1 (.cons (.var 1) (.nil)))) (.nil)))
def n_all_turns : List String := ["dims"]
def b_all_turns : ISs := .cons (.ex (.call 4 (.cons (.var 0) (.nil)))) (.cons (.ret (.call 5 (.cons (.var 0) (.nil)))) (.nil))
def n__law_pick : List String := ["pot", "some"]
def b__law_pick : ISs := .cons (.ret (.idx (.var 1) (.call 0 (.cons (.var 0) (.cons (.blt .len (.cons (.var 1) (.nil))) (.nil)))))) (.nil)
def n_is_tuple : List String := ["value", "many"]
def b_is_tuple : ISs := .cons (.ret (.and2 (.isi (.var 0) [.tuple]) (.cmp .eq (.blt .len (.cons (.var 0) (.nil))) (.var 1)))) (.nil)
def n_is_turn_of : List String := ["dims", "value", "one"]
def b_is_turn_of : ISs := .cons (.ite (.or2 (.nt (.call 8 (.cons (.var 1) (.cons (.var 0) (.nil))))) (.nt (.blt .all1 (.cons (.lc (.call 8 (.cons (.var 2) (.cons (.cst (.int 2)) (.nil)))) (.nm 2) (.it (.var 1)) (.non) [2]) (.nil))))) (.cons (.ret (.cst (.bool false))) (.nil)) (.nil)) (.cons (.ite (.nt (.blt .all1 (.cons (.lc (.and2 (.call 3 (.cons (.idx (.var 2) (.cst (.int 0))) (.cons (.cst (.int 0)) (.cons (.bin .sub (.var 0) (.cst (.int 1))) (.nil))))) (.and2 (.call 3 (.cons (.idx (.var 2) (.cst (.int 1))) (.cons (.neg (.cst (.int 1))) (.cons (.cst (.int 1)) (.nil))))) (.cmp .ne (.idx (.var 2) (.cst (.int 1))) (.cst (.int 0))))) (.nm 2) (.it (.var 1)) (.non) [2]) (.nil)))) (.cons (.ret (.cst (.bool false))) (.nil)) (.nil)) (.cons (.ret (.cmp .eq (.blt .sorted1 (.cons (.lc (.idx (.var 2) (.cst (.int 0))) (.nm 2) (.it (.var 1)) (.non) [2]) (.nil))) (.lrg (.cst (.int 0)) (.var 0)))) (.nil)))
def n_want_turn : List String := ["dims", "turn"]
def b_want_turn : ISs := .cons (.ite (.nt (.call 9 (.cons (.var 0) (.cons (.var 1) (.nil))))) (.cons (.nev) (.nil)) (.nil)) (.nil)
def n_behind_of : List String := ["turn", "other", "axis", "sign"]
def b_behind_of : ISs := .cons (.ret (.blt .tuple1 (.cons (.lc (.tup (.cons (.idx (.idx (.var 1) (.var 2)) (.cst (.int 0))) (.cons (.bin .mul (.var 3) (.idx (.idx (.var 1) (.var 2)) (.cst (.int 1)))) (.nil)))) (.tp (.cons (.nm 2) (.cons (.nm 3) (.nil)))) (.it (.var 0)) (.non) [2, 3]) (.nil)))) (.nil)
def n_behind_turn : List String := ["dims", "turn", "other"]
def b_behind_turn : ISs := .cons (.ex (.call 4 (.cons (.var 0) (.nil)))) (.cons (.ex (.call 10 (.cons (.var 0) (.cons (.var 1) (.nil))))) (.cons (.ex (.call 10 (.cons (.var 0) (.cons (.var 2) (.nil))))) (.cons (.ret (.call 11 (.cons (.var 1) (.cons (.var 2) (.nil))))) (.nil))))
def n_undone_of : List String := ["turn", "found", "place", "axis", "sign"]
def b_undone_of : ISs := .cons (.own 1 (.bin .mul (.lst (.cons (.cst .none) (.nil))) (.blt .len (.cons (.var 0) (.nil))))) (.cons (.fo (.tp (.cons (.nm 2) (.cons (.tp (.cons (.nm 3) (.cons (.nm 4) (.nil)))) (.nil)))) (.enu (.var 0)) (.cons (.asg (.sub 1 (.var 3)) (.tup (.cons (.var 2) (.cons (.var 4) (.nil))))) (.nil))) (.cons (.ret (.blt .tuple1 (.cons (.var 1) (.nil)))) (.nil)))
def n_undone_turn : List String := ["dims", "turn"]
def b_undone_turn : ISs := .cons (.ex (.call 4 (.cons (.var 0) (.nil)))) (.cons (.ex (.call 10 (.cons (.var 0) (.cons (.var 1) (.nil))))) (.cons (.ret (.call 13 (.cons (.var 1) (.nil)))) (.nil)))
def n__law_turned : List String := ["turn", "vector", "found", "axis", "sign"]
def b__law_turned : ISs := .cons (.own 2 (.lst (.nil))) (.cons (.fo (.tp (.cons (.nm 3) (.cons (.nm 4) (.nil)))) (.it (.var 0)) (.cons (.ex (.mth .append 2 (.cons (.tup (.cons (.bin .mul (.var 4) (.idx (.idx (.var 1) (.var 3)) (.cst (.int 0)))) (.cons (.idx (.idx (.var 1) (.var 3)) (.cst (.int 1))) (.nil)))) (.nil)))) (.nil))) (.cons (.ret (.blt .tuple1 (.cons (.var 2) (.nil)))) (.nil)))
def n_is_fraction : List String := ["value"]
def b_is_fraction : ISs := .cons (.ite (.or2 (.nt (.isi (.var 0) [.tuple])) (.or2 (.cmp .ne (.blt .len (.cons (.var 0) (.nil))) (.cst (.int 2))) (.or2 (.nt (.call 2 (.cons (.idx (.var 0) (.cst (.int 0))) (.nil)))) (.nt (.call 2 (.cons (.idx (.var 0) (.cst (.int 1))) (.nil))))))) (.cons (.ret (.cst (.bool false))) (.nil)) (.nil)) (.cons (.ret (.and2 (.cmp .ge (.idx (.var 0) (.cst (.int 1))) (.cst (.int 1))) (.cmp .eq (.blt .gcd2 (.cons (.idx (.var 0) (.cst (.int 0))) (.cons (.idx (.var 0) (.cst (.int 1))) (.nil)))) (.cst (.int 1))))) (.nil))
def n_is_vector_of : List String := ["value", "dims", "one"]
def b_is_vector_of : ISs := .cons (.ret (.and2 (.isi (.var 0) [.tuple]) (.and2 (.cmp .eq (.blt .len (.cons (.var 0) (.nil))) (.var 1)) (.blt .all1 (.cons (.lc (.call 16 (.cons (.var 2) (.nil))) (.nm 2) (.it (.var 0)) (.non) [2]) (.nil)))))) (.nil)
def n_want_vector_of : List String := ["dims", "vector"]
def b_want_vector_of : ISs := .cons (.ite (.nt (.call 17 (.cons (.var 1) (.cons (.var 0) (.nil))))) (.cons (.nev) (.nil)) (.nil)) (.nil)
def n_contrary : List String := ["a"]
def b_contrary : ISs := .cons (.ret (.tup (.cons (.bin .sub (.cst (.int 0)) (.idx (.var 0) (.cst (.int 0)))) (.cons (.idx (.var 0) (.cst (.int 1))) (.nil))))) (.nil)
def n_turned_by : List String := ["turn", "vector", "axis", "sign"]
def b_turned_by : ISs := .cons (.ret (.blt .tuple1 (.cons (.lc (.ite (.cmp .eq (.var 3) (.cst (.int 1))) (.idx (.var 1) (.var 2)) (.call 19 (.cons (.idx (.var 1) (.var 2)) (.nil)))) (.tp (.cons (.nm 2) (.cons (.nm 3) (.nil)))) (.it (.var 0)) (.non) [2, 3]) (.nil)))) (.nil)
def n_turned : List String := ["dims", "turn", "vector"]
def b_turned : ISs := .cons (.ex (.call 4 (.cons (.var 0) (.nil)))) (.cons (.ex (.call 10 (.cons (.var 0) (.cons (.var 1) (.nil))))) (.cons (.ex (.call 18 (.cons (.var 0) (.cons (.var 2) (.nil))))) (.cons (.ret (.call 20 (.cons (.var 1) (.cons (.var 2) (.nil))))) (.nil))))
def n__law_same : List String := ["dims", "axis"]
def b__law_same : ISs := .cons (.ret (.blt .tuple1 (.cons (.lc (.tup (.cons (.var 1) (.cons (.cst (.int 1)) (.nil)))) (.nm 1) (.rng (.cst (.int 0)) (.var 0)) (.non) [1]) (.nil)))) (.nil)
def n__law_determinant : List String := ["rows", "found", "sign", "at", "number", "row"]
def b__law_determinant : ISs := .cons (.ite (.cmp .eq (.var 0) (.lst (.nil))) (.cons (.ret (.cst (.int 1))) (.nil)) (.nil)) (.cons (.par2 1 2 false false (.cst (.int 0)) (.cst (.int 1))) (.cons (.fo (.tp (.cons (.nm 3) (.cons (.nm 4) (.nil)))) (.enu (.idx (.var 0) (.cst (.int 0)))) (.cons (.asg (.nm 1) (.bin .add (.var 1) (.bin .mul (.bin .mul (.var 2) (.var 4)) (.call 23 (.cons (.lc (.bin .add (.slc (.var 5) (.non) (.som (.var 3))) (.slc (.var 5) (.som (.bin .add (.var 3) (.cst (.int 1)))) (.non))) (.nm 5) (.it (.slc (.var 0) (.som (.cst (.int 1))) (.non))) (.non) [5]) (.nil)))))) (.cons (.asg (.nm 2) (.bin .sub (.cst (.int 0)) (.var 2))) (.nil)))) (.cons (.ret (.var 1)) (.nil))))
def n_is_turn : List String := ["dims", "value"]
def b_is_turn : ISs := .cons (.ex (.call 4 (.cons (.var 0) (.nil)))) (.cons (.ret (.call 9 (.cons (.var 0) (.cons (.var 1) (.nil))))) (.nil))
def n_falls : List String := ["turn", "found", "place", "axis", "sign", "one"]
def b_falls : ISs := .cons (.asg (.nm 1) (.blt .len (.cons (.lc (.var 4) (.tp (.cons (.nm 3) (.cons (.nm 4) (.nil)))) (.it (.var 0)) (.som (.cmp .eq (.var 4) (.neg (.cst (.int 1))))) [3, 4]) (.nil)))) (.cons (.fo (.tp (.cons (.nm 2) (.cons (.tp (.cons (.nm 3) (.cons (.nm 4) (.nil)))) (.nil)))) (.enu (.var 0)) (.cons (.asg (.nm 1) (.bin .add (.var 1) (.blt .len (.cons (.lc (.var 5) (.nm 5) (.it (.slc (.var 0) (.som (.bin .add (.var 2) (.cst (.int 1)))) (.non))) (.som (.cmp .lt (.idx (.var 5) (.cst (.int 0))) (.var 3))) [5]) (.nil))))) (.nil))) (.cons (.ret (.var 1)) (.nil)))
def n_is_proper : List String := ["dims", "turn"]
def b_is_proper : ISs := .cons (.ex (.call 4 (.cons (.var 0) (.nil)))) (.cons (.ex (.call 10 (.cons (.var 0) (.cons (.var 1) (.nil))))) (.cons (.ret (.cmp .eq (.bin .mod (.call 25 (.cons (.var 1) (.nil))) (.cst (.int 2))) (.cst (.int 0)))) (.nil)))
def n__law_made : List String := ["above", "below", "one", "other"]
def b__law_made : ISs := .cons (.par2 2 3 false false (.blt .abs (.cons (.var 0) (.nil))) (.var 1)) (.cons (.wh (.cmp .ne (.var 3) (.cst (.int 0))) (.cons (.par2 2 3 false false (.var 3) (.bin .mod (.blt .int1 (.cons (.var 2) (.nil))) (.var 3))) (.nil))) (.cons (.ret (.tup (.cons (.bin .fdiv (.var 0) (.var 2)) (.cons (.bin .fdiv (.var 1) (.var 2)) (.nil))))) (.nil)))
def n__law_behind : List String := ["turn", "other", "shown", "above", "below", "axis"]
def b__law_behind : ISs := .cons (.asg (.nm 2) (.call 15 (.cons (.var 0) (.cons (.call 15 (.cons (.var 1) (.cons (.blt .tuple1 (.cons (.lc (.tup (.cons (.bin .add (.var 5) (.cst (.int 1))) (.cons (.cst (.int 1)) (.nil)))) (.nm 5) (.rng (.cst (.int 0)) (.blt .len (.cons (.var 0) (.nil)))) (.non) [5]) (.nil))) (.nil)))) (.nil))))) (.cons (.ret (.blt .tuple1 (.cons (.lc (.tup (.cons (.bin .sub (.blt .abs (.cons (.var 3) (.nil))) (.cst (.int 1))) (.cons (.ite (.cmp .gt (.var 3) (.cst (.int 0))) (.cst (.int 1)) (.neg (.cst (.int 1)))) (.nil)))) (.tp (.cons (.nm 3) (.cons (.nm 4) (.nil)))) (.it (.var 2)) (.non) [3, 4]) (.nil)))) (.nil))
def n__law_table : List String := ["turn", "at", "axis", "sign"]
def b__law_table : ISs := .cons (.ret (.lc (.lc (.ite (.cmp .eq (.var 1) (.var 2)) (.var 3) (.cst (.int 0))) (.nm 1) (.rng (.cst (.int 0)) (.blt .len (.cons (.var 0) (.nil)))) (.non) [1]) (.tp (.cons (.nm 2) (.cons (.nm 3) (.nil)))) (.it (.var 0)) (.non) [2, 3])) (.nil)
def n__law_undone : List String := ["turn", "one"]
def b__law_undone : ISs := .cons (.fo (.nm 1) (.it (.call 1 (.cons (.blt .len (.cons (.var 0) (.nil))) (.nil)))) (.cons (.ite (.cmp .eq (.call 28 (.cons (.var 1) (.cons (.var 0) (.nil)))) (.call 22 (.cons (.blt .len (.cons (.var 0) (.nil))) (.nil)))) (.cons (.ret (.var 1)) (.nil)) (.nil)) (.nil))) (.cons (.ret (.cst .none)) (.nil))
def n_same_turn : List String := ["dims", "axis"]
def b_same_turn : ISs := .cons (.ret (.blt .tuple1 (.cons (.lc (.tup (.cons (.var 1) (.cons (.cst (.int 1)) (.nil)))) (.nm 1) (.rng (.cst (.int 0)) (.var 0)) (.non) [1]) (.nil)))) (.nil)
def n_order_of : List String := ["turn", "found", "now"]
def b_order_of : ISs := .cons (.par2 1 2 false false (.cst (.int 1)) (.var 0)) (.cons (.wh (.cmp .ne (.var 2) (.call 31 (.cons (.blt .len (.cons (.var 0) (.nil))) (.nil)))) (.cons (.asg (.nm 2) (.call 11 (.cons (.var 2) (.cons (.var 0) (.nil))))) (.cons (.asg (.nm 1) (.bin .add (.var 1) (.cst (.int 1)))) (.nil)))) (.cons (.ret (.var 1)) (.nil)))
def n_turn_order : List String := ["dims", "turn"]
def b_turn_order : ISs := .cons (.ex (.call 4 (.cons (.var 0) (.nil)))) (.cons (.ex (.call 10 (.cons (.var 0) (.cons (.var 1) (.nil))))) (.cons (.ret (.call 32 (.cons (.var 1) (.nil)))) (.nil)))
def n__law_right : List String := ["pot", "dims", "proper", "is_due", "turn", "every", "told", "one", "other", "both", "back", "vector", "due", "many", "now", "at"]
def b__law_right : ISs := .cons (.asg (.nm 1) (.bin .add (.cst (.int 1)) (.call 0 (.cons (.var 0) (.cons (.cst (.int 3)) (.nil)))))) (.cons (.par2 5 6 false true (.call 1 (.cons (.var 1) (.nil))) (.call 6 (.cons (.var 1) (.nil)))) (.cons (.ite (.or2 (.cmp .ne (.rpr (.cons (.var 6) (.cons (.callk 6 [0] (.cons (.var 1) (.nil))) (.nil)))) (.rpr (.cons (.var 5) (.cons (.var 5) (.nil))))) (.cmp .ne (.blt .len (.cons (.var 6) (.nil))) (.idx (.lst (.cons (.cst (.int 2)) (.cons (.cst (.int 8)) (.cons (.cst (.int 48)) (.nil))))) (.bin .sub (.var 1) (.cst (.int 1)))))) (.cons (.ret (.cst (.bool false))) (.nil)) (.nil)) (.cons (.ex (.mth .append 6 (.cons (.cst .none) (.nil)))) (.cons (.ite (.cmp .ne (.blt .repr1 (.cons (.call 6 (.cons (.var 1) (.nil))) (.nil))) (.blt .repr1 (.cons (.var 5) (.nil)))) (.cons (.ret (.cst (.bool false))) (.nil)) (.nil)) (.cons (.asg (.nm 2) (.lc (.var 4) (.nm 4) (.it (.var 5)) (.som (.cmp .eq (.call 23 (.cons (.call 29 (.cons (.var 4) (.nil))) (.nil))) (.cst (.int 1)))) [4])) (.cons (.ite (.or2 (.cmp .ne (.lc (.var 4) (.nm 4) (.it (.var 5)) (.som (.call 26 (.cons (.var 1) (.cons (.var 4) (.nil))))) [4]) (.var 2)) (.cmp .ne (.bin .mul (.cst (.int 2)) (.blt .len (.cons (.var 2) (.nil)))) (.blt .len (.cons (.var 5) (.nil))))) (.cons (.ret (.cst (.bool false))) (.nil)) (.nil)) (.cons (.par2 7 8 false false (.call 7 (.cons (.var 0) (.cons (.var 5) (.nil)))) (.call 7 (.cons (.var 0) (.cons (.var 5) (.nil))))) (.cons (.par2 9 10 false false (.call 12 (.cons (.var 1) (.cons (.var 7) (.cons (.var 8) (.nil))))) (.call 14 (.cons (.var 1) (.cons (.var 7) (.nil))))) (.cons (.ite (.cmp .ne (.rpr (.cons (.var 9) (.cons (.callk 12 [2, 1, 0] (.cons (.var 8) (.cons (.var 7) (.cons (.var 1) (.nil))))) (.nil)))) (.blt .repr1 (.cons (.bin .mul (.lst (.cons (.call 28 (.cons (.var 7) (.cons (.var 8) (.nil)))) (.nil))) (.cst (.int 2))) (.nil)))) (.cons (.ret (.cst (.bool false))) (.nil)) (.nil)) (.cons (.ite (.cmp .ne (.rpr (.cons (.var 10) (.cons (.callk 14 [1, 0] (.cons (.var 7) (.cons (.var 1) (.nil)))) (.nil)))) (.blt .repr1 (.cons (.bin .mul (.lst (.cons (.call 30 (.cons (.var 7) (.nil))) (.nil))) (.cst (.int 2))) (.nil)))) (.cons (.ret (.cst (.bool false))) (.nil)) (.nil)) (.cons (.asg (.nm 3) (.cmp .eq (.cmp .mem (.var 7) (.var 2)) (.cmp .mem (.var 8) (.var 2)))) (.cons (.ite (.cmp .ne (.rpr (.cons (.call 24 (.cons (.var 1) (.cons (.var 9) (.nil)))) (.cons (.callk 26 [1, 0] (.cons (.var 9) (.cons (.var 1) (.nil)))) (.nil)))) (.rpr (.cons (.cst (.bool true)) (.cons (.var 3) (.nil))))) (.cons (.ret (.cst (.bool false))) (.nil)) (.nil)) (.cons (.fo (.nm 4) (.rng (.cst (.int 0)) (.cst (.int 5))) (.cons (.asg (.nm 11) (.blt .tuple1 (.cons (.lc (.call 27 (.cons (.bin .sub (.call 0 (.cons (.var 0) (.cons (.cst (.int 2001)) (.nil)))) (.cst (.int 1000))) (.cons (.bin .add (.cst (.int 1)) (.call 0 (.cons (.var 0) (.cons (.cst (.int 60)) (.nil))))) (.nil)))) (.nm 15) (.rng (.cst (.int 0)) (.var 1)) (.non) [15]) (.nil)))) (.cons (.asg (.nm 12) (.call 15 (.cons (.var 7) (.cons (.call 15 (.cons (.var 8) (.cons (.var 11) (.nil)))) (.nil))))) (.cons (.ite (.cmp .ne (.rpr (.cons (.call 21 (.cons (.var 1) (.cons (.var 9) (.cons (.var 11) (.nil))))) (.cons (.callk 21 [2, 1, 0] (.cons (.var 11) (.cons (.var 9) (.cons (.var 1) (.nil))))) (.nil)))) (.rpr (.cons (.var 12) (.cons (.var 12) (.nil))))) (.cons (.ret (.cst (.bool false))) (.nil)) (.nil)) (.cons (.ite (.cmp .ne (.call 21 (.cons (.var 1) (.cons (.var 10) (.cons (.call 21 (.cons (.var 1) (.cons (.var 7) (.cons (.var 11) (.nil))))) (.nil))))) (.var 11)) (.cons (.ret (.cst (.bool false))) (.nil)) (.nil)) (.nil)))))) (.cons (.fo (.nm 4) (.it (.bin .add (.lst (.cons (.var 7) (.cons (.var 8) (.cons (.var 9) (.nil))))) (.slc (.var 5) (.non) (.som (.cst (.int 8)))))) (.cons (.par2 13 14 false false (.cst (.int 1)) (.var 4)) (.cons (.wh (.cmp .ne (.var 14) (.call 22 (.cons (.var 1) (.nil)))) (.cons (.par2 13 14 false false (.bin .add (.var 13) (.cst (.int 1))) (.call 28 (.cons (.var 14) (.cons (.var 4) (.nil))))) (.nil))) (.cons (.ite (.cmp .ne (.rpr (.cons (.call 33 (.cons (.var 1) (.cons (.var 4) (.nil)))) (.cons (.callk 33 [1, 0] (.cons (.var 4) (.cons (.var 1) (.nil)))) (.nil)))) (.rpr (.cons (.var 13) (.cons (.var 13) (.nil))))) (.cons (.ret (.cst (.bool false))) (.nil)) (.nil)) (.nil))))) (.cons (.ret (.cst (.bool true))) (.nil))))))))))))))))
def n__law_pot : List String := ["script", "k", "cell"]
def b__law_pot : ISs := .cons (.asg (.nm 2) (.bin .add (.bin .mul (.cst (.int 607)) (.var 1)) (.cst (.int 8111)))) (.cons (.ite (.cmp .lt (.var 1) (.blt .len (.cons (.var 0) (.nil)))) (.cons (.asg (.nm 2) (.blt .abs (.cons (.idx (.var 0) (.var 1)) (.nil)))) (.nil)) (.nil)) (.cons (.ret (.lst (.cons (.blt .max2 (.cons (.cst (.int 0)) (.cons (.bin .sub (.var 2) (.bin .pow (.cst (.int 10)) (.cst (.int 18)))) (.nil)))) (.cons (.bin .add (.bin .mod (.blt .int1 (.cons (.bin .add (.bin .add (.bin .mul (.bin .mod (.blt .int1 (.cons (.var 2) (.nil))) (.cst (.int 2147483549))) (.cst (.int 40014))) (.bin .mul (.cst (.int 8111)) (.var 1))) (.cst (.int 61))) (.nil))) (.cst (.int 2147483563))) (.cst (.int 1))) (.nil))))) (.nil)))
def n_law : List String := ["script", "k"]
def b_law : ISs := .cons (.ret (.blt .all1 (.cons (.lc (.call 34 (.cons (.giv (.call 35 (.cons (.var 0) (.cons (.var 1) (.nil))))) (.nil))) (.nm 1) (.rng (.cst (.int 0)) (.blt .max2 (.cons (.cst (.int 1)) (.cons (.blt .min2 (.cons (.cst (.int 2)) (.cons (.blt .len (.cons (.var 0) (.nil))) (.nil)))) (.nil))))) (.non) [1]) (.nil)))) (.nil)
def fns : List Fn := [⟨2, 3, b__law_draw⟩, ⟨1, 8, b__law_turns⟩, ⟨1, 1, b_is_integer⟩, ⟨3, 3, b_is_within⟩, ⟨1, 1, b_want_dims⟩, ⟨1, 9, b_turns_of⟩, ⟨1, 1, b_all_turns⟩, ⟨2, 2, b__law_pick⟩, ⟨2, 2, b_is_tuple⟩, ⟨2, 3, b_is_turn_of⟩, ⟨2, 2, b_want_turn⟩, ⟨2, 4, b_behind_of⟩, ⟨3, 3, b_behind_turn⟩, ⟨1, 5, b_undone_of⟩, ⟨2, 2, b_undone_turn⟩, ⟨2, 5, b__law_turned⟩, ⟨1, 1, b_is_fraction⟩, ⟨2, 3, b_is_vector_of⟩, ⟨2, 2, b_want_vector_of⟩, ⟨1, 1, b_contrary⟩, ⟨2, 4, b_turned_by⟩, ⟨3, 3, b_turned⟩, ⟨1, 2, b__law_same⟩, ⟨1, 6, b__law_determinant⟩, ⟨2, 2, b_is_turn⟩, ⟨1, 6, b_falls⟩, ⟨2, 2, b_is_proper⟩, ⟨2, 4, b__law_made⟩, ⟨2, 6, b__law_behind⟩, ⟨1, 4, b__law_table⟩, ⟨1, 2, b__law_undone⟩, ⟨1, 2, b_same_turn⟩, ⟨1, 3, b_order_of⟩, ⟨2, 2, b_turn_order⟩, ⟨1, 16, b__law_right⟩, ⟨2, 3, b__law_pot⟩, ⟨1, 2, b_law⟩]
abbrev i__law_draw : Nat := 0
abbrev i__law_turns : Nat := 1
abbrev i_is_integer : Nat := 2
abbrev i_is_within : Nat := 3
abbrev i_want_dims : Nat := 4
abbrev i_turns_of : Nat := 5
abbrev i_all_turns : Nat := 6
abbrev i__law_pick : Nat := 7
abbrev i_is_tuple : Nat := 8
abbrev i_is_turn_of : Nat := 9
abbrev i_want_turn : Nat := 10
abbrev i_behind_of : Nat := 11
abbrev i_behind_turn : Nat := 12
abbrev i_undone_of : Nat := 13
abbrev i_undone_turn : Nat := 14
abbrev i__law_turned : Nat := 15
abbrev i_is_fraction : Nat := 16
abbrev i_is_vector_of : Nat := 17
abbrev i_want_vector_of : Nat := 18
abbrev i_contrary : Nat := 19
abbrev i_turned_by : Nat := 20
abbrev i_turned : Nat := 21
abbrev i__law_same : Nat := 22
abbrev i__law_determinant : Nat := 23
abbrev i_is_turn : Nat := 24
abbrev i_falls : Nat := 25
abbrev i_is_proper : Nat := 26
abbrev i__law_made : Nat := 27
abbrev i__law_behind : Nat := 28
abbrev i__law_table : Nat := 29
abbrev i__law_undone : Nat := 30
abbrev i_same_turn : Nat := 31
abbrev i_order_of : Nat := 32
abbrev i_turn_order : Nat := 33
abbrev i__law_right : Nat := 34
abbrev i__law_pot : Nat := 35
abbrev i_law : Nat := 36
end K81

set_option Elab.async false
set_option linter.all false
set_option maxRecDepth 100000
set_option maxHeartbeats 0
namespace K81
open PySem Rf
abbrev C0 : List D := [.int 3]
abbrev G (k : Nat) : FT := callN C0 fns k
/-- a turn, a vector: pairs -/
abbrev Tn := List (Int × Int)
def T (t : Tn) : D := .tuple (t.map fun p => .tuple [.int p.1, .int p.2])
def ev1 : List Tn := [[(0, -1)],
  [(0, 1)]]
def pr1 : List Tn := [[(0, 1)]]
def ev2 : List Tn := [[(0, -1), (1, -1)],
  [(0, -1), (1, 1)],
  [(0, 1), (1, -1)],
  [(0, 1), (1, 1)],
  [(1, -1), (0, -1)],
  [(1, -1), (0, 1)],
  [(1, 1), (0, -1)],
  [(1, 1), (0, 1)]]
def pr2 : List Tn := [[(0, -1), (1, -1)],
  [(0, 1), (1, 1)],
  [(1, -1), (0, 1)],
  [(1, 1), (0, -1)]]
def ev3 : List Tn := [[(0, -1), (1, -1), (2, -1)],
  [(0, -1), (1, -1), (2, 1)],
  [(0, -1), (1, 1), (2, -1)],
  [(0, -1), (1, 1), (2, 1)],
  [(0, -1), (2, -1), (1, -1)],
  [(0, -1), (2, -1), (1, 1)],
  [(0, -1), (2, 1), (1, -1)],
  [(0, -1), (2, 1), (1, 1)],
  [(0, 1), (1, -1), (2, -1)],
  [(0, 1), (1, -1), (2, 1)],
  [(0, 1), (1, 1), (2, -1)],
  [(0, 1), (1, 1), (2, 1)],
  [(0, 1), (2, -1), (1, -1)],
  [(0, 1), (2, -1), (1, 1)],
  [(0, 1), (2, 1), (1, -1)],
  [(0, 1), (2, 1), (1, 1)],
  [(1, -1), (0, -1), (2, -1)],
  [(1, -1), (0, -1), (2, 1)],
  [(1, -1), (0, 1), (2, -1)],
  [(1, -1), (0, 1), (2, 1)],
  [(1, -1), (2, -1), (0, -1)],
  [(1, -1), (2, -1), (0, 1)],
  [(1, -1), (2, 1), (0, -1)],
  [(1, -1), (2, 1), (0, 1)],
  [(1, 1), (0, -1), (2, -1)],
  [(1, 1), (0, -1), (2, 1)],
  [(1, 1), (0, 1), (2, -1)],
  [(1, 1), (0, 1), (2, 1)],
  [(1, 1), (2, -1), (0, -1)],
  [(1, 1), (2, -1), (0, 1)],
  [(1, 1), (2, 1), (0, -1)],
  [(1, 1), (2, 1), (0, 1)],
  [(2, -1), (0, -1), (1, -1)],
  [(2, -1), (0, -1), (1, 1)],
  [(2, -1), (0, 1), (1, -1)],
  [(2, -1), (0, 1), (1, 1)],
  [(2, -1), (1, -1), (0, -1)],
  [(2, -1), (1, -1), (0, 1)],
  [(2, -1), (1, 1), (0, -1)],
  [(2, -1), (1, 1), (0, 1)],
  [(2, 1), (0, -1), (1, -1)],
  [(2, 1), (0, -1), (1, 1)],
  [(2, 1), (0, 1), (1, -1)],
  [(2, 1), (0, 1), (1, 1)],
  [(2, 1), (1, -1), (0, -1)],
  [(2, 1), (1, -1), (0, 1)],
  [(2, 1), (1, 1), (0, -1)],
  [(2, 1), (1, 1), (0, 1)]]
def pr3 : List Tn := [[(0, -1), (1, -1), (2, 1)],
  [(0, -1), (1, 1), (2, -1)],
  [(0, -1), (2, -1), (1, -1)],
  [(0, -1), (2, 1), (1, 1)],
  [(0, 1), (1, -1), (2, -1)],
  [(0, 1), (1, 1), (2, 1)],
  [(0, 1), (2, -1), (1, 1)],
  [(0, 1), (2, 1), (1, -1)],
  [(1, -1), (0, -1), (2, -1)],
  [(1, -1), (0, 1), (2, 1)],
  [(1, -1), (2, -1), (0, 1)],
  [(1, -1), (2, 1), (0, -1)],
  [(1, 1), (0, -1), (2, 1)],
  [(1, 1), (0, 1), (2, -1)],
  [(1, 1), (2, -1), (0, -1)],
  [(1, 1), (2, 1), (0, 1)],
  [(2, -1), (0, -1), (1, 1)],
  [(2, -1), (0, 1), (1, -1)],
  [(2, -1), (1, -1), (0, -1)],
  [(2, -1), (1, 1), (0, 1)],
  [(2, 1), (0, -1), (1, -1)],
  [(2, 1), (0, 1), (1, 1)],
  [(2, 1), (1, -1), (0, 1)],
  [(2, 1), (1, 1), (0, -1)]]
def evs (d : Int) : List Tn := if d = 1 then ev1 else if d = 2 then ev2 else ev3
def prs (d : Int) : List Tn := if d = 1 then pr1 else if d = 2 then pr2 else pr3
def gt (x : Tn) (a : Int) : Int × Int := x.getD a.toNat (0, 0)
/-- x behind y; a turn back; a vector turned -/
def bh (x y : Tn) : Tn := x.map fun p => ((gt y p.1).1, p.2 * (gt y p.1).2)
def plc (x : Tn) (i : Int) (k : Int) : Int × Int := match x with
  | [] => (0, 0)
  | p :: r => if p.1 = i then (k, p.2) else plc r i (k + 1)
def ud (x : Tn) : Tn := (List.range x.length).map fun i : Nat => plc x (i : Int) 0
def tv (t xs : Tn) : Tn := t.map fun p => (p.2 * (gt xs p.1).1, (gt xs p.1).2)
def tneq (a b : Tn) : Bool := decide (a = b)
def px (d : Int) (x : Tn) : Bool := (prs d).any (tneq x)

mutual
def deq : D → D → Bool
  | .none, .none => true
  | .bool a, .bool b => a == b
  | .int a, .int b => decide (a = b)
  | .str a, .str b => decide (a = b)
  | .list a, .list b => deqs a b
  | .tuple a, .tuple b => deqs a b
  | _, _ => false
def deqs : List D → List D → Bool
  | [], [] => true
  | a :: r, b :: s => deq a b && deqs r s
  | _, _ => false
end
mutual
theorem deq_ok : ∀ (a b : D), deq a b = true → a = b
  | a, b, h => by
    cases a <;> cases b <;> simp only [deq] at h <;> first | (cases h; done) | rfl | (rw [eq_of_beq h]; done) | (rw [of_decide_eq_true h]; done) | (rw [deqs_ok _ _ h]; done)
theorem deqs_ok : ∀ (a b : List D), deqs a b = true → a = b
  | [], [], _ => rfl
  | [], _ :: _, h => by simp [deqs] at h
  | _ :: _, [], h => by simp [deqs] at h
  | a :: r, b :: s, h => by
    simp only [deqs, Bool.and_eq_true] at h
    rw [deq_ok a b h.1, deqs_ok r s h.2]
end
def isPu (r : Option Rt) (d : D) : Bool := match r with
  | some (.pu e, []) => deq e d
  | _ => false
theorem isPu_ok {r : Option Rt} {d : D} (h : isPu r d = true) : r = some (.pu d, []) := by
  unfold isPu at h
  split at h
  · rw [deq_ok _ _ h]
  · cases h

def tvc (t xs : Tn) : Tn := t.map fun p => if p.2 = 1 then gt xs p.1 else (0 - (gt xs p.1).1, (gt xs p.1).2)
def sameT (d : Nat) : Tn := (List.range d).map fun i : Nat => ((i : Int), (1 : Int))
/-- how often t till all is as it was -/
def ordL (d : Nat) (t : Tn) : Nat → Tn → Int → Option Int
  | 0, _, _ => none
  | n + 1, now, many => if tneq now (sameT d) then some many else ordL d t n (bh now t) (many + 1)
def ordT (d : Nat) (t : Tn) : Int := (ordL d t 12 t 1).getD 0

end K81

set_option Elab.async false
set_option linter.all false
set_option maxRecDepth 100000
set_option maxHeartbeats 0
namespace K81
open PySem Rf
theorem all_parts {α : Type} {l : List α} {p : α → Bool} (c k : Nat) (hl : l.length ≤ c * k ∧ 0 < c) (h : ∀ i, i < k → ((l.drop (c * i)).take c).all p = true) : l.all p = true := by
  rw [List.all_eq_true]
  intro x hx
  obtain ⟨j, hj, e⟩ := List.getElem_of_mem hx
  have hi : j / c < k := Nat.div_lt_of_lt_mul (by omega)
  have hm := Nat.mod_lt j hl.2
  have hd := Nat.div_add_mod j c
  refine List.all_eq_true.mp (h (j / c) hi) x ?_
  refine List.mem_of_getElem? (i := j % c) ?_
  rw [List.getElem?_take_of_lt hm, List.getElem?_drop, hd, ← e]
  exact List.getElem?_eq_getElem hj
theorem e1_1 : G 38 1 [.pu (.int 1)] = some (.fr (ev1.map T), []) := by kernel_rfl
theorem e6_1 : G 38 6 [.pu (.int 1)] = some (.fr (ev1.map T), []) := by kernel_rfl
theorem e12_1 : (ev1.all fun x => ev1.all fun y => isPu (G 38 12 [.pu (.int 1), .pu (T x), .pu (T y)]) (T (bh x y))) = true := by decide +kernel
theorem e28_1 : (ev1.all fun x => ev1.all fun y => isPu (G 38 28 [.pu (T x), .pu (T y)]) (T (bh x y))) = true := by decide +kernel
theorem e14_1 : (ev1.all fun x => isPu (G 38 14 [.pu (.int 1), .pu (T x)]) (T (ud x))) = true := by decide +kernel
theorem e30_1 : (ev1.all fun x => isPu (G 38 30 [.pu (T x)]) (T (ud x))) = true := by decide +kernel
theorem e24_1 : (ev1.all fun x => isPu (G 38 24 [.pu (.int 1), .pu (T x)]) (.bool true)) = true := by decide +kernel
theorem e26_1 : (ev1.all fun x => isPu (G 38 26 [.pu (.int 1), .pu (T x)]) (.bool (px 1 x))) = true := by decide +kernel
theorem e33_1 : (ev1.all fun x => isPu (G 38 33 [.pu (.int 1), .pu (T x)]) (.int (ordT 1 x)) && (ordL 1 x 12 x 1).isSome) = true := by decide +kernel
theorem e22_1 : isPu (G 38 22 [.pu (.int 1)]) (T (sameT 1)) = true := by decide +kernel
theorem e4_1 : isPu (G 37 4 [.pu (.int 1)]) .none = true := by decide +kernel
theorem e10_1 : (ev1.all fun x => isPu (G 37 10 [.pu (.int 1), .pu (T x)]) .none) = true := by decide +kernel
theorem ebh_1 : (ev1.all fun x => ev1.all fun y => ev1.any (tneq (bh x y)) && (px 1 (bh x y) == (px 1 x == px 1 y))) = true := by decide +kernel
theorem eud_1 : (ev1.all fun x => ev1.any (tneq (ud x))) = true := by decide +kernel
theorem e20_1 (n0 d0 : Int) : (ev1.map fun t => G 37 20 [.pu (T t), .pu (T [(n0, d0)])]) = ev1.map fun t => some (.pu (T (tvc t [(n0, d0)])), []) := by kernel_rfl
theorem e15_1 (n0 d0 : Int) : (ev1.map fun t => G 38 15 [.pu (T t), .pu (T [(n0, d0)])]) = ev1.map fun t => some (.pu (T (tv t [(n0, d0)])), []) := by kernel_rfl

theorem e1_2 : G 38 1 [.pu (.int 2)] = some (.fr (ev2.map T), []) := by kernel_rfl
theorem e6_2 : G 38 6 [.pu (.int 2)] = some (.fr (ev2.map T), []) := by kernel_rfl
theorem e12_2 : (ev2.all fun x => ev2.all fun y => isPu (G 38 12 [.pu (.int 2), .pu (T x), .pu (T y)]) (T (bh x y))) = true := by decide +kernel
theorem e28_2 : (ev2.all fun x => ev2.all fun y => isPu (G 38 28 [.pu (T x), .pu (T y)]) (T (bh x y))) = true := by decide +kernel
theorem e14_2 : (ev2.all fun x => isPu (G 38 14 [.pu (.int 2), .pu (T x)]) (T (ud x))) = true := by decide +kernel
theorem e30_2 : (ev2.all fun x => isPu (G 38 30 [.pu (T x)]) (T (ud x))) = true := by decide +kernel
theorem e24_2 : (ev2.all fun x => isPu (G 38 24 [.pu (.int 2), .pu (T x)]) (.bool true)) = true := by decide +kernel
theorem e26_2 : (ev2.all fun x => isPu (G 38 26 [.pu (.int 2), .pu (T x)]) (.bool (px 2 x))) = true := by decide +kernel
theorem e33_2 : (ev2.all fun x => isPu (G 38 33 [.pu (.int 2), .pu (T x)]) (.int (ordT 2 x)) && (ordL 2 x 12 x 1).isSome) = true := by decide +kernel
theorem e22_2 : isPu (G 38 22 [.pu (.int 2)]) (T (sameT 2)) = true := by decide +kernel
theorem e4_2 : isPu (G 37 4 [.pu (.int 2)]) .none = true := by decide +kernel
theorem e10_2 : (ev2.all fun x => isPu (G 37 10 [.pu (.int 2), .pu (T x)]) .none) = true := by decide +kernel
theorem ebh_2 : (ev2.all fun x => ev2.all fun y => ev2.any (tneq (bh x y)) && (px 2 (bh x y) == (px 2 x == px 2 y))) = true := by decide +kernel
theorem eud_2 : (ev2.all fun x => ev2.any (tneq (ud x))) = true := by decide +kernel
theorem e20_2 (n0 d0 n1 d1 : Int) : (ev2.map fun t => G 37 20 [.pu (T t), .pu (T [(n0, d0), (n1, d1)])]) = ev2.map fun t => some (.pu (T (tvc t [(n0, d0), (n1, d1)])), []) := by kernel_rfl
theorem e15_2 (n0 d0 n1 d1 : Int) : (ev2.map fun t => G 38 15 [.pu (T t), .pu (T [(n0, d0), (n1, d1)])]) = ev2.map fun t => some (.pu (T (tv t [(n0, d0), (n1, d1)])), []) := by kernel_rfl

theorem e1_3 : G 38 1 [.pu (.int 3)] = some (.fr (ev3.map T), []) := by kernel_rfl
theorem e6_3 : G 38 6 [.pu (.int 3)] = some (.fr (ev3.map T), []) := by kernel_rfl
theorem e12_3_0 : (((ev3.drop 0).take 4).all fun x => ev3.all fun y => isPu (G 38 12 [.pu (.int 3), .pu (T x), .pu (T y)]) (T (bh x y))) = true := by decide +kernel
theorem e12_3_1 : (((ev3.drop 4).take 4).all fun x => ev3.all fun y => isPu (G 38 12 [.pu (.int 3), .pu (T x), .pu (T y)]) (T (bh x y))) = true := by decide +kernel
theorem e12_3_2 : (((ev3.drop 8).take 4).all fun x => ev3.all fun y => isPu (G 38 12 [.pu (.int 3), .pu (T x), .pu (T y)]) (T (bh x y))) = true := by decide +kernel
theorem e12_3_3 : (((ev3.drop 12).take 4).all fun x => ev3.all fun y => isPu (G 38 12 [.pu (.int 3), .pu (T x), .pu (T y)]) (T (bh x y))) = true := by decide +kernel
theorem e12_3_4 : (((ev3.drop 16).take 4).all fun x => ev3.all fun y => isPu (G 38 12 [.pu (.int 3), .pu (T x), .pu (T y)]) (T (bh x y))) = true := by decide +kernel
theorem e12_3_5 : (((ev3.drop 20).take 4).all fun x => ev3.all fun y => isPu (G 38 12 [.pu (.int 3), .pu (T x), .pu (T y)]) (T (bh x y))) = true := by decide +kernel
theorem e12_3_6 : (((ev3.drop 24).take 4).all fun x => ev3.all fun y => isPu (G 38 12 [.pu (.int 3), .pu (T x), .pu (T y)]) (T (bh x y))) = true := by decide +kernel
theorem e12_3_7 : (((ev3.drop 28).take 4).all fun x => ev3.all fun y => isPu (G 38 12 [.pu (.int 3), .pu (T x), .pu (T y)]) (T (bh x y))) = true := by decide +kernel
theorem e12_3_8 : (((ev3.drop 32).take 4).all fun x => ev3.all fun y => isPu (G 38 12 [.pu (.int 3), .pu (T x), .pu (T y)]) (T (bh x y))) = true := by decide +kernel
theorem e12_3_9 : (((ev3.drop 36).take 4).all fun x => ev3.all fun y => isPu (G 38 12 [.pu (.int 3), .pu (T x), .pu (T y)]) (T (bh x y))) = true := by decide +kernel
theorem e12_3_10 : (((ev3.drop 40).take 4).all fun x => ev3.all fun y => isPu (G 38 12 [.pu (.int 3), .pu (T x), .pu (T y)]) (T (bh x y))) = true := by decide +kernel
theorem e12_3_11 : (((ev3.drop 44).take 4).all fun x => ev3.all fun y => isPu (G 38 12 [.pu (.int 3), .pu (T x), .pu (T y)]) (T (bh x y))) = true := by decide +kernel
theorem e12_3 : (ev3.all fun x => ev3.all fun y => isPu (G 38 12 [.pu (.int 3), .pu (T x), .pu (T y)]) (T (bh x y))) = true := all_parts 4 12 (by decide) fun i hi => match i, hi with | 0, _ => e12_3_0 | 1, _ => e12_3_1 | 2, _ => e12_3_2 | 3, _ => e12_3_3 | 4, _ => e12_3_4 | 5, _ => e12_3_5 | 6, _ => e12_3_6 | 7, _ => e12_3_7 | 8, _ => e12_3_8 | 9, _ => e12_3_9 | 10, _ => e12_3_10 | 11, _ => e12_3_11 | i + 12, hi => absurd hi (by omega)
theorem e28_3_0 : (((ev3.drop 0).take 4).all fun x => ev3.all fun y => isPu (G 38 28 [.pu (T x), .pu (T y)]) (T (bh x y))) = true := by decide +kernel
theorem e28_3_1 : (((ev3.drop 4).take 4).all fun x => ev3.all fun y => isPu (G 38 28 [.pu (T x), .pu (T y)]) (T (bh x y))) = true := by decide +kernel
theorem e28_3_2 : (((ev3.drop 8).take 4).all fun x => ev3.all fun y => isPu (G 38 28 [.pu (T x), .pu (T y)]) (T (bh x y))) = true := by decide +kernel
theorem e28_3_3 : (((ev3.drop 12).take 4).all fun x => ev3.all fun y => isPu (G 38 28 [.pu (T x), .pu (T y)]) (T (bh x y))) = true := by decide +kernel
theorem e28_3_4 : (((ev3.drop 16).take 4).all fun x => ev3.all fun y => isPu (G 38 28 [.pu (T x), .pu (T y)]) (T (bh x y))) = true := by decide +kernel
theorem e28_3_5 : (((ev3.drop 20).take 4).all fun x => ev3.all fun y => isPu (G 38 28 [.pu (T x), .pu (T y)]) (T (bh x y))) = true := by decide +kernel
theorem e28_3_6 : (((ev3.drop 24).take 4).all fun x => ev3.all fun y => isPu (G 38 28 [.pu (T x), .pu (T y)]) (T (bh x y))) = true := by decide +kernel
theorem e28_3_7 : (((ev3.drop 28).take 4).all fun x => ev3.all fun y => isPu (G 38 28 [.pu (T x), .pu (T y)]) (T (bh x y))) = true := by decide +kernel
theorem e28_3_8 : (((ev3.drop 32).take 4).all fun x => ev3.all fun y => isPu (G 38 28 [.pu (T x), .pu (T y)]) (T (bh x y))) = true := by decide +kernel
theorem e28_3_9 : (((ev3.drop 36).take 4).all fun x => ev3.all fun y => isPu (G 38 28 [.pu (T x), .pu (T y)]) (T (bh x y))) = true := by decide +kernel
theorem e28_3_10 : (((ev3.drop 40).take 4).all fun x => ev3.all fun y => isPu (G 38 28 [.pu (T x), .pu (T y)]) (T (bh x y))) = true := by decide +kernel
theorem e28_3_11 : (((ev3.drop 44).take 4).all fun x => ev3.all fun y => isPu (G 38 28 [.pu (T x), .pu (T y)]) (T (bh x y))) = true := by decide +kernel
theorem e28_3 : (ev3.all fun x => ev3.all fun y => isPu (G 38 28 [.pu (T x), .pu (T y)]) (T (bh x y))) = true := all_parts 4 12 (by decide) fun i hi => match i, hi with | 0, _ => e28_3_0 | 1, _ => e28_3_1 | 2, _ => e28_3_2 | 3, _ => e28_3_3 | 4, _ => e28_3_4 | 5, _ => e28_3_5 | 6, _ => e28_3_6 | 7, _ => e28_3_7 | 8, _ => e28_3_8 | 9, _ => e28_3_9 | 10, _ => e28_3_10 | 11, _ => e28_3_11 | i + 12, hi => absurd hi (by omega)
theorem e14_3 : (ev3.all fun x => isPu (G 38 14 [.pu (.int 3), .pu (T x)]) (T (ud x))) = true := by decide +kernel
theorem e30_3_0 : (((ev3.drop 0).take 4).all fun x => isPu (G 38 30 [.pu (T x)]) (T (ud x))) = true := by decide +kernel
theorem e30_3_1 : (((ev3.drop 4).take 4).all fun x => isPu (G 38 30 [.pu (T x)]) (T (ud x))) = true := by decide +kernel
theorem e30_3_2 : (((ev3.drop 8).take 4).all fun x => isPu (G 38 30 [.pu (T x)]) (T (ud x))) = true := by decide +kernel
theorem e30_3_3 : (((ev3.drop 12).take 4).all fun x => isPu (G 38 30 [.pu (T x)]) (T (ud x))) = true := by decide +kernel
theorem e30_3_4 : (((ev3.drop 16).take 4).all fun x => isPu (G 38 30 [.pu (T x)]) (T (ud x))) = true := by decide +kernel
theorem e30_3_5 : (((ev3.drop 20).take 4).all fun x => isPu (G 38 30 [.pu (T x)]) (T (ud x))) = true := by decide +kernel
theorem e30_3_6 : (((ev3.drop 24).take 4).all fun x => isPu (G 38 30 [.pu (T x)]) (T (ud x))) = true := by decide +kernel
theorem e30_3_7 : (((ev3.drop 28).take 4).all fun x => isPu (G 38 30 [.pu (T x)]) (T (ud x))) = true := by decide +kernel
theorem e30_3_8 : (((ev3.drop 32).take 4).all fun x => isPu (G 38 30 [.pu (T x)]) (T (ud x))) = true := by decide +kernel
theorem e30_3_9 : (((ev3.drop 36).take 4).all fun x => isPu (G 38 30 [.pu (T x)]) (T (ud x))) = true := by decide +kernel
theorem e30_3_10 : (((ev3.drop 40).take 4).all fun x => isPu (G 38 30 [.pu (T x)]) (T (ud x))) = true := by decide +kernel
theorem e30_3_11 : (((ev3.drop 44).take 4).all fun x => isPu (G 38 30 [.pu (T x)]) (T (ud x))) = true := by decide +kernel
theorem e30_3 : (ev3.all fun x => isPu (G 38 30 [.pu (T x)]) (T (ud x))) = true := all_parts 4 12 (by decide) fun i hi => match i, hi with | 0, _ => e30_3_0 | 1, _ => e30_3_1 | 2, _ => e30_3_2 | 3, _ => e30_3_3 | 4, _ => e30_3_4 | 5, _ => e30_3_5 | 6, _ => e30_3_6 | 7, _ => e30_3_7 | 8, _ => e30_3_8 | 9, _ => e30_3_9 | 10, _ => e30_3_10 | 11, _ => e30_3_11 | i + 12, hi => absurd hi (by omega)
theorem e24_3 : (ev3.all fun x => isPu (G 38 24 [.pu (.int 3), .pu (T x)]) (.bool true)) = true := by decide +kernel
theorem e26_3 : (ev3.all fun x => isPu (G 38 26 [.pu (.int 3), .pu (T x)]) (.bool (px 3 x))) = true := by decide +kernel
theorem e33_3 : (ev3.all fun x => isPu (G 38 33 [.pu (.int 3), .pu (T x)]) (.int (ordT 3 x)) && (ordL 3 x 12 x 1).isSome) = true := by decide +kernel
theorem e22_3 : isPu (G 38 22 [.pu (.int 3)]) (T (sameT 3)) = true := by decide +kernel
theorem e4_3 : isPu (G 37 4 [.pu (.int 3)]) .none = true := by decide +kernel
theorem e10_3 : (ev3.all fun x => isPu (G 37 10 [.pu (.int 3), .pu (T x)]) .none) = true := by decide +kernel
theorem ebh_3 : (ev3.all fun x => ev3.all fun y => ev3.any (tneq (bh x y)) && (px 3 (bh x y) == (px 3 x == px 3 y))) = true := by decide +kernel
theorem eud_3 : (ev3.all fun x => ev3.any (tneq (ud x))) = true := by decide +kernel
theorem e20_3 (n0 d0 n1 d1 n2 d2 : Int) : (ev3.map fun t => G 37 20 [.pu (T t), .pu (T [(n0, d0), (n1, d1), (n2, d2)])]) = ev3.map fun t => some (.pu (T (tvc t [(n0, d0), (n1, d1), (n2, d2)])), []) := by kernel_rfl
theorem e15_3 (n0 d0 n1 d1 n2 d2 : Int) : (ev3.map fun t => G 38 15 [.pu (T t), .pu (T [(n0, d0), (n1, d1), (n2, d2)])]) = ev3.map fun t => some (.pu (T (tv t [(n0, d0), (n1, d1), (n2, d2)])), []) := by kernel_rfl
end K81

set_option Elab.async false
set_option linter.all false
set_option maxRecDepth 100000
set_option maxHeartbeats 0
namespace K81
open PySem Rf
def Pot (p0 p1 : Int) : Prop := 0 ≤ p0 ∧ 0 ≤ p1 ∧ p1 < 2147483600
theorem sm {i : Int} (h0 : 0 ≤ i) (h1 : i < 18446744073709551616) : small64 i = true := by
  unfold small64 Nat.blt
  exact Nat.ble_eq_true_of_le (by omega)
theorem draw_ok {k : Nat} {p0 p1 m : Int} (h : Pot p0 p1) (h1 : 0 < m) (h2 : m < 1073741824) : ∃ d q0 q1, G (k + 1) 0 [.io [.int p0, .int p1], .pu (.int m)] = some (.pu (.int d), [[.int q0, .int q1]]) ∧ Pot q0 q1 ∧ 0 ≤ d ∧ d < m := by
  obtain ⟨a0, a1, a2⟩ := h
  by_cases hp : 0 < p0
  · refine ⟨p0 % m, p0 / m, p1, ?_, ⟨Int.ediv_nonneg a0 (by omega), a1, a2⟩, Int.emod_nonneg _ (by omega), Int.emod_lt_of_pos _ h1⟩
    simp [G, callN, fns, runF, slOf, b__law_draw, evSs, evS, evE, evA, rds, rdsAll, idxV, ixOf, L2.atI, L2.ixN, cmpV, hp, thaw, bltV, h1, h2, frzd, asgT, asgTs, setAt, putv, finF, rvOf, outsOf]
  · have s1 : mulOk p1 39373 = true := by unfold mulOk; rw [sm a1 (by omega)]; rfl
    have n0 : 0 ≤ (p1 * 39373 + 617) % 2147483587 := Int.emod_nonneg _ (by decide)
    have n1 : (p1 * 39373 + 617) % 2147483587 < 2147483587 := Int.emod_lt_of_pos _ (by decide)
    generalize hq : (p1 * 39373 + 617) % 2147483587 = q at n0 n1
    have s2 : mulOk q q = true := by unfold mulOk; rw [sm n0 (by omega)]; rfl
    refine ⟨(q * q % 2147483563 / 19) % m, p0, q, ?_, ⟨a0, n0, by omega⟩, Int.emod_nonneg _ (by omega), Int.emod_lt_of_pos _ h1⟩
    simp [G, callN, fns, runF, slOf, b__law_draw, evSs, evS, evE, evA, rds, rdsAll, rdp, idxV, ixOf, L2.atI, L2.ixN, cmpV, hp, thaw, bltV, h1, h2, frzd, asgT, asgTs, setAt, putv, finF, rvOf, outsOf, binV, s1, s2, hq, show Nat.log2 19 < 9000 by decide +kernel]
theorem one {k f : Nat} {as : List Ar} {fn : Fn} (h : fns[f]? = some fn) : G (k + 1) f as = runF (G k) C0 fn as := by
  unfold G
  simp only [callN, h]
theorem atI_in {α : Type} {xs : List α} {d : Int} (h0 : 0 ≤ d) (h1 : d < xs.length) : ∃ x, L2.atI xs d = some x ∧ x ∈ xs := by
  have hl : d.toNat < xs.length := by omega
  refine ⟨xs[d.toNat], ?_, List.getElem_mem _⟩
  unfold L2.atI L2.ixN
  rw [if_pos h0, if_pos (by exact_mod_cast h1)]
  simp [hl]
theorem pick_ok {k : Nat} {p0 p1 : Int} {xs : List D} (h : Pot p0 p1) (h1 : 0 < xs.length) (h2 : xs.length < 1000) : ∃ x q0 q1, G (k + 2) 7 [.io [.int p0, .int p1], .pu (.list xs)] = some (.pu x, [[.int q0, .int q1]]) ∧ Pot q0 q1 ∧ x ∈ xs := by
  obtain ⟨d, q0, q1, e, hp, d0, d1⟩ := draw_ok (k := k) (m := (xs.length : Int)) h (by omega) (by omega)
  obtain ⟨x, hx, hm⟩ := atI_in d0 d1
  refine ⟨x, q0, q1, ?_, hp, hm⟩
  rw [one (fn := ⟨2, 2, b__law_pick⟩) rfl]
  simp [runF, slOf, b__law_pick, evSs, evS, evE, evA, rds, rdsAll, rdp, idxV, ixOf, thaw, bltV, callO, arsOf, arOf, iosOf, distinct, backOut, rvO, frzd, finF, rvOf, outsOf, e, hx]
/-! ### fractions -/
theorem eu_ok {a b : Int} (F : FT) : ∀ (fuel : Nat) (m n : Nat), n < fuel → whLoop (fun e => match evE F C0 (.cmp .ne (.var 3) (.cst (.int 0))) e with
      | some (.pu (.bool k), e1) => some (k, e1)
      | _ => none) (fun e => evSs F C0 (.cons (.par2 2 3 false false (.var 3) (.bin .mod (.blt .int1 (.cons (.var 2) (.nil))) (.var 3))) .nil) e) fuel [.val (.int a), .val (.int b), .val (.int m), .val (.int n)] =
    some (.nx [.val (.int a), .val (.int b), .val (.int (Nat.gcd m n : Nat)), .val (.int 0)])
  | 0, _, _, h => by omega
  | fuel + 1, m, 0, _ => by
    simp [whLoop, evE, rds, cmpV, eqD, scalD]
  | fuel + 1, m, n + 1, h => by
    have ih := eu_ok (a := a) (b := b) F fuel (n + 1) (m % (n + 1)) (Nat.lt_of_lt_of_le (Nat.mod_lt _ (Nat.succ_pos n)) (by omega))
    have hg : Nat.gcd m (n + 1) = Nat.gcd (n + 1) (m % (n + 1)) := by rw [Nat.gcd_comm, Nat.gcd_rec, Nat.gcd_comm]
    rw [whLoop]
    have ne : ¬ ((n : Int) + 1 = 0) := by omega
    have ps : (0 : Int) < (n : Int) + 1 := by omega
    simp [evE, evA, evSs, evS, rds, rdsAll, rdp, cmpV, eqD, scalD, ne, bltV, thaw, binV, ps, slotOf, putv, Nat.blt] at ih ⊢
    rw [hg]
    exact ih
def Fr (n d : Int) : Prop := 1 ≤ d ∧ d ≤ 60 ∧ n.natAbs ≤ 1000 ∧ Nat.gcd n.natAbs d.natAbs = 1
theorem div_fr {a b : Int} (ha : a.natAbs ≤ 1000) (hb : 1 ≤ b) (hb2 : b ≤ 60) : Fr (a / (Nat.gcd a.natAbs b.natAbs : Nat)) (b / (Nat.gcd a.natAbs b.natAbs : Nat)) := by
  have g0 : 0 < Nat.gcd a.natAbs b.natAbs := Nat.gcd_pos_of_pos_right _ (by omega)
  have da : ((Nat.gcd a.natAbs b.natAbs : Nat) : Int) ∣ a := Int.natAbs_dvd_natAbs.mp (by simpa using Nat.gcd_dvd_left a.natAbs b.natAbs)
  have db : ((Nat.gcd a.natAbs b.natAbs : Nat) : Int) ∣ b := Int.natAbs_dvd_natAbs.mp (by simpa using Nat.gcd_dvd_right a.natAbs b.natAbs)
  have na : (a / (Nat.gcd a.natAbs b.natAbs : Nat)).natAbs = a.natAbs / Nat.gcd a.natAbs b.natAbs := by
    rw [Int.natAbs_ediv_of_dvd da]; simp
  have nb : (b / (Nat.gcd a.natAbs b.natAbs : Nat)).natAbs = b.natAbs / Nat.gcd a.natAbs b.natAbs := by
    rw [Int.natAbs_ediv_of_dvd db]; simp
  have hbn : Nat.gcd a.natAbs b.natAbs ≤ b.natAbs := Nat.le_of_dvd (by omega) (Nat.gcd_dvd_right _ _)
  have b1 : 1 ≤ b.natAbs / Nat.gcd a.natAbs b.natAbs := Nat.div_pos hbn g0
  have b2 : b.natAbs / Nat.gcd a.natAbs b.natAbs ≤ b.natAbs := Nat.div_le_self _ _
  have a2 : a.natAbs / Nat.gcd a.natAbs b.natAbs ≤ a.natAbs := Nat.div_le_self _ _
  have bp : 0 ≤ b / (Nat.gcd a.natAbs b.natAbs : Nat) := Int.ediv_nonneg (by omega) (by omega)
  refine ⟨by omega, by omega, by omega, ?_⟩
  rw [na, nb, Nat.gcd_div (Nat.gcd_dvd_left _ _) (Nat.gcd_dvd_right _ _)]
  exact Nat.div_self g0
theorem made_ok {k : Nat} {a b : Int} (ha : a.natAbs ≤ 1000) (hb : 1 ≤ b) (hb2 : b ≤ 60) : ∃ n d, G (k + 1) 27 [.pu (.int a), .pu (.int b)] = some (.pu (.tuple [.int n, .int d]), []) ∧ Fr n d := by
  refine ⟨_, _, ?_, div_fr ha hb hb2⟩
  rw [one (fn := ⟨2, 4, b__law_made⟩) rfl]
  have hab : (if a < 0 then -a else a) = ((a.natAbs : Nat) : Int) := by split <;> omega
  have hbb : b = ((b.natAbs : Nat) : Int) := by omega
  have w := eu_ok (a := a) (b := b) (G k) 1000000 a.natAbs b.natAbs (by omega)
  rw [← hbb] at w
  have g0 : 0 < Nat.gcd a.natAbs b.natAbs := Nat.gcd_pos_of_pos_right _ (by omega)
  have g1 : Nat.gcd a.natAbs b.natAbs ≤ b.natAbs := Nat.le_of_dvd (by omega) (Nat.gcd_dvd_right _ _)
  have gp : (0 : Int) < ((Nat.gcd a.natAbs b.natAbs : Nat) : Int) := by omega
  have gl : Nat.log2 (Nat.gcd a.natAbs b.natAbs) < 9000 := Nat.lt_of_le_of_lt (Nat.log2_le_self _) (by omega)
  have s1 : evS (G k) C0 (.par2 2 3 false false (.blt .abs (.cons (.var 0) (.nil))) (.var 1)) [.val (.int a), .val (.int b), .emp, .emp] = some (.nx [.val (.int a), .val (.int b), .val (.int (a.natAbs : Nat)), .val (.int b)]) := by
    simp [evS, evE, evA, rds, rdsAll, bltV, thaw, slotOf, putv, Nat.blt, hab]
  have hW : evS (G k) C0 (.wh (.cmp .ne (.var 3) (.cst (.int 0))) (.cons (.par2 2 3 false false (.var 3) (.bin .mod (.blt .int1 (.cons (.var 2) (.nil))) (.var 3))) (.nil))) [.val (.int a), .val (.int b), .val (.int (a.natAbs : Nat)), .val (.int b)] =
      some (.nx [.val (.int a), .val (.int b), .val (.int (Nat.gcd a.natAbs b.natAbs : Nat)), .val (.int 0)]) := by
    rw [evS]; exact w
  simp only [runF, b__law_made, evSs]
  rw [show slOf 0 [Ar.pu (PyData.int a), Ar.pu (PyData.int b)] ++ List.replicate (4 - 2) Sl.emp = [.val (.int a), .val (.int b), .emp, .emp] from rfl, s1]
  simp only [hW]
  have bf : ∀ i : Int, binV .fdiv (.int i) (.int ((Nat.gcd a.natAbs b.natAbs : Nat) : Int)) = some (.pu (.int (i / (Nat.gcd a.natAbs b.natAbs : Nat)))) := fun i => by
    show (if (decide ((0 : Int) < ((Nat.gcd a.natAbs b.natAbs : Nat) : Int)) && Nat.blt ((Nat.gcd a.natAbs b.natAbs : Nat) : Int).natAbs.log2 9000) = true then some (Opd.pu (.int (i / (Nat.gcd a.natAbs b.natAbs : Nat)))) else none) = _
    rw [if_pos]
    rw [decide_eq_true gp, Int.natAbs_natCast, show Nat.blt (Nat.gcd a.natAbs b.natAbs).log2 9000 = true from Nat.ble_eq_true_of_le gl]
    rfl
  clear w hW
  generalize hG : Nat.gcd a.natAbs b.natAbs = g at bf ⊢
  simp [evS, evE, evP, rdp, bf, frzd, lenOk, finF, rvOf, outsOf]
theorem int_ok {k : Nat} {n : Int} : G (k + 1) 2 [.pu (.int n)] = some (.pu (.bool true), []) := by
  rw [one (fn := ⟨1, 1, b_is_integer⟩) rfl]
  simp [runF, slOf, b_is_integer, evSs, evS, evE, evA, rdp, tyIs, frzd, finF, rvOf, outsOf]
theorem fr_ok {k : Nat} {n d : Int} (h : Fr n d) : G (k + 2) 16 [.pu (.tuple [.int n, .int d])] = some (.pu (.bool true), []) := by
  obtain ⟨h1, h2, h3, h4⟩ := h
  rw [one (fn := ⟨1, 1, b_is_fraction⟩) rfl]
  have i1 := int_ok (k := k) (n := n)
  have i2 := int_ok (k := k) (n := d)
  simp [runF, slOf, b_is_fraction, evSs, evS, evE, evA, rdp, rds, rdsAll, tyIs, frzd, finF, rvOf, outsOf, callO, arsOf, arOf, iosOf, distinct, backOut, rvO, thaw, idxV, ixOf, L2.atI, L2.ixN, cmpV, eqD, scalD, bltV, i1, i2, h1, h4]
def FrA (xs : Tn) : Prop := ∀ p ∈ xs, Fr p.1 p.2
theorem vloop {k : Nat} {v d : Sl} : ∀ xs : Tn, FrA xs → lcLoop (fun d e => asgT (G (k + 2)) C0 (.nm 2) d e) (fun e => evD (G (k + 2)) C0 .non e) (fun e => frzE (evE (G (k + 2)) C0 (.call 16 (.cons (.var 2) (.nil))) e)) [2] (xs.map fun p => .tuple [.int p.1, .int p.2]) [v, d, .emp] =
    some (xs.map fun _ => .bool true, [v, d, .emp])
  | [], _ => rfl
  | p :: xs, h => by
    have ih := vloop (k := k) (v := v) (d := d) xs fun q hq => h q (List.mem_cons_of_mem _ hq)
    have f := fr_ok (k := k) (h p List.mem_cons_self)
    simp only [List.map_cons, lcLoop]
    simp [asgT, putv, evD, evE, evA, wipeE, callO, arsOf, arOf, iosOf, distinct, backOut, rvO, thaw, frzE, frzd, f, Nat.blt] at ih ⊢
    rw [ih]
theorem bools_t : ∀ xs : Tn, boolsOf (xs.map fun _ => (.bool true : D)) = some (xs.map fun _ => true)
  | [] => rfl
  | _ :: xs => by simp [boolsOf, bools_t xs]
theorem vec_ok {k : Nat} {xs : Tn} {m : Int} (h : FrA xs) (hm : (xs.length : Int) = m) (hl : xs.length ≤ 10) : G (k + 3) 17 [.pu (T xs), .pu (.int m)] = some (.pu (.bool true), []) := by
  have hz : lenOk xs.length = true := Nat.ble_eq_true_of_le (by omega)
  rw [one (fn := ⟨2, 3, b_is_vector_of⟩) rfl]
  have v := vloop (k := k) (v := .val (T xs)) (d := .val (.int m)) xs h
  simp only [runF, b_is_vector_of, evSs]
  simp [slOf, evS, evE, evA, evI, rdp, rds, rdsAll, tyIs, frzd, finF, rvOf, outsOf, thaw, cmpV, eqD, scalD, bltV, T, hm, seqV, lcV, wipeE, hz, backE, valOnly] at v ⊢
  simp [v, hz, hm, bools_t, boolsOf, backE, valOnly, rds, rdsAll, bltV, frzd, finF, rvOf, outsOf]
theorem want_ok {k : Nat} {xs : Tn} {m : Int} (h : FrA xs) (hm : (xs.length : Int) = m) (hl : xs.length ≤ 10) : G (k + 4) 18 [.pu (.int m), .pu (T xs)] = some (.pu .none, []) := by
  have v := vec_ok (k := k) h hm hl
  rw [one (fn := ⟨2, 2, b_want_vector_of⟩) rfl]
  simp [runF, slOf, b_want_vector_of, evSs, evS, evE, evA, frzd, finF, rvOf, outsOf, callO, arsOf, arOf, iosOf, distinct, backOut, rvO, thaw, v]
/-- turned, by what it leans on -/
theorem turned_ok {k : Nat} {xs t ys : Tn} {m : Int} (h : FrA xs) (hm : (xs.length : Int) = m) (hl : xs.length ≤ 10) (h4 : G (k + 4) 4 [.pu (.int m)] = some (.pu .none, [])) (h10 : G (k + 4) 10 [.pu (.int m), .pu (T t)] = some (.pu .none, []))
    (h20 : G (k + 4) 20 [.pu (T t), .pu (T xs)] = some (.pu (T ys), [])) : G (k + 5) 21 [.pu (.int m), .pu (T t), .pu (T xs)] = some (.pu (T ys), []) := by
  have v := want_ok (k := k) h hm hl
  rw [one (fn := ⟨3, 3, b_turned⟩) rfl]
  simp [runF, slOf, b_turned, evSs, evS, evE, evA, frzd, finF, rvOf, outsOf, callO, arsOf, arOf, iosOf, distinct, backOut, rvO, thaw, v, h4, h10, h20]
/-! ### the vectors drawn -/
theorem dloop {k : Nat} {m : Int} {s2 s3 s4 s5 s6 s7 s8 s9 s10 s11 s12 s13 s14 : Sl} : ∀ (ds : List D) {p0 p1 : Int}, Pot p0 p1 → ∃ (xs : Tn) (q0 q1 : Int), lcLoop (fun d e => asgT (G (k + 1)) C0 (.nm 15) d e) (fun e => evD (G (k + 1)) C0 .non e) (fun e => frzE (evE (G (k + 1)) C0 (.call 27 (.cons (.bin .sub (.call 0 (.cons (.var 0) (.cons (.cst (.int 2001)) (.nil)))) (.cst (.int 1000))) (.cons (.bin .add (.cst (.int 1)) (.call 0 (.cons (.var 0) (.cons (.cst (.int 60)) (.nil))))) (.nil)))) e)) [15] ds [.own 1 [.int p0, .int p1], .val (.int m), s2, s3, s4, s5, s6, s7, s8, s9, s10, s11, s12, s13, s14, .emp] =
    some (xs.map fun p => .tuple [.int p.1, .int p.2], [.own 1 [.int q0, .int q1], .val (.int m), s2, s3, s4, s5, s6, s7, s8, s9, s10, s11, s12, s13, s14, .emp]) ∧ Pot q0 q1 ∧ FrA xs ∧ xs.length = ds.length
  | [], p0, p1, h => ⟨[], p0, p1, rfl, h, (fun _ z => nomatch z), rfl⟩
  | d :: ds, p0, p1, h => by
    obtain ⟨d1, a0, a1, e1, h1, l1, u1⟩ := draw_ok (k := k) (m := 2001) h (by decide) (by decide)
    obtain ⟨d2, b0, b1, e2, h2, l2, u2⟩ := draw_ok (k := k) (m := 60) h1 (by decide) (by decide)
    obtain ⟨n, dd, e3, f⟩ := made_ok (k := k) (a := d1 - 1000) (b := 1 + d2) (by omega) (by omega) (by omega)
    obtain ⟨xs, q0, q1, ih, hq, hf, hl⟩ := dloop (k := k) (m := m) (s2 := s2) (s3 := s3) (s4 := s4) (s5 := s5) (s6 := s6) (s7 := s7) (s8 := s8) (s9 := s9) (s10 := s10) (s11 := s11) (s12 := s12) (s13 := s13) (s14 := s14) ds h2
    refine ⟨(n, dd) :: xs, q0, q1, ?_, hq, fun p hp => ?_, by simp [hl]⟩
    · simp only [List.map_cons, lcLoop]
      simp [asgT, putv, evD, evE, evA, wipeE, callO, arsOf, arOf, iosOf, distinct, backOut, rvO, thaw, frzE, frzd, rdp, binV, e1, e2, e3, Nat.blt] at ih ⊢
      rw [ih]
    · rcases List.mem_cons.mp hp with rfl | hp
      · exact f
      · exact hf p hp
theorem ups_len : ∀ (n : Nat) (lo : Int), (ups lo n).length = n
  | 0, _ => rfl
  | n + 1, lo => by simp [ups, ups_len n]
theorem s14a {k : Nat} {m p0 p1 : Int} {s2 s3 s4 s5 s6 s7 s8 s9 s10 s11 s12 s13 s14 s15 : Sl} (h : Pot p0 p1) (m0 : 0 ≤ m) (m1 : m ≤ 5) : ∃ (xs : Tn) (q0 q1 : Int), evS (G (k + 1)) C0 (.asg (.nm 11) (.blt .tuple1 (.cons (.lc (.call 27 (.cons (.bin .sub (.call 0 (.cons (.var 0) (.cons (.cst (.int 2001)) (.nil)))) (.cst (.int 1000))) (.cons (.bin .add (.cst (.int 1)) (.call 0 (.cons (.var 0) (.cons (.cst (.int 60)) (.nil))))) (.nil)))) (.nm 15) (.rng (.cst (.int 0)) (.var 1)) (.non) [15]) (.nil)))) [.own 1 [.int p0, .int p1], .val (.int m), s2, s3, s4, s5, s6, s7, s8, s9, s10, s11, s12, s13, s14, s15] =
    some (.nx [.own 1 [.int q0, .int q1], .val (.int m), s2, s3, s4, s5, s6, s7, s8, s9, s10, .val (T xs), s12, s13, s14, valOnly (some s15)]) ∧ Pot q0 q1 ∧ FrA xs ∧ (xs.length : Int) = m := by
  obtain ⟨xs, q0, q1, e, hq, hf, hl⟩ := dloop (k := k) (m := m) (s2 := s2) (s3 := s3) (s4 := s4) (s5 := s5) (s6 := s6) (s7 := s7) (s8 := s8) (s9 := s9) (s10 := s10) (s11 := s11) (s12 := s12) (s13 := s13) (s14 := s14) (ups 0 m.toNat) h
  rw [ups_len] at hl
  refine ⟨xs, q0, q1, ?_, hq, hf, by omega⟩
  have hz : lenOk xs.length = true := Nat.ble_eq_true_of_le (by omega)
  have hr : rngV (.int 0) (.int m) = some (ups 0 m.toNat) := by
    have ok : rngOk 0 m = true := by unfold rngOk; simp; omega
    show (if rngOk 0 m = true then some (ups 0 (m - 0).toNat) else none) = _
    rw [if_pos ok, Int.sub_zero]
  have e' : evE (G (k + 1)) C0 (.lc (.call 27 (.cons (.bin .sub (.call 0 (.cons (.var 0) (.cons (.cst (.int 2001)) (.nil)))) (.cst (.int 1000))) (.cons (.bin .add (.cst (.int 1)) (.call 0 (.cons (.var 0) (.cons (.cst (.int 60)) (.nil))))) (.nil)))) (.nm 15) (.rng (.cst (.int 0)) (.var 1)) (.non) [15]) [.own 1 [.int p0, .int p1], .val (.int m), s2, s3, s4, s5, s6, s7, s8, s9, s10, s11, s12, s13, s14, s15] = some (.fr (xs.map fun p => .tuple [.int p.1, .int p.2]), [.own 1 [.int q0, .int q1], .val (.int m), s2, s3, s4, s5, s6, s7, s8, s9, s10, s11, s12, s13, s14, valOnly (some s15)]) := by
    rw [evE]
    rw [show evI (G (k + 1)) C0 (.rng (.cst (.int 0)) (.var 1)) [.own 1 [.int p0, .int p1], .val (.int m), s2, s3, s4, s5, s6, s7, s8, s9, s10, s11, s12, s13, s14, s15] = some (ups 0 m.toNat, [.own 1 [.int p0, .int p1], .val (.int m), s2, s3, s4, s5, s6, s7, s8, s9, s10, s11, s12, s13, s14, s15]) by simp [evI, evE, hr]]
    show (match lcLoop _ _ _ [15] (ups 0 m.toNat) [.own 1 [.int p0, .int p1], .val (.int m), s2, s3, s4, s5, s6, s7, s8, s9, s10, s11, s12, s13, s14, .emp] with | none => none | some (xs, e2) => if lenOk xs.length then some (Opd.fr xs, backE _ e2 [15]) else none) = _
    rw [e]
    simp [hz, backE]
  simp only [evS]
  rw [evE]
  simp [evA, e', thaw, rdsAll, rds, bltV, frzd, asgT, putv, Nat.blt, T]
end K81

set_option Elab.async false
set_option linter.all false
set_option maxRecDepth 100000
set_option maxHeartbeats 0
namespace K81
open PySem Rf
structure Fx (F : FT) (m : Int) (n : Nat) (ev : List Tn) (pb : Tn → Bool) (prl : List D) : Prop where
  hn : (n : Int) = m
  n0 : 1 ≤ n
  n1 : n ≤ 3
  ev0 : 0 < ev.length
  ev1 : ev.length < 100
  f12 : ∀ x, x ∈ ev → ∀ y, y ∈ ev → F 12 [.pu (.int m), .pu (T x), .pu (T y)] = some (.pu (T (bh x y)), [])
  f28 : ∀ x, x ∈ ev → ∀ y, y ∈ ev → F 28 [.pu (T x), .pu (T y)] = some (.pu (T (bh x y)), [])
  f14 : ∀ x, x ∈ ev → F 14 [.pu (.int m), .pu (T x)] = some (.pu (T (ud x)), [])
  f30 : ∀ x, x ∈ ev → F 30 [.pu (T x)] = some (.pu (T (ud x)), [])
  f24 : ∀ x, x ∈ ev → F 24 [.pu (.int m), .pu (T x)] = some (.pu (.bool true), [])
  f26 : ∀ x, x ∈ ev → F 26 [.pu (.int m), .pu (T x)] = some (.pu (.bool (pb x)), [])
  f33 : ∀ x, x ∈ ev → F 33 [.pu (.int m), .pu (T x)] = some (.pu (.int (ordT n x)), []) ∧ (ordL n x 12 x 1).isSome = true
  f22 : F 22 [.pu (.int m)] = some (.pu (T (sameT n)), [])
  cbh : ∀ x, x ∈ ev → ∀ y, y ∈ ev → bh x y ∈ ev ∧ pb (bh x y) = (pb x == pb y)
  cud : ∀ x, x ∈ ev → ud x ∈ ev
  mem : ∀ x, x ∈ ev → memD (T x) (.list prl) = some (pb x)
  rep : ∀ x, x ∈ ev → reprOk (.list [T x, T x]) = true
  rpi : ∀ x, x ∈ ev → reprOk (.list [.int (ordT n x), .int (ordT n x)]) = true
  f15 : ∀ t, t ∈ ev → ∀ xs : Tn, xs.length = n → F 15 [.pu (T t), .pu (T xs)] = some (.pu (T (tv t xs)), [])
  f21 : ∀ t, t ∈ ev → ∀ xs : Tn, xs.length = n → FrA xs → F 21 [.pu (.int m), .pu (T t), .pu (T xs)] = some (.pu (T (tv t xs)), [])
  fpk : ∀ p0 p1, Pot p0 p1 → ∃ t, t ∈ ev ∧ ∃ q0 q1, F 7 [.io [.int p0, .int p1], .pu (.list (ev.map T))] = some (.pu (T t), [[.int q0, .int q1]]) ∧ Pot q0 q1
  fvc : ∀ p0 p1 (s2 s3 s4 s5 s6 s7 s8 s9 s10 s11 s12 s13 s14 s15 : Sl), Pot p0 p1 → ∃ (xs : Tn) (q0 q1 : Int), evS F C0 (.asg (.nm 11) (.blt .tuple1 (.cons (.lc (.call 27 (.cons (.bin .sub (.call 0 (.cons (.var 0) (.cons (.cst (.int 2001)) (.nil)))) (.cst (.int 1000))) (.cons (.bin .add (.cst (.int 1)) (.call 0 (.cons (.var 0) (.cons (.cst (.int 60)) (.nil))))) (.nil)))) (.nm 15) (.rng (.cst (.int 0)) (.var 1)) (.non) [15]) (.nil)))) [.own 1 [.int p0, .int p1], .val (.int m), s2, s3, s4, s5, s6, s7, s8, s9, s10, s11, s12, s13, s14, s15] = some (.nx [.own 1 [.int q0, .int q1], .val (.int m), s2, s3, s4, s5, s6, s7, s8, s9, s10, .val (T xs), s12, s13, s14, valOnly (some s15)]) ∧ Pot q0 q1 ∧ FrA xs ∧ xs.length = n
  fe : ∀ x, x ∈ ev → eqD (T x) (T (sameT n)) = some (tneq x (sameT n))
  fcut : cutL (ev.map T) none (some 8) = (ev.take 8).map T
  tvl : ∀ t, t ∈ ev → ∀ xs : Tn, xs.length = n → (tv t xs).length = n ∧ (FrA xs → FrA (tv t xs))
  tvb : ∀ x, x ∈ ev → ∀ y, y ∈ ev → ∀ xs : Tn, xs.length = n → tv (bh x y) xs = tv x (tv y xs)
  tvu : ∀ x, x ∈ ev → ∀ xs : Tn, xs.length = n → tv (ud x) (tv x xs) = xs
theorem lk1 : lenOk 1 = true := rfl
theorem lk2 : lenOk 2 = true := rfl
theorem lk3 : lenOk 3 = true := rfl
theorem bmul (z : D) : binV .mul (.list [z]) (.int 2) = some (.fr [z, z]) := by kernel_rfl
theorem rb (a b : Bool) : reprOk (.list [.bool a, .bool b]) = true := by cases a <;> cases b <;> decide +kernel
theorem p0 (F : FT) (C : List D) (env : Ev) : evP F C .nil env = some ([], env) := by rw [evP]
theorem p1 {F : FT} {C : List D} {e : IE} {env e1 : Ev} {d : D} (h : evE F C e env = some (.pu d, e1)) : evP F C (.cons e .nil) env = some ([d], e1) := by
  rw [evP, h]
  simp only [frzd, p0]
theorem l1 {F : FT} {C : List D} {e : IE} {env e1 : Ev} {d : D} (h : evE F C e env = some (.pu d, e1)) : evE F C (.lst (.cons e .nil)) env = some (.fr [d], e1) := by
  rw [evE, p1 h]
  rfl
theorem m2 {F : FT} {C : List D} {e : IE} {env e1 : Ev} {d : D} (h : evE F C e env = some (.pu d, e1)) : evE F C (.bin .mul (.lst (.cons e .nil)) (.cst (.int 2))) env = some (.fr [d, d], e1) := by
  rw [evE, l1 h]
  simp only [evE, rdp, bmul, Option.map_some]
theorem rep_vec {v : Tn} (h : FrA v) (hl : v.length ≤ 3) : reprOk (.list [T v, T v]) = true := by
  have sm : ∀ {n : Int}, n.natAbs ≤ 1000 → rOk (.int n) = true := fun {n} hn => by
    unfold rOk
    rw [show Nat.blt n.natAbs 1000000000000 = true from Nat.ble_eq_true_of_le (by omega)]
    rfl
  have all : ∀ {v : Tn}, FrA v → rOkAll (v.map fun p => .tuple [.int p.1, .int p.2]) = true := fun {v} => by
    induction v with
    | nil => intro _; rfl
    | cons p v ih =>
      intro h
      obtain ⟨a, b, c, d⟩ := h p List.mem_cons_self
      have i1 := ih fun q hq => h q (List.mem_cons_of_mem _ hq)
      have e1 := sm c
      have e2 : rOk (.int p.2) = true := sm (by omega)
      simp only [List.map_cons, rOkAll, rOk] at i1 e1 e2 ⊢
      rw [i1, e1, e2]; rfl
  have r := all h
  unfold reprOk
  have e : rOk (.list [T v, T v]) = true := by
    unfold T
    simp only [rOk, rOkAll, r]
    rfl
  rw [e]
  rcases v with _ | ⟨a, _ | ⟨b, _ | ⟨c, _ | ⟨d, v⟩⟩⟩⟩
  · rfl
  · rfl
  · rfl
  · rfl
  · simp at hl
theorem eq_vec {v : Tn} (hl : v.length ≤ 3) : eqD (T v) (T v) = some true := by
  rcases v with _ | ⟨a, _ | ⟨b, _ | ⟨c, _ | ⟨d, v⟩⟩⟩⟩
  · rfl
  · simp [eqD, scalD, T, SeqAt.shaped, PyData.canLay0, PyData.canLayAll0, PyData.depth, PyData.depthAll, PyData.eqv, PyData.eqvAll]
  · simp [eqD, scalD, T, SeqAt.shaped, PyData.canLay0, PyData.canLayAll0, PyData.depth, PyData.depthAll, PyData.eqv, PyData.eqvAll]
  · simp [eqD, scalD, T, SeqAt.shaped, PyData.canLay0, PyData.canLayAll0, PyData.depth, PyData.depthAll, PyData.eqv, PyData.eqvAll]
  · simp at hl
section
variable {F : FT} {m : Int} {n : Nat} {ev : List Tn} {pb : Tn → Bool} {prl : List D} (X : Fx F m n ev pb prl) {s0 s1 s2 s3 s4 s5 s6 s7 s8 s9 s10 s11 s12 s13 s14 s15 : Sl} {x y : Tn}
include X
theorem t9 (hx : x ∈ ev) (hy : y ∈ ev) : evS (F) C0 (.par2 9 10 false false (.call 12 (.cons (.var 1) (.cons (.var 7) (.cons (.var 8) (.nil))))) (.call 14 (.cons (.var 1) (.cons (.var 7) (.nil))))) [s0, .val (.int m), s2, s3, s4, s5, s6, .val (T x), .val (T y), s9, s10, s11, s12, s13, s14, s15] =
    some (.nx [s0, .val (.int m), s2, s3, s4, s5, s6, .val (T x), .val (T y), .val (T (bh x y)), .val (T (ud x)), s11, s12, s13, s14, s15]) := by
  simp [evSs, evS, evE, evA, evP, rdp, rds, rdsAll, thaw, frzd, callO, arsOf, arOf, iosOf, distinct, backOut, rvO, pick, bltV, cmpV, eqD, scalD, binV, repL, asgT, putv, slotOf, Nat.blt, lk1, lk2, lk3, X.f12 x hx y hy, X.f14 x hx]
theorem t10 (hx : x ∈ ev) (hy : y ∈ ev) : evS (F) C0 (.ite (.cmp .ne (.rpr (.cons (.var 9) (.cons (.callk 12 [2, 1, 0] (.cons (.var 8) (.cons (.var 7) (.cons (.var 1) (.nil))))) (.nil)))) (.blt .repr1 (.cons (.bin .mul (.lst (.cons (.call 28 (.cons (.var 7) (.cons (.var 8) (.nil)))) (.nil))) (.cst (.int 2))) (.nil)))) (.cons (.ret (.cst (.bool false))) (.nil)) (.nil)) [s0, .val (.int m), s2, s3, s4, s5, s6, .val (T x), .val (T y), .val (T (bh x y)), s10, s11, s12, s13, s14, s15] =
    some (.nx [s0, .val (.int m), s2, s3, s4, s5, s6, .val (T x), .val (T y), .val (T (bh x y)), s10, s11, s12, s13, s14, s15]) := by
  have r := X.rep _ (X.cbh x hx y hy).1
  have h : evE (F) C0 (.call 28 (.cons (.var 7) (.cons (.var 8) (.nil)))) [s0, .val (.int m), s2, s3, s4, s5, s6, .val (T x), .val (T y), .val (T (bh x y)), s10, s11, s12, s13, s14, s15] = some (.pu (T (bh x y)), [s0, .val (.int m), s2, s3, s4, s5, s6, .val (T x), .val (T y), .val (T (bh x y)), s10, s11, s12, s13, s14, s15]) := by
    simp [evSs, evS, evE, evA, rdp, rds, rdsAll, thaw, frzd, callO, arsOf, arOf, iosOf, distinct, backOut, rvO, pick, bltV, cmpV, eqD, scalD, asgT, putv, slotOf, Nat.blt, lk1, lk2, lk3, X.f28 x hx y hy]
  have h2 := m2 h
  simp [evSs, evS, evE, evA, rdp, rds, rdsAll, thaw, frzd, callO, arsOf, arOf, iosOf, distinct, backOut, rvO, pick, bltV, cmpV, eqD, scalD, asgT, putv, slotOf, Nat.blt, lk1, lk2, lk3, ↓h2, X.f12 x hx y hy, r]
theorem t11 (hx : x ∈ ev) : evS (F) C0 (.ite (.cmp .ne (.rpr (.cons (.var 10) (.cons (.callk 14 [1, 0] (.cons (.var 7) (.cons (.var 1) (.nil)))) (.nil)))) (.blt .repr1 (.cons (.bin .mul (.lst (.cons (.call 30 (.cons (.var 7) (.nil))) (.nil))) (.cst (.int 2))) (.nil)))) (.cons (.ret (.cst (.bool false))) (.nil)) (.nil)) [s0, .val (.int m), s2, s3, s4, s5, s6, .val (T x), s8, s9, .val (T (ud x)), s11, s12, s13, s14, s15] =
    some (.nx [s0, .val (.int m), s2, s3, s4, s5, s6, .val (T x), s8, s9, .val (T (ud x)), s11, s12, s13, s14, s15]) := by
  have r := X.rep _ (X.cud x hx)
  have h : evE (F) C0 (.call 30 (.cons (.var 7) (.nil))) [s0, .val (.int m), s2, s3, s4, s5, s6, .val (T x), s8, s9, .val (T (ud x)), s11, s12, s13, s14, s15] = some (.pu (T (ud x)), [s0, .val (.int m), s2, s3, s4, s5, s6, .val (T x), s8, s9, .val (T (ud x)), s11, s12, s13, s14, s15]) := by
    simp [evSs, evS, evE, evA, rdp, rds, rdsAll, thaw, frzd, callO, arsOf, arOf, iosOf, distinct, backOut, rvO, pick, bltV, cmpV, eqD, scalD, asgT, putv, slotOf, Nat.blt, lk1, lk2, lk3, X.f30 x hx]
  have h2 := m2 h
  simp [evSs, evS, evE, evA, rdp, rds, rdsAll, thaw, frzd, callO, arsOf, arOf, iosOf, distinct, backOut, rvO, pick, bltV, cmpV, eqD, scalD, asgT, putv, slotOf, Nat.blt, lk1, lk2, lk3, ↓h2, X.f14 x hx, r]
theorem t12 (hx : x ∈ ev) (hy : y ∈ ev) : evS (F) C0 (.asg (.nm 3) (.cmp .eq (.cmp .mem (.var 7) (.var 2)) (.cmp .mem (.var 8) (.var 2)))) [s0, s1, .val (.list prl), s3, s4, s5, s6, .val (T x), .val (T y), s9, s10, s11, s12, s13, s14, s15] =
    some (.nx [s0, s1, .val (.list prl), .val (.bool (pb x == pb y)), s4, s5, s6, .val (T x), .val (T y), s9, s10, s11, s12, s13, s14, s15]) := by
  have e : decide (pb x = pb y) = (pb x == pb y) := by cases pb x <;> cases pb y <;> rfl
  simp [evSs, evS, evE, evA, evP, rdp, rds, rdsAll, thaw, frzd, callO, arsOf, arOf, iosOf, distinct, backOut, rvO, pick, bltV, cmpV, eqD, scalD, binV, repL, asgT, putv, slotOf, Nat.blt, lk1, lk2, lk3, X.mem x hx, X.mem y hy, e]
theorem t13 (hx : x ∈ ev) (hy : y ∈ ev) : evS (F) C0 (.ite (.cmp .ne (.rpr (.cons (.call 24 (.cons (.var 1) (.cons (.var 9) (.nil)))) (.cons (.callk 26 [1, 0] (.cons (.var 9) (.cons (.var 1) (.nil)))) (.nil)))) (.rpr (.cons (.cst (.bool true)) (.cons (.var 3) (.nil))))) (.cons (.ret (.cst (.bool false))) (.nil)) (.nil)) [s0, .val (.int m), s2, .val (.bool (pb x == pb y)), s4, s5, s6, s7, s8, .val (T (bh x y)), s10, s11, s12, s13, s14, s15] =
    some (.nx [s0, .val (.int m), s2, .val (.bool (pb x == pb y)), s4, s5, s6, s7, s8, .val (T (bh x y)), s10, s11, s12, s13, s14, s15]) := by
  obtain ⟨c1, c2⟩ := X.cbh x hx y hy
  simp [evSs, evS, evE, evA, evP, rdp, rds, rdsAll, thaw, frzd, callO, arsOf, arOf, iosOf, distinct, backOut, rvO, pick, bltV, cmpV, eqD, scalD, binV, repL, asgT, putv, slotOf, Nat.blt, lk1, lk2, lk3, X.f24 _ c1, X.f26 _ c1, c2, rb]
theorem t8 {p0 p1 : Int} (h : Pot p0 p1) : ∃ x, x ∈ ev ∧ ∃ y, y ∈ ev ∧ ∃ q0 q1, Pot q0 q1 ∧ evS F C0 (.par2 7 8 false false (.call 7 (.cons (.var 0) (.cons (.var 5) (.nil)))) (.call 7 (.cons (.var 0) (.cons (.var 5) (.nil))))) [.own 1 [.int p0, .int p1], s1, s2, s3, s4, .val (.list (ev.map T)), s6, s7, s8, s9, s10, s11, s12, s13, s14, s15] =
    some (.nx [.own 1 [.int q0, .int q1], s1, s2, s3, s4, .val (.list (ev.map T)), s6, .val (T x), .val (T y), s9, s10, s11, s12, s13, s14, s15]) := by
  obtain ⟨x, hx, a0, a1, e1, h1⟩ := X.fpk _ _ h
  obtain ⟨y, hy, b0, b1, e2, h2⟩ := X.fpk _ _ h1
  refine ⟨x, hx, y, hy, b0, b1, h2, ?_⟩
  simp [evSs, evS, evE, evA, rdp, rds, rdsAll, thaw, frzd, callO, arsOf, arOf, iosOf, distinct, backOut, rvO, pick, bltV, cmpV, eqD, scalD, asgT, putv, slotOf, Nat.blt, lk1, lk2, lk3, e1, e2]
theorem tB {p0 p1 : Int} (hx : x ∈ ev) (hy : y ∈ ev) (h : Pot p0 p1) : ∃ (xs : Tn) (q0 q1 : Int), Pot q0 q1 ∧ evSs F C0 (.cons (.asg (.nm 11) (.blt .tuple1 (.cons (.lc (.call 27 (.cons (.bin .sub (.call 0 (.cons (.var 0) (.cons (.cst (.int 2001)) (.nil)))) (.cst (.int 1000))) (.cons (.bin .add (.cst (.int 1)) (.call 0 (.cons (.var 0) (.cons (.cst (.int 60)) (.nil))))) (.nil)))) (.nm 15) (.rng (.cst (.int 0)) (.var 1)) (.non) [15]) (.nil)))) (.cons (.asg (.nm 12) (.call 15 (.cons (.var 7) (.cons (.call 15 (.cons (.var 8) (.cons (.var 11) (.nil)))) (.nil))))) (.cons (.ite (.cmp .ne (.rpr (.cons (.call 21 (.cons (.var 1) (.cons (.var 9) (.cons (.var 11) (.nil))))) (.cons (.callk 21 [2, 1, 0] (.cons (.var 11) (.cons (.var 9) (.cons (.var 1) (.nil))))) (.nil)))) (.rpr (.cons (.var 12) (.cons (.var 12) (.nil))))) (.cons (.ret (.cst (.bool false))) (.nil)) (.nil)) (.cons (.ite (.cmp .ne (.call 21 (.cons (.var 1) (.cons (.var 10) (.cons (.call 21 (.cons (.var 1) (.cons (.var 7) (.cons (.var 11) (.nil))))) (.nil))))) (.var 11)) (.cons (.ret (.cst (.bool false))) (.nil)) (.nil)) (.nil))))) [.own 1 [.int p0, .int p1], .val (.int m), s2, s3, s4, s5, s6, .val (T x), .val (T y), .val (T (bh x y)), .val (T (ud x)), s11, s12, s13, s14, s15] =
    some (.nx [.own 1 [.int q0, .int q1], .val (.int m), s2, s3, s4, s5, s6, .val (T x), .val (T y), .val (T (bh x y)), .val (T (ud x)), .val (T xs), .val (T (tv x (tv y xs))), s13, s14, valOnly (some s15)]) := by
  obtain ⟨xs, q0, q1, e1, hq, fr, hl⟩ := X.fvc p0 p1 s2 s3 s4 s5 s6 (.val (T x)) (.val (T y)) (.val (T (bh x y))) (.val (T (ud x))) s11 s12 s13 s14 s15 h
  obtain ⟨c1, _⟩ := X.cbh x hx y hy
  have cu := X.cud x hx
  obtain ⟨ly, fy⟩ := X.tvl y hy xs hl
  obtain ⟨lx, fx⟩ := X.tvl x hx (tv y xs) ly
  obtain ⟨lx2, fx2⟩ := X.tvl x hx xs hl
  have n1 := X.n1
  refine ⟨xs, q0, q1, hq, ?_⟩
  have r := rep_vec (fx (fy fr)) (by omega)
  have q := eq_vec (v := xs) (by omega)
  have f1 := X.f21 _ c1 xs hl fr
  rw [X.tvb x hx y hy xs hl] at f1
  have f2 := X.f21 x hx xs hl fr
  have f3 := X.f21 _ cu (tv x xs) lx2 (fx2 fr)
  rw [X.tvu x hx xs hl] at f3
  have g1 := X.f15 y hy xs hl
  have g2 := X.f15 x hx (tv y xs) ly
  rw [evSs, e1]
  simp [evSs, evS, evE, evA, rdp, rds, rdsAll, thaw, frzd, callO, arsOf, arOf, iosOf, distinct, backOut, rvO, pick, bltV, cmpV, asgT, putv, slotOf, Nat.blt, lk1, lk2, lk3, f1, f2, f3, g1, g2, r, q, show ∀ a : Str, eqD (.str a) (.str a) = some true by intro a; simp [eqD, scalD]]
theorem tL (hx : x ∈ ev) (hy : y ∈ ev) : ∀ (ds : List D) {p0 p1 : Int} {s4 s11 s12 s15 : Sl}, Pot p0 p1 → ∃ (q0 q1 : Int) (u4 u11 u12 u15 : Sl), Pot q0 q1 ∧ foLoop (fun d e => asgT F C0 (.nm 4) d e) (fun e => evSs F C0 (.cons (.asg (.nm 11) (.blt .tuple1 (.cons (.lc (.call 27 (.cons (.bin .sub (.call 0 (.cons (.var 0) (.cons (.cst (.int 2001)) (.nil)))) (.cst (.int 1000))) (.cons (.bin .add (.cst (.int 1)) (.call 0 (.cons (.var 0) (.cons (.cst (.int 60)) (.nil))))) (.nil)))) (.nm 15) (.rng (.cst (.int 0)) (.var 1)) (.non) [15]) (.nil)))) (.cons (.asg (.nm 12) (.call 15 (.cons (.var 7) (.cons (.call 15 (.cons (.var 8) (.cons (.var 11) (.nil)))) (.nil))))) (.cons (.ite (.cmp .ne (.rpr (.cons (.call 21 (.cons (.var 1) (.cons (.var 9) (.cons (.var 11) (.nil))))) (.cons (.callk 21 [2, 1, 0] (.cons (.var 11) (.cons (.var 9) (.cons (.var 1) (.nil))))) (.nil)))) (.rpr (.cons (.var 12) (.cons (.var 12) (.nil))))) (.cons (.ret (.cst (.bool false))) (.nil)) (.nil)) (.cons (.ite (.cmp .ne (.call 21 (.cons (.var 1) (.cons (.var 10) (.cons (.call 21 (.cons (.var 1) (.cons (.var 7) (.cons (.var 11) (.nil))))) (.nil))))) (.var 11)) (.cons (.ret (.cst (.bool false))) (.nil)) (.nil)) (.nil))))) e) ds [.own 1 [.int p0, .int p1], .val (.int m), s2, s3, s4, s5, s6, .val (T x), .val (T y), .val (T (bh x y)), .val (T (ud x)), s11, s12, s13, s14, s15] =
    some (.nx [.own 1 [.int q0, .int q1], .val (.int m), s2, s3, u4, s5, s6, .val (T x), .val (T y), .val (T (bh x y)), .val (T (ud x)), u11, u12, s13, s14, u15])
  | [], p0, p1, s4, s11, s12, s15, h => ⟨p0, p1, s4, s11, s12, s15, h, rfl⟩
  | d :: ds, p0, p1, s4, s11, s12, s15, h => by
    obtain ⟨xs, q0, q1, hq, e⟩ := tB X (s2 := s2) (s3 := s3) (s4 := .val d) (s5 := s5) (s6 := s6) (s11 := s11) (s12 := s12) (s13 := s13) (s14 := s14) (s15 := s15) hx hy h
    obtain ⟨r0, r1, u4, u11, u12, u15, hr, ih⟩ := tL hx hy ds (s4 := .val d) (s11 := .val (T xs)) (s12 := .val (T (tv x (tv y xs)))) (s15 := valOnly (some s15)) hq
    refine ⟨r0, r1, u4, u11, u12, u15, hr, ?_⟩
    rw [foLoop]
    rw [show asgT F C0 (.nm 4) d [.own 1 [.int p0, .int p1], .val (.int m), s2, s3, s4, s5, s6, .val (T x), .val (T y), .val (T (bh x y)), .val (T (ud x)), s11, s12, s13, s14, s15] = some [.own 1 [.int p0, .int p1], .val (.int m), s2, s3, .val d, s5, s6, .val (T x), .val (T y), .val (T (bh x y)), .val (T (ud x)), s11, s12, s13, s14, s15] by simp [asgT, putv, Nat.blt]]
    dsimp only
    rw [e]
    exact ih
omit X in
theorem tneq_ok {a b : Tn} (h : tneq a b = true) : a = b := of_decide_eq_true h
theorem tW {t : Tn} (ht : t ∈ ev) : ∀ (j : Nat) {now : Tn} {many r : Int} {fuel : Nat}, now ∈ ev → ordL n t j now many = some r → j ≤ fuel → whLoop (fun e => match evE F C0 (.cmp .ne (.var 14) (.call 22 (.cons (.var 1) (.nil)))) e with
      | some (.pu (.bool k), e1) => some (k, e1)
      | _ => none) (fun e => evSs F C0 (.cons (.par2 13 14 false false (.bin .add (.var 13) (.cst (.int 1))) (.call 28 (.cons (.var 14) (.cons (.var 4) (.nil))))) (.nil)) e) fuel [s0, .val (.int m), s2, s3, .val (T t), s5, s6, s7, s8, s9, s10, s11, s12, .val (.int many), .val (T now), s15] = some (.nx [s0, .val (.int m), s2, s3, .val (T t), s5, s6, s7, s8, s9, s10, s11, s12, .val (.int r), .val (T (sameT n)), s15])
  | 0, now, many, r, fuel, hn, h, hf => by cases h
  | j + 1, now, many, r, fuel, hn, h, hf => by
    cases fuel with
    | zero => omega
    | succ fuel =>
      have q := X.fe now hn
      have f22 := X.f22
      rw [ordL] at h
      have ts : evE F C0 (.cmp .ne (.var 14) (.call 22 (.cons (.var 1) (.nil)))) [s0, .val (.int m), s2, s3, .val (T t), s5, s6, s7, s8, s9, s10, s11, s12, .val (.int many), .val (T now), s15] = some (.pu (.bool (!tneq now (sameT n))), [s0, .val (.int m), s2, s3, .val (T t), s5, s6, s7, s8, s9, s10, s11, s12, .val (.int many), .val (T now), s15]) := by
        simp [evSs, evS, evE, evA, rdp, rds, rdsAll, thaw, frzd, callO, arsOf, arOf, iosOf, distinct, backOut, rvO, pick, bltV, cmpV, asgT, putv, slotOf, Nat.blt, lk1, lk2, lk3, f22, q]
      rw [whLoop]
      simp only [ts]
      cases hq : tneq now (sameT n) with
      | true =>
        rw [hq, if_pos rfl] at h
        cases h
        rw [tneq_ok hq]
        simp
      | false =>
        rw [hq, if_neg Bool.false_ne_true] at h
        have bd : evSs F C0 (.cons (.par2 13 14 false false (.bin .add (.var 13) (.cst (.int 1))) (.call 28 (.cons (.var 14) (.cons (.var 4) (.nil))))) (.nil)) [s0, .val (.int m), s2, s3, .val (T t), s5, s6, s7, s8, s9, s10, s11, s12, .val (.int many), .val (T now), s15] = some (.nx [s0, .val (.int m), s2, s3, .val (T t), s5, s6, s7, s8, s9, s10, s11, s12, .val (.int (many + 1)), .val (T (bh now t)), s15]) := by
          simp [evSs, evS, evE, evA, rdp, rds, rdsAll, thaw, frzd, callO, arsOf, arOf, iosOf, distinct, backOut, rvO, pick, bltV, cmpV, asgT, putv, slotOf, Nat.blt, lk1, lk2, lk3, binV, X.f28 now hn t ht]
        simp only [Bool.not_false, bd]
        exact tW ht j (X.cbh now hn t ht).1 h (by omega)
theorem tO {t : Tn} (ht : t ∈ ev) : evSs F C0 (.cons (.par2 13 14 false false (.cst (.int 1)) (.var 4)) (.cons (.wh (.cmp .ne (.var 14) (.call 22 (.cons (.var 1) (.nil)))) (.cons (.par2 13 14 false false (.bin .add (.var 13) (.cst (.int 1))) (.call 28 (.cons (.var 14) (.cons (.var 4) (.nil))))) (.nil))) (.cons (.ite (.cmp .ne (.rpr (.cons (.call 33 (.cons (.var 1) (.cons (.var 4) (.nil)))) (.cons (.callk 33 [1, 0] (.cons (.var 4) (.cons (.var 1) (.nil)))) (.nil)))) (.rpr (.cons (.var 13) (.cons (.var 13) (.nil))))) (.cons (.ret (.cst (.bool false))) (.nil)) (.nil)) (.nil)))) [s0, .val (.int m), s2, s3, .val (T t), s5, s6, s7, s8, s9, s10, s11, s12, s13, s14, s15] = some (.nx [s0, .val (.int m), s2, s3, .val (T t), s5, s6, s7, s8, s9, s10, s11, s12, .val (.int (ordT n t)), .val (T (sameT n)), s15]) := by
  obtain ⟨f33, hs⟩ := X.f33 t ht
  obtain ⟨r, hr⟩ := Option.isSome_iff_exists.mp hs
  have eo : ordT n t = r := by unfold ordT; rw [hr]; rfl
  have w := tW X ht 12 (fuel := 1000000) (s0 := s0) (s2 := s2) (s3 := s3) (s5 := s5) (s6 := s6) (s7 := s7) (s8 := s8) (s9 := s9) (s10 := s10) (s11 := s11) (s12 := s12) (s15 := s15) ht hr (by omega)
  rw [← eo] at w
  have hW : evS F C0 (.wh (.cmp .ne (.var 14) (.call 22 (.cons (.var 1) (.nil)))) (.cons (.par2 13 14 false false (.bin .add (.var 13) (.cst (.int 1))) (.call 28 (.cons (.var 14) (.cons (.var 4) (.nil))))) (.nil))) [s0, .val (.int m), s2, s3, .val (T t), s5, s6, s7, s8, s9, s10, s11, s12, .val (.int 1), .val (T t), s15] = some (.nx [s0, .val (.int m), s2, s3, .val (T t), s5, s6, s7, s8, s9, s10, s11, s12, .val (.int (ordT n t)), .val (T (sameT n)), s15]) := by
    rw [evS]; exact w
  have h1 : evS F C0 (.par2 13 14 false false (.cst (.int 1)) (.var 4)) [s0, .val (.int m), s2, s3, .val (T t), s5, s6, s7, s8, s9, s10, s11, s12, s13, s14, s15] = some (.nx [s0, .val (.int m), s2, s3, .val (T t), s5, s6, s7, s8, s9, s10, s11, s12, .val (.int 1), .val (T t), s15]) := by
    simp [evSs, evS, evE, evA, rdp, rds, rdsAll, thaw, frzd, callO, arsOf, arOf, iosOf, distinct, backOut, rvO, pick, bltV, cmpV, asgT, putv, slotOf, Nat.blt, lk1, lk2, lk3]
  have rp := X.rpi t ht
  have h3 : evS F C0 (.ite (.cmp .ne (.rpr (.cons (.call 33 (.cons (.var 1) (.cons (.var 4) (.nil)))) (.cons (.callk 33 [1, 0] (.cons (.var 4) (.cons (.var 1) (.nil)))) (.nil)))) (.rpr (.cons (.var 13) (.cons (.var 13) (.nil))))) (.cons (.ret (.cst (.bool false))) (.nil)) (.nil)) [s0, .val (.int m), s2, s3, .val (T t), s5, s6, s7, s8, s9, s10, s11, s12, .val (.int (ordT n t)), .val (T (sameT n)), s15] = some (.nx [s0, .val (.int m), s2, s3, .val (T t), s5, s6, s7, s8, s9, s10, s11, s12, .val (.int (ordT n t)), .val (T (sameT n)), s15]) := by
    simp [evSs, evS, evE, evA, rdp, rds, rdsAll, thaw, frzd, callO, arsOf, arOf, iosOf, distinct, backOut, rvO, pick, bltV, cmpV, asgT, putv, slotOf, Nat.blt, lk1, lk2, lk3, f33, rp, show ∀ a : Str, eqD (.str a) (.str a) = some true by intro a; simp [eqD, scalD]]
  rw [evSs, h1]
  dsimp only
  rw [evSs, hW]
  dsimp only
  rw [evSs, h3]
  dsimp only
  rw [evSs]
theorem tR : ∀ (l : List Tn) {s4 s13 s14 : Sl}, (∀ t, t ∈ l → t ∈ ev) → ∃ u4 u13 u14 : Sl, foLoop (fun d e => asgT F C0 (.nm 4) d e) (fun e => evSs F C0 (.cons (.par2 13 14 false false (.cst (.int 1)) (.var 4)) (.cons (.wh (.cmp .ne (.var 14) (.call 22 (.cons (.var 1) (.nil)))) (.cons (.par2 13 14 false false (.bin .add (.var 13) (.cst (.int 1))) (.call 28 (.cons (.var 14) (.cons (.var 4) (.nil))))) (.nil))) (.cons (.ite (.cmp .ne (.rpr (.cons (.call 33 (.cons (.var 1) (.cons (.var 4) (.nil)))) (.cons (.callk 33 [1, 0] (.cons (.var 4) (.cons (.var 1) (.nil)))) (.nil)))) (.rpr (.cons (.var 13) (.cons (.var 13) (.nil))))) (.cons (.ret (.cst (.bool false))) (.nil)) (.nil)) (.nil)))) e) (l.map T) [s0, .val (.int m), s2, s3, s4, s5, s6, s7, s8, s9, s10, s11, s12, s13, s14, s15] = some (.nx [s0, .val (.int m), s2, s3, u4, s5, s6, s7, s8, s9, s10, s11, s12, u13, u14, s15])
  | [], s4, s13, s14, _ => ⟨s4, s13, s14, rfl⟩
  | t :: l, s4, s13, s14, h => by
    have e1 := tO X (s0 := s0) (s2 := s2) (s3 := s3) (s5 := s5) (s6 := s6) (s7 := s7) (s8 := s8) (s9 := s9) (s10 := s10) (s11 := s11) (s12 := s12) (s13 := s13) (s14 := s14) (s15 := s15) (h t List.mem_cons_self)
    obtain ⟨u4, u13, u14, ih⟩ := tR l (s4 := .val (T t)) (s13 := .val (.int (ordT n t))) (s14 := .val (T (sameT n))) fun q hq => h q (List.mem_cons_of_mem _ hq)
    refine ⟨u4, u13, u14, ?_⟩
    rw [List.map_cons, foLoop]
    rw [show asgT F C0 (.nm 4) (T t) [s0, .val (.int m), s2, s3, s4, s5, s6, s7, s8, s9, s10, s11, s12, s13, s14, s15] = some [s0, .val (.int m), s2, s3, .val (T t), s5, s6, s7, s8, s9, s10, s11, s12, s13, s14, s15] by simp [asgT, putv, Nat.blt]]
    dsimp only
    rw [e1]
    exact ih
theorem t15 (hx : x ∈ ev) (hy : y ∈ ev) {z : Tn} (hz : z ∈ ev) : ∃ u4 u13 u14 : Sl, evS F C0 (.fo (.nm 4) (.it (.bin .add (.lst (.cons (.var 7) (.cons (.var 8) (.cons (.var 9) (.nil))))) (.slc (.var 5) (.non) (.som (.cst (.int 8)))))) (.cons (.par2 13 14 false false (.cst (.int 1)) (.var 4)) (.cons (.wh (.cmp .ne (.var 14) (.call 22 (.cons (.var 1) (.nil)))) (.cons (.par2 13 14 false false (.bin .add (.var 13) (.cst (.int 1))) (.call 28 (.cons (.var 14) (.cons (.var 4) (.nil))))) (.nil))) (.cons (.ite (.cmp .ne (.rpr (.cons (.call 33 (.cons (.var 1) (.cons (.var 4) (.nil)))) (.cons (.callk 33 [1, 0] (.cons (.var 4) (.cons (.var 1) (.nil)))) (.nil)))) (.rpr (.cons (.var 13) (.cons (.var 13) (.nil))))) (.cons (.ret (.cst (.bool false))) (.nil)) (.nil)) (.nil))))) [s0, .val (.int m), s2, s3, s4, .val (.list (ev.map T)), s6, .val (T x), .val (T y), .val (T z), s10, s11, s12, s13, s14, s15] =
    some (.nx [s0, .val (.int m), s2, s3, u4, .val (.list (ev.map T)), s6, .val (T x), .val (T y), .val (T z), s10, s11, s12, u13, u14, s15]) := by
  obtain ⟨u4, u13, u14, e⟩ := tR X (s0 := s0) (s2 := s2) (s3 := s3) (s4 := s4) (s5 := .val (.list (ev.map T))) (s6 := s6) (s7 := .val (T x)) (s8 := .val (T y)) (s9 := .val (T z)) (s10 := s10) (s11 := s11) (s12 := s12) (s13 := s13) (s14 := s14) (s15 := s15) ([x, y, z] ++ ev.take 8) fun t ht => by
    rcases List.mem_append.mp ht with h | h
    · simp only [List.mem_cons, List.not_mem_nil, or_false] at h
      rcases h with rfl | rfl | rfl <;> assumption
    · exact List.mem_of_mem_take h
  refine ⟨u4, u13, u14, ?_⟩
  have hl : lenOk ([T x, T y, T z].length + ((ev.take 8).map T).length) = true := by
    refine Nat.ble_eq_true_of_le ?_
    simp only [List.length_map, List.length_take, List.length_cons, List.length_nil]
    omega
  have hI : evI F C0 (.it (.bin .add (.lst (.cons (.var 7) (.cons (.var 8) (.cons (.var 9) (.nil))))) (.slc (.var 5) (.non) (.som (.cst (.int 8)))))) [s0, .val (.int m), s2, s3, s4, .val (.list (ev.map T)), s6, .val (T x), .val (T y), .val (T z), s10, s11, s12, s13, s14, s15] = some (([x, y, z] ++ ev.take 8).map T, [s0, .val (.int m), s2, s3, s4, .val (.list (ev.map T)), s6, .val (T x), .val (T y), .val (T z), s10, s11, s12, s13, s14, s15]) := by
    have hb : binV .add (.list [T x, T y, T z]) (.list ((ev.take 8).map T)) = some (.fr ([T x, T y, T z] ++ (ev.take 8).map T)) := by
      show (if lenOk _ = true then _ else _) = _
      rw [if_pos hl]
    simp [evI, evE, evP, evO, rdp, rds, frzd, lk3, slcV, X.fcut, hb, seqV, -List.map_take]
  rw [evS, show noSub (.nm 4) = true from rfl, if_pos rfl, hI]
  exact e
end
end K81

set_option Elab.async false
set_option linter.all false
set_option maxRecDepth 100000
set_option maxHeartbeats 0
namespace K81
open PySem Rf
/-- the statements ahead of the picks -/
structure Sg (F : FT) (m : Int) (ev : List Tn) (prl : List D) : Prop where
  g2 : ∀ q0 q1 : Int, evS F C0 (.par2 5 6 false true (.call 1 (.cons (.var 1) (.nil))) (.call 6 (.cons (.var 1) (.nil)))) [.own 1 [.int q0, .int q1], .val (.int m), .emp, .emp, .emp, .emp, .emp, .emp, .emp, .emp, .emp, .emp, .emp, .emp, .emp, .emp] = some (.nx [.own 1 [.int q0, .int q1], .val (.int m), .emp, .emp, .emp, .val (.list (ev.map T)), .own 0 (ev.map T), .emp, .emp, .emp, .emp, .emp, .emp, .emp, .emp, .emp])
  g3 : ∀ q0 q1 : Int, evS F C0 (.ite (.or2 (.cmp .ne (.rpr (.cons (.var 6) (.cons (.callk 6 [0] (.cons (.var 1) (.nil))) (.nil)))) (.rpr (.cons (.var 5) (.cons (.var 5) (.nil))))) (.cmp .ne (.blt .len (.cons (.var 6) (.nil))) (.idx (.lst (.cons (.cst (.int 2)) (.cons (.cst (.int 8)) (.cons (.cst (.int 48)) (.nil))))) (.bin .sub (.var 1) (.cst (.int 1)))))) (.cons (.ret (.cst (.bool false))) (.nil)) (.nil)) [.own 1 [.int q0, .int q1], .val (.int m), .emp, .emp, .emp, .val (.list (ev.map T)), .own 0 (ev.map T), .emp, .emp, .emp, .emp, .emp, .emp, .emp, .emp, .emp] = some (.nx [.own 1 [.int q0, .int q1], .val (.int m), .emp, .emp, .emp, .val (.list (ev.map T)), .own 0 (ev.map T), .emp, .emp, .emp, .emp, .emp, .emp, .emp, .emp, .emp])
  g4 : ∀ q0 q1 : Int, evS F C0 (.ex (.mth .append 6 (.cons (.cst .none) (.nil)))) [.own 1 [.int q0, .int q1], .val (.int m), .emp, .emp, .emp, .val (.list (ev.map T)), .own 0 (ev.map T), .emp, .emp, .emp, .emp, .emp, .emp, .emp, .emp, .emp] = some (.nx [.own 1 [.int q0, .int q1], .val (.int m), .emp, .emp, .emp, .val (.list (ev.map T)), .own 0 (ev.map T ++ [.none]), .emp, .emp, .emp, .emp, .emp, .emp, .emp, .emp, .emp])
  g5 : ∀ q0 q1 : Int, evS F C0 (.ite (.cmp .ne (.blt .repr1 (.cons (.call 6 (.cons (.var 1) (.nil))) (.nil))) (.blt .repr1 (.cons (.var 5) (.nil)))) (.cons (.ret (.cst (.bool false))) (.nil)) (.nil)) [.own 1 [.int q0, .int q1], .val (.int m), .emp, .emp, .emp, .val (.list (ev.map T)), .own 0 (ev.map T ++ [.none]), .emp, .emp, .emp, .emp, .emp, .emp, .emp, .emp, .emp] = some (.nx [.own 1 [.int q0, .int q1], .val (.int m), .emp, .emp, .emp, .val (.list (ev.map T)), .own 0 (ev.map T ++ [.none]), .emp, .emp, .emp, .emp, .emp, .emp, .emp, .emp, .emp])
  g6 : ∀ q0 q1 : Int, evS F C0 (.asg (.nm 2) (.lc (.var 4) (.nm 4) (.it (.var 5)) (.som (.cmp .eq (.call 23 (.cons (.call 29 (.cons (.var 4) (.nil))) (.nil))) (.cst (.int 1)))) [4])) [.own 1 [.int q0, .int q1], .val (.int m), .emp, .emp, .emp, .val (.list (ev.map T)), .own 0 (ev.map T ++ [.none]), .emp, .emp, .emp, .emp, .emp, .emp, .emp, .emp, .emp] = some (.nx [.own 1 [.int q0, .int q1], .val (.int m), .val (.list prl), .emp, .emp, .val (.list (ev.map T)), .own 0 (ev.map T ++ [.none]), .emp, .emp, .emp, .emp, .emp, .emp, .emp, .emp, .emp])
  g7 : ∀ q0 q1 : Int, evS F C0 (.ite (.or2 (.cmp .ne (.lc (.var 4) (.nm 4) (.it (.var 5)) (.som (.call 26 (.cons (.var 1) (.cons (.var 4) (.nil))))) [4]) (.var 2)) (.cmp .ne (.bin .mul (.cst (.int 2)) (.blt .len (.cons (.var 2) (.nil)))) (.blt .len (.cons (.var 5) (.nil))))) (.cons (.ret (.cst (.bool false))) (.nil)) (.nil)) [.own 1 [.int q0, .int q1], .val (.int m), .val (.list prl), .emp, .emp, .val (.list (ev.map T)), .own 0 (ev.map T ++ [.none]), .emp, .emp, .emp, .emp, .emp, .emp, .emp, .emp, .emp] = some (.nx [.own 1 [.int q0, .int q1], .val (.int m), .val (.list prl), .emp, .emp, .val (.list (ev.map T)), .own 0 (ev.map T ++ [.none]), .emp, .emp, .emp, .emp, .emp, .emp, .emp, .emp, .emp])
theorem right_ok {F : FT} (hd : ∀ p0 p1, Pot p0 p1 → ∃ d q0 q1, F 0 [.io [.int p0, .int p1], .pu (.int 3)] = some (.pu (.int d), [[.int q0, .int q1]]) ∧ Pot q0 q1 ∧ 0 ≤ d ∧ d < 3)
    (XX : ∀ m : Int, 1 ≤ m → m ≤ 3 → ∃ n ev pb prl, Fx F m n ev pb prl ∧ Sg F m ev prl) {p0 p1 : Int} (h : Pot p0 p1) : ∃ q0 q1, runF F C0 ⟨1, 16, b__law_right⟩ [.io [.int p0, .int p1]] = some (.pu (.bool true), [[.int q0, .int q1]]) := by
  obtain ⟨d, q0, q1, e0, hq, d0, d1⟩ := hd p0 p1 h
  obtain ⟨n, ev, pb, prl, X, S⟩ := XX (1 + d) (by omega) (by omega)
  generalize hm : 1 + d = m at X S
  have e1 : evS F C0 (.asg (.nm 1) (.bin .add (.cst (.int 1)) (.call 0 (.cons (.var 0) (.cons (.cst (.int 3)) (.nil)))))) [.own 1 [.int p0, .int p1], .emp, .emp, .emp, .emp, .emp, .emp, .emp, .emp, .emp, .emp, .emp, .emp, .emp, .emp, .emp] = some (.nx [.own 1 [.int q0, .int q1], .val (.int m), .emp, .emp, .emp, .emp, .emp, .emp, .emp, .emp, .emp, .emp, .emp, .emp, .emp, .emp]) := by
    rw [← hm]
    simp [evS, evE, evA, rdp, rds, rdsAll, thaw, frzd, callO, arsOf, arOf, iosOf, distinct, backOut, rvO, binV, asgT, putv, Nat.blt, e0]
  obtain ⟨x, hx, y, hy, r0, r1, hr, e8⟩ := t8 X (s1 := .val (.int m)) (s2 := .val (.list prl)) (s3 := .emp) (s4 := .emp) (s6 := .own 0 (ev.map T ++ [.none])) (s7 := .emp) (s8 := .emp) (s9 := .emp) (s10 := .emp) (s11 := .emp) (s12 := .emp) (s13 := .emp) (s14 := .emp) (s15 := .emp) hq
  have e9 := t9 X (s0 := .own 1 [.int r0, .int r1]) (s2 := .val (.list prl)) (s3 := .emp) (s4 := .emp) (s5 := .val (.list (ev.map T))) (s6 := .own 0 (ev.map T ++ [.none])) (s9 := .emp) (s10 := .emp) (s11 := .emp) (s12 := .emp) (s13 := .emp) (s14 := .emp) (s15 := .emp) hx hy
  have e10 := t10 X (s0 := .own 1 [.int r0, .int r1]) (s2 := .val (.list prl)) (s3 := .emp) (s4 := .emp) (s5 := .val (.list (ev.map T))) (s6 := .own 0 (ev.map T ++ [.none])) (s10 := .val (T (ud x))) (s11 := .emp) (s12 := .emp) (s13 := .emp) (s14 := .emp) (s15 := .emp) hx hy
  have e11 := t11 X (s0 := .own 1 [.int r0, .int r1]) (s2 := .val (.list prl)) (s3 := .emp) (s4 := .emp) (s5 := .val (.list (ev.map T))) (s6 := .own 0 (ev.map T ++ [.none])) (s8 := .val (T y)) (s9 := .val (T (bh x y))) (s11 := .emp) (s12 := .emp) (s13 := .emp) (s14 := .emp) (s15 := .emp) hx
  have e12 := t12 X (s0 := .own 1 [.int r0, .int r1]) (s1 := .val (.int m)) (s3 := .emp) (s4 := .emp) (s5 := .val (.list (ev.map T))) (s6 := .own 0 (ev.map T ++ [.none])) (s9 := .val (T (bh x y))) (s10 := .val (T (ud x))) (s11 := .emp) (s12 := .emp) (s13 := .emp) (s14 := .emp) (s15 := .emp) hx hy
  have e13 := t13 X (s0 := .own 1 [.int r0, .int r1]) (s2 := .val (.list prl)) (s4 := .emp) (s5 := .val (.list (ev.map T))) (s6 := .own 0 (ev.map T ++ [.none])) (s7 := .val (T x)) (s8 := .val (T y)) (s10 := .val (T (ud x))) (s11 := .emp) (s12 := .emp) (s13 := .emp) (s14 := .emp) (s15 := .emp) hx hy
  obtain ⟨w0, w1, u4, u11, u12, u15, hw, e14⟩ := tL X (s2 := .val (.list prl)) (s3 := .val (.bool (pb x == pb y))) (s5 := .val (.list (ev.map T))) (s6 := .own 0 (ev.map T ++ [.none])) (s13 := .emp) (s14 := .emp) hx hy (ups 0 5) (s4 := .emp) (s11 := .emp) (s12 := .emp) (s15 := .emp) hr
  obtain ⟨v4, v13, v14, e15⟩ := t15 X (s0 := .own 1 [.int w0, .int w1]) (s2 := .val (.list prl)) (s3 := .val (.bool (pb x == pb y))) (s4 := u4) (s6 := .own 0 (ev.map T ++ [.none])) (s10 := .val (T (ud x))) (s11 := u11) (s12 := u12) (s13 := .emp) (s14 := .emp) (s15 := u15) hx hy (X.cbh x hx y hy).1
  refine ⟨w0, w1, ?_⟩
  have hl : [Ar.io [.int p0, .int p1]].length = (⟨1, 16, b__law_right⟩ : Fn).np := rfl
  unfold runF
  rw [if_pos hl]
  dsimp only
  unfold b__law_right
  rw [show slOf 0 [Ar.io [PyData.int p0, PyData.int p1]] ++ List.replicate (16 - 1) Sl.emp = [.own 1 [.int p0, .int p1], .emp, .emp, .emp, .emp, .emp, .emp, .emp, .emp, .emp, .emp, .emp, .emp, .emp, .emp, .emp] from rfl]
  have cns : ∀ {s : IS} {ss : ISs} {a b : Ev}, evS F C0 s a = some (.nx b) → evSs F C0 (.cons s ss) a = evSs F C0 ss b := fun h => by rw [evSs, h]
  rw [cns e1, cns (S.g2 q0 q1), cns (S.g3 q0 q1), cns (S.g4 q0 q1), cns (S.g5 q0 q1), cns (S.g6 q0 q1), cns (S.g7 q0 q1), cns e8, cns e9, cns e10, cns e11, cns e12, cns e13]
  have f14 : evS F C0 (.fo (.nm 4) (.rng (.cst (.int 0)) (.cst (.int 5))) (.cons (.asg (.nm 11) (.blt .tuple1 (.cons (.lc (.call 27 (.cons (.bin .sub (.call 0 (.cons (.var 0) (.cons (.cst (.int 2001)) (.nil)))) (.cst (.int 1000))) (.cons (.bin .add (.cst (.int 1)) (.call 0 (.cons (.var 0) (.cons (.cst (.int 60)) (.nil))))) (.nil)))) (.nm 15) (.rng (.cst (.int 0)) (.var 1)) (.non) [15]) (.nil)))) (.cons (.asg (.nm 12) (.call 15 (.cons (.var 7) (.cons (.call 15 (.cons (.var 8) (.cons (.var 11) (.nil)))) (.nil))))) (.cons (.ite (.cmp .ne (.rpr (.cons (.call 21 (.cons (.var 1) (.cons (.var 9) (.cons (.var 11) (.nil))))) (.cons (.callk 21 [2, 1, 0] (.cons (.var 11) (.cons (.var 9) (.cons (.var 1) (.nil))))) (.nil)))) (.rpr (.cons (.var 12) (.cons (.var 12) (.nil))))) (.cons (.ret (.cst (.bool false))) (.nil)) (.nil)) (.cons (.ite (.cmp .ne (.call 21 (.cons (.var 1) (.cons (.var 10) (.cons (.call 21 (.cons (.var 1) (.cons (.var 7) (.cons (.var 11) (.nil))))) (.nil))))) (.var 11)) (.cons (.ret (.cst (.bool false))) (.nil)) (.nil)) (.nil)))))) [.own 1 [.int r0, .int r1], .val (.int m), .val (.list prl), .val (.bool (pb x == pb y)), .emp, .val (.list (ev.map T)), .own 0 (ev.map T ++ [.none]), .val (T x), .val (T y), .val (T (bh x y)), .val (T (ud x)), .emp, .emp, .emp, .emp, .emp] = some (.nx [.own 1 [.int w0, .int w1], .val (.int m), .val (.list prl), .val (.bool (pb x == pb y)), u4, .val (.list (ev.map T)), .own 0 (ev.map T ++ [.none]), .val (T x), .val (T y), .val (T (bh x y)), .val (T (ud x)), u11, u12, .emp, .emp, u15]) := by
    rw [evS, show noSub (.nm 4) = true from rfl, if_pos rfl]
    rw [show ∀ env : Ev, evI F C0 (.rng (.cst (.int 0)) (.cst (.int 5))) env = some (ups 0 5, env) from fun env => by simp [evI, evE, rngV, rngOk]]
    exact e14
  rw [cns f14, cns e15]
  simp [evSs, evS, evE, finF, rvOf, outsOf]
end K81

set_option Elab.async false
set_option linter.all false
set_option maxRecDepth 100000
set_option maxHeartbeats 0
namespace K81
open PySem Rf
theorem fin_pot (c i : Int) : Pot (if c - 1000000000000000000 > 0 then c - 1000000000000000000 else 0) ((c % 2147483549 * 40014 + 8111 * i + 61) % 2147483563 + 1) := by
  have a := Int.emod_nonneg (c % 2147483549 * 40014 + 8111 * i + 61) (b := 2147483563) (by decide)
  have b := Int.emod_lt_of_pos (c % 2147483549 * 40014 + 8111 * i + 61) (b := 2147483563) (by decide)
  refine ⟨?_, by omega, by omega⟩
  split <;> omega
theorem mm (c : Int) : mulOk (c % 2147483549) 40014 = true := by
  have a := Int.emod_nonneg c (b := 2147483549) (by decide)
  have b := Int.emod_lt_of_pos c (b := 2147483549) (by decide)
  unfold mulOk
  rw [sm a (by omega)]
  rfl
theorem pw : binV .pow (.int 10) (.int 18) = some (.pu (.int 1000000000000000000)) := by kernel_rfl
theorem bmI {a b : Int} (h : mulOk a b = true) : binV .mul (.int a) (.int b) = some (.pu (.int (a * b))) := by
  show (if mulOk a b = true then some (Opd.pu (.int (a * b))) else none) = _
  rw [if_pos h]
theorem pot_ret {F : FT} {s : Sl} {c i : Int} : evS F C0 (.ret (.lst (.cons (.blt .max2 (.cons (.cst (.int 0)) (.cons (.bin .sub (.var 2) (.bin .pow (.cst (.int 10)) (.cst (.int 18)))) (.nil)))) (.cons (.bin .add (.bin .mod (.blt .int1 (.cons (.bin .add (.bin .add (.bin .mul (.bin .mod (.blt .int1 (.cons (.var 2) (.nil))) (.cst (.int 2147483549))) (.cst (.int 40014))) (.bin .mul (.cst (.int 8111)) (.var 1))) (.cst (.int 61))) (.nil))) (.cst (.int 2147483563))) (.cst (.int 1))) (.nil))))) [s, .val (.int i), .val (.int c)] =
    some (.rt (.fr [.int (if c - 1000000000000000000 > 0 then c - 1000000000000000000 else 0), .int ((c % 2147483549 * 40014 + 8111 * i + 61) % 2147483563 + 1)]) [s, .val (.int i), .val (.int c)]) := by
  have bm : ∀ a b : Int, mulOk a b = true → binV .mul (.int a) (.int b) = some (.pu (.int (a * b))) := fun a b h => by
    show (if mulOk a b = true then _ else _) = _
    rw [if_pos h]
  have ba : ∀ a b : Int, binV .add (.int a) (.int b) = some (.pu (.int (a + b))) := fun _ _ => rfl
  have bs : ∀ a b : Int, binV .sub (.int a) (.int b) = some (.pu (.int (a - b))) := fun _ _ => rfl
  have bo : ∀ a b : Int, 0 < b → binV .mod (.int a) (.int b) = some (.pu (.int (a % b))) := fun a b h => by
    show (if decide (0 < b) = true then _ else _) = _
    rw [if_pos (decide_eq_true h)]
  have b1 := bo c 2147483549 (by decide)
  have b2 := bm _ _ (mm c)
  have b3 := bm 8111 i rfl
  have b4 := fun a => bo a 2147483563 (by decide)
  simp [evS, evE, evA, evP, rdp, rds, rdsAll, thaw, frzd, bltV, pw, b1, b2, b3, b4, ba, bs, lk2]
theorem pot_ok {F : FT} (ns : List Int) {i : Int} (h0 : 0 ≤ i) (h1 : i ≤ 1) : ∃ p0 p1, runF F C0 ⟨2, 3, b__law_pot⟩ [.sc (ns.map .int), .pu (.int i)] = some (.fr [.int p0, .int p1], []) ∧ Pot p0 p1 := by
  have bm : binV .mul (.int 607) (.int i) = some (.pu (.int (607 * i))) := bmI rfl
  have s1 : evS F C0 (.asg (.nm 2) (.bin .add (.bin .mul (.cst (.int 607)) (.var 1)) (.cst (.int 8111)))) [.scr 1 (ns.map .int), .val (.int i), .emp] = some (.nx [.scr 1 (ns.map .int), .val (.int i), .val (.int (607 * i + 8111))]) := by
    simp [evS, evE, rdp, bm, show ∀ a b : Int, binV .add (.int a) (.int b) = some (.pu (.int (a + b))) from fun _ _ => rfl, frzd, asgT, putv, Nat.blt]
  have s2 : ∃ c, evS F C0 (.ite (.cmp .lt (.var 1) (.blt .len (.cons (.var 0) (.nil)))) (.cons (.asg (.nm 2) (.blt .abs (.cons (.idx (.var 0) (.var 1)) (.nil)))) (.nil)) (.nil)) [.scr 1 (ns.map .int), .val (.int i), .val (.int (607 * i + 8111))] = some (.nx [.scr 1 (ns.map .int), .val (.int i), .val (.int c)]) := by
    by_cases hi : i < (ns.length : Int)
    · have hl : i.toNat < ns.length := by omega
      have ha : L2.atI (ns.map PyData.int) i = some (.int ns[i.toNat]) := by
        unfold L2.atI L2.ixN
        rw [if_pos h0, if_pos (by simpa using hi)]
        simp [hl]
      refine ⟨if ns[i.toNat] < 0 then -ns[i.toNat] else ns[i.toNat], ?_⟩
      simp [evS, evSs, evE, evA, rdp, rds, rdsAll, thaw, frzd, bltV, cmpV, hi, idxV, ixOf, ha, asgT, putv, Nat.blt]
    · refine ⟨607 * i + 8111, ?_⟩
      simp [evS, evSs, evE, evA, rdp, rds, rdsAll, thaw, frzd, bltV, cmpV, hi]
  obtain ⟨c, s2⟩ := s2
  refine ⟨_, _, ?_, fin_pot c i⟩
  have hl : [Ar.sc (ns.map .int), Ar.pu (.int i)].length = (⟨2, 3, b__law_pot⟩ : Fn).np := rfl
  unfold runF
  rw [if_pos hl]
  dsimp only
  unfold b__law_pot
  rw [show slOf 0 [Ar.sc (ns.map .int), Ar.pu (.int i)] ++ List.replicate (3 - 2) Sl.emp = [.scr 1 (ns.map .int), .val (.int i), .emp] from rfl]
  rw [evSs, s1]
  dsimp only
  rw [evSs, s2]
  dsimp only
  rw [evSs, pot_ret]
  simp [finF, rvOf, outsOf]
theorem law_ok {F : FT} (ns : List Int) (hp : ∀ i : Int, 0 ≤ i → i ≤ 1 → ∃ p0 p1, F 35 [.sc (ns.map .int), .pu (.int i)] = some (.fr [.int p0, .int p1], []) ∧ Pot p0 p1) (hr : ∀ p0 p1, Pot p0 p1 → ∃ q0 q1, F 34 [.io [.int p0, .int p1]] = some (.pu (.bool true), [[.int q0, .int q1]])) :
    runF F C0 ⟨1, 2, b_law⟩ [.sc (ns.map .int)] = some (.pu (.bool true), []) := by
  obtain ⟨a0, a1, e0, h0⟩ := hp 0 (by decide) (by decide)
  obtain ⟨b0, b1, e1, h1⟩ := hp 1 (by decide) (by decide)
  obtain ⟨_, _, r0⟩ := hr _ _ h0
  obtain ⟨_, _, r1⟩ := hr _ _ h1
  have hI : ∃ ds, (ds = [.int 0] ∨ ds = [.int 0, .int 1]) ∧ evI F C0 (.rng (.cst (.int 0)) (.blt .max2 (.cons (.cst (.int 1)) (.cons (.blt .min2 (.cons (.cst (.int 2)) (.cons (.blt .len (.cons (.var 0) (.nil))) (.nil)))) (.nil))))) [.scr 1 (ns.map .int), .emp] = some (ds, [.scr 1 (ns.map .int), .emp]) := by
    rcases ns with _ | ⟨x, _ | ⟨y, ns⟩⟩
    · exact ⟨[.int 0], .inl rfl, by simp [evI, evE, evA, rds, rdsAll, thaw, bltV, rngV, rngOk, ups]⟩
    · exact ⟨[.int 0], .inl rfl, by simp [evI, evE, evA, rds, rdsAll, thaw, bltV, rngV, rngOk, ups]⟩
    · refine ⟨[.int 0, .int 1], .inr rfl, ?_⟩
      have n2 : ¬ ((ns.length : Int) + 1 + 1 < 2) := by omega
      simp [evI, evE, evA, rds, rdsAll, thaw, bltV, rngV, rngOk, ups, n2]
  obtain ⟨ds, hds, hI⟩ := hI
  have hE : ∃ xs, boolsOf xs = some (xs.map fun _ => true) ∧ lenOk xs.length = true ∧ evE F C0 (.lc (.call 34 (.cons (.giv (.call 35 (.cons (.var 0) (.cons (.var 1) (.nil))))) (.nil))) (.nm 1) (.rng (.cst (.int 0)) (.blt .max2 (.cons (.cst (.int 1)) (.cons (.blt .min2 (.cons (.cst (.int 2)) (.cons (.blt .len (.cons (.var 0) (.nil))) (.nil)))) (.nil))))) (.non) [1]) [.scr 1 (ns.map .int), .emp] = some (.fr xs, [.scr 1 (ns.map .int), .emp]) := by
    rcases hds with rfl | rfl
    · refine ⟨[.bool true], rfl, rfl, ?_⟩
      rw [evE, hI]
      simp [lcV, lcLoop, asgT, putv, wipeE, evD, evE, evA, thaw, callO, arsOf, arOf, iosOf, distinct, backOut, rvO, frzE, frzd, backE, valOnly, lk1, e0, r0, Nat.blt]
    · refine ⟨[.bool true, .bool true], rfl, rfl, ?_⟩
      rw [evE, hI]
      simp [lcV, lcLoop, asgT, putv, wipeE, evD, evE, evA, thaw, callO, arsOf, arOf, iosOf, distinct, backOut, rvO, frzE, frzd, backE, valOnly, lk2, e0, r0, e1, r1, Nat.blt]
  obtain ⟨xs, hb, hz, hE⟩ := hE
  have hl : [Ar.sc (ns.map .int)].length = (⟨1, 2, b_law⟩ : Fn).np := rfl
  unfold runF
  rw [if_pos hl]
  dsimp only
  unfold b_law
  rw [show slOf 0 [Ar.sc (ns.map .int)] ++ List.replicate (2 - 1) Sl.emp = [.scr 1 (ns.map .int), .emp] from rfl]
  have al : (xs.map fun _ => true).all id = true := by simp
  rw [evSs, evS, evE, evA, hE]
  simp [evA, thaw, rds, rdsAll, bltV, hb, finF, rvOf, outsOf]
end K81

set_option Elab.async false
set_option linter.all false
set_option maxRecDepth 100000
set_option maxHeartbeats 0
namespace K81
open PySem Rf
/-- what is looked at of a turn of n axes -/
def okT (n : Nat) (t : Tn) : Bool := (t.length == n) && (t.all fun p => decide (0 ≤ p.1) && decide (p.1 < n) && (decide (p.2 = 1) || decide (p.2 = -1))) &&
  ((ud t).length == n) && ((List.range n).all fun i : Nat => let q := gt (ud t) i
    decide (gt t q.1 = ((i : Int), q.2)) && decide (0 ≤ q.1) && decide (q.1 < n))
theorem gt_mem {xs : Tn} {a : Int} {n : Nat} (h0 : 0 ≤ a) (h1 : a < n) (hl : xs.length = n) : gt xs a ∈ xs := by
  have h : a.toNat < xs.length := by omega
  unfold gt
  rw [List.getD_eq_getElem?_getD, List.getElem?_eq_getElem h]
  exact List.getElem_mem h
theorem okT_sgn {n : Nat} {t : Tn} (h : okT n t = true) : t.length = n ∧ (∀ p, p ∈ t → 0 ≤ p.1 ∧ p.1 < n ∧ (p.2 = 1 ∨ p.2 = -1)) := by
  unfold okT at h
  simp only [Bool.and_eq_true, beq_iff_eq, List.all_eq_true, decide_eq_true_eq, Bool.or_eq_true] at h
  exact ⟨h.1.1.1, fun p hp => ⟨(h.1.1.2 p hp).1.1, (h.1.1.2 p hp).1.2, (h.1.1.2 p hp).2⟩⟩
theorem okT_ud {n : Nat} {t : Tn} (h : okT n t = true) : (ud t).length = n ∧ ∀ i : Nat, i < n → gt t (gt (ud t) i).1 = ((i : Int), (gt (ud t) i).2) ∧ 0 ≤ (gt (ud t) i).1 ∧ (gt (ud t) i).1 < n := by
  unfold okT at h
  simp only [Bool.and_eq_true, beq_iff_eq, List.all_eq_true, decide_eq_true_eq, Bool.or_eq_true, List.mem_range] at h
  exact ⟨h.1.2, fun i hi => ⟨(h.2 i hi).1.1, (h.2 i hi).1.2, (h.2 i hi).2⟩⟩
theorem tvc_eq {n : Nat} {t xs : Tn} (h : okT n t = true) : tvc t xs = tv t xs := by
  unfold tvc tv
  refine List.map_congr_left fun p hp => ?_
  rcases ((okT_sgn h).2 p hp).2.2 with e | e
  · rw [if_pos e, e, Int.one_mul]
  · rw [if_neg (by rw [e]; decide), e]
    congr 1
    omega
theorem tv_len {n : Nat} {t xs : Tn} (h : okT n t = true) : (tv t xs).length = n := by
  unfold tv
  rw [List.length_map]
  exact (okT_sgn h).1
theorem tv_fr {n : Nat} {t xs : Tn} (h : okT n t = true) (hl : xs.length = n) (f : FrA xs) : FrA (tv t xs) := by
  intro q hq
  unfold tv at hq
  obtain ⟨p, hp, rfl⟩ := List.mem_map.mp hq
  obtain ⟨a, b, c⟩ := (okT_sgn h).2 p hp
  obtain ⟨f1, f2, f3, f4⟩ := f _ (gt_mem a b hl)
  rcases c with e | e <;> rw [e]
  · rw [Int.one_mul]; exact ⟨f1, f2, f3, f4⟩
  · have e2 : (-1 * (gt xs p.1).1).natAbs = (gt xs p.1).1.natAbs := by rw [Int.natAbs_mul]; simp
    refine ⟨f1, f2, by rw [e2]; exact f3, by rw [e2]; exact f4⟩
theorem gt_tv {n : Nat} {y xs : Tn} {a : Int} (h0 : 0 ≤ a) (h1 : a < n) (hl : y.length = n) : gt (tv y xs) a = ((gt y a).2 * (gt xs (gt y a).1).1, (gt xs (gt y a).1).2) := by
  have h : a.toNat < y.length := by omega
  have e : gt y a = y[a.toNat] := by
    unfold gt
    rw [List.getD_eq_getElem?_getD, List.getElem?_eq_getElem h]; rfl
  rw [e]
  unfold gt tv
  rw [List.getD_eq_getElem?_getD, List.getElem?_map, List.getElem?_eq_getElem h]
  rfl
theorem tv_bh {n : Nat} {x y xs : Tn} (hx : okT n x = true) (hy : okT n y = true) : tv (bh x y) xs = tv x (tv y xs) := by
  conv => lhs; unfold tv bh
  conv => rhs; unfold tv
  rw [List.map_map]
  refine List.map_congr_left fun p hp => ?_
  obtain ⟨a, b, _⟩ := (okT_sgn hx).2 p hp
  have e := gt_tv (xs := xs) a b (okT_sgn hy).1
  show ((p.2 * (gt y p.1).2) * (gt xs (gt y p.1).1).1, (gt xs (gt y p.1).1).2) = (p.2 * (gt (tv y xs) p.1).1, (gt (tv y xs) p.1).2)
  rw [e, Int.mul_assoc]
theorem tv_ud {n : Nat} {x xs : Tn} (hx : okT n x = true) (hl : xs.length = n) : tv (ud x) (tv x xs) = xs := by
  obtain ⟨lu, hu⟩ := okT_ud hx
  apply List.ext_getElem
  · unfold tv; rw [List.length_map, lu, hl]
  intro i h1 h2
  have hi : i < n := by omega
  obtain ⟨a, b, c⟩ := hu i hi
  have eg : (ud x)[i]'(by omega) = gt (ud x) i := by
    unfold gt
    rw [Int.toNat_natCast, List.getD_eq_getElem?_getD, List.getElem?_eq_getElem (by omega)]; rfl
  have ex : xs[i] = gt xs i := by
    unfold gt
    rw [Int.toNat_natCast, List.getD_eq_getElem?_getD, List.getElem?_eq_getElem h2]; rfl
  have st : (tv (ud x) (tv x xs))[i] = ((gt (ud x) i).2 * (gt (tv x xs) (gt (ud x) i).1).1, (gt (tv x xs) (gt (ud x) i).1).2) := by
    have q : (tv (ud x) (tv x xs))[i]? = some ((gt (ud x) i).2 * (gt (tv x xs) (gt (ud x) i).1).1, (gt (tv x xs) (gt (ud x) i).1).2) := by
      show (List.map _ (ud x))[i]? = _
      rw [List.getElem?_map, List.getElem?_eq_getElem (by omega), eg]
      rfl
    rw [List.getElem?_eq_getElem h1] at q
    exact Option.some.inj q
  rw [st, gt_tv b c (okT_sgn hx).1, a, ex]
  have sg : (gt (ud x) i).2 = 1 ∨ (gt (ud x) i).2 = -1 := by
    have m := gt_mem b c (okT_sgn hx).1
    have := ((okT_sgn hx).2 _ m).2.2
    rw [a] at this
    exact this
  refine Prod.ext ?_ rfl
  rcases sg with e | e <;> simp [e]
end K81

set_option Elab.async false
set_option linter.all false
set_option maxRecDepth 100000
set_option maxHeartbeats 0
namespace K81
open PySem Rf
/-- what the determinant says of a turn -/
def det1 (F : FT) (x : Tn) (b : Bool) : Bool := match F 29 [.pu (T x)] with
  | some (.fr r, []) => isPu (F 23 [.pu (.list r)]) (.int (if b then 1 else -1))
  | _ => false
theorem det1_ok {F : FT} {x : Tn} {b : Bool} (h : det1 F x b = true) : ∃ r, F 29 [.pu (T x)] = some (.fr r, []) ∧ F 23 [.pu (.list r)] = some (.pu (.int (if b then 1 else -1)), []) := by
  unfold det1 at h
  split at h
  · rename_i r e
    exact ⟨r, e, isPu_ok h⟩
  · cases h
theorem eqS (a : Str) : eqD (.str a) (.str a) = some true := by simp [eqD, scalD]
theorem sgx {F : FT} {m : Int} {ev : List Tn} {pb : Tn → Bool} {prl : List D} (hl : ev.length < 100)
    (e1 : F 1 [.pu (.int m)] = some (.fr (ev.map T), [])) (e6 : F 6 [.pu (.int m)] = some (.fr (ev.map T), []))
    (f26 : ∀ x, x ∈ ev → F 26 [.pu (.int m), .pu (T x)] = some (.pu (.bool (pb x)), []))
    (fd : ∀ x, x ∈ ev → det1 F x (pb x) = true)
    (r3 : reprOk (.list [.list (ev.map T), .list (ev.map T)]) = true) (r5 : reprOk (.list (ev.map T)) = true)
    (hix : idxV (.list [.int 2, .int 8, .int 48]) (.int (m - 1)) = some (.int (ev.map T).length))
    (hfm : ∀ f : D → Option D, (∀ x ∈ ev, f (T x) = if pb x then some (T x) else none) → (ev.map T).filterMap f = prl)
    (heq : eqD (.list prl) (.list prl) = some true) (hpl : (2 : Int) * prl.length = ev.length) : Sg F m ev prl where
  g2 := fun q0 q1 => by
    simp [evS, evE, evA, thaw, frzd, callO, arsOf, arOf, iosOf, distinct, backOut, rvO, slotOf, putv, Nat.blt, e1, e6]
  g3 := fun q0 q1 => by
    have hl2 : eqD (.int (ev.map T).length) (.int (ev.map T).length) = some true := by simp [eqD, scalD]
    simp only [List.length_map] at hl2 hix
    simp [evS, evSs, evE, evA, evP, rdp, rds, rdsAll, thaw, frzd, callO, arsOf, arOf, iosOf, distinct, backOut, rvO, pick, bltV, cmpV, binV, e6, r3, lk2, lk3, eqS, hix, hl2]
  g4 := fun q0 q1 => by
    have hb : Nat.blt ev.length 16777216 = true := Nat.ble_eq_true_of_le (by omega)
    simp [evS, evE, evA, thaw, frzd, mthV, hb]
  g5 := fun q0 q1 => by
    simp [evS, evSs, evE, evA, rdp, rds, rdsAll, thaw, frzd, callO, arsOf, arOf, iosOf, distinct, backOut, rvO, bltV, cmpV, e6, r5, eqS]
  g6 := fun q0 q1 => by
    have hz : lenOk prl.length = true := Nat.ble_eq_true_of_le (by omega)
    have lc : lcLoop (fun d e => asgT F C0 (.nm 4) d e) (fun e => evD F C0 (.som (.cmp .eq (.call 23 (.cons (.call 29 (.cons (.var 4) (.nil))) (.nil))) (.cst (.int 1)))) e) (fun e => frzE (evE F C0 (.var 4) e)) [4] (ev.map T) [.own 1 [.int q0, .int q1], .val (.int m), .emp, .emp, .emp, .val (.list (ev.map T)), .own 0 (ev.map T ++ [.none]), .emp, .emp, .emp, .emp, .emp, .emp, .emp, .emp, .emp] = some (prl, [.own 1 [.int q0, .int q1], .val (.int m), .emp, .emp, .emp, .val (.list (ev.map T)), .own 0 (ev.map T ++ [.none]), .emp, .emp, .emp, .emp, .emp, .emp, .emp, .emp, .emp]) := by
      let f : D → Option D := fun d => match F 29 [.pu d] with
        | some (.fr r, []) => match F 23 [.pu (.list r)] with
          | some (.pu (.int i), []) => if i = 1 then some d else none
          | _ => none
        | _ => none
      have hf : ∀ x ∈ ev, f (T x) = if pb x then some (T x) else none := fun x hx => by
        obtain ⟨r, w1, w2⟩ := det1_ok (fd x hx)
        simp only [f, w1, w2]
        cases pb x <;> simp
      have w := lc_map (st := fun d e => asgT F C0 (.nm 4) d e) (ts := fun e => evD F C0 (.som (.cmp .eq (.call 23 (.cons (.call 29 (.cons (.var 4) (.nil))) (.nil))) (.cst (.int 1)))) e) (el := fun e => frzE (evE F C0 (.var 4) e)) (own := [4]) (e := [.own 1 [.int q0, .int q1], .val (.int m), .emp, .emp, .emp, .val (.list (ev.map T)), .own 0 (ev.map T ++ [.none]), .emp, .emp, .emp, .emp, .emp, .emp, .emp, .emp, .emp]) f (ev.map T) fun d hd => by
        obtain ⟨x, hx, rfl⟩ := List.mem_map.mp hd
        obtain ⟨r, w1, w2⟩ := det1_ok (fd x hx)
        rw [hf x hx]
        refine ⟨[.own 1 [.int q0, .int q1], .val (.int m), .emp, .emp, .val (T x), .val (.list (ev.map T)), .own 0 (ev.map T ++ [.none]), .emp, .emp, .emp, .emp, .emp, .emp, .emp, .emp, .emp], pb x, [.own 1 [.int q0, .int q1], .val (.int m), .emp, .emp, .val (T x), .val (.list (ev.map T)), .own 0 (ev.map T ++ [.none]), .emp, .emp, .emp, .emp, .emp, .emp, .emp, .emp, .emp], ?_, ?_, ?_, ?_⟩
        · simp [asgT, putv, Nat.blt]
        · cases hb : pb x <;> rw [hb] at w2 <;> simp [evD, evE, evA, thaw, callO, arsOf, arOf, iosOf, distinct, backOut, rvO, rds, cmpV, eqD, scalD, w1, w2]
        · intro hb; simp [wipeE, hb]
        · intro hb; exact ⟨T x, [.own 1 [.int q0, .int q1], .val (.int m), .emp, .emp, .val (T x), .val (.list (ev.map T)), .own 0 (ev.map T ++ [.none]), .emp, .emp, .emp, .emp, .emp, .emp, .emp, .emp, .emp], by simp [frzE, evE, frzd], by simp [wipeE], by simp [hb]⟩
      rw [hfm f hf] at w
      exact w
    simp only [evS]
    rw [evE]
    simp only [evI, evE, List.getElem?_cons_succ, List.getElem?_cons_zero, frzd, seqV, Option.map_some, lcV, wipeE, List.set_cons_succ, List.set_cons_zero] at lc ⊢
    rw [lc]
    simp [hz, backE, valOnly, frzd, asgT, putv, Nat.blt]
  g7 := fun q0 q1 => by
    have hz : lenOk prl.length = true := Nat.ble_eq_true_of_le (by omega)
    have lc : lcLoop (fun d e => asgT F C0 (.nm 4) d e) (fun e => evD F C0 (.som (.call 26 (.cons (.var 1) (.cons (.var 4) (.nil))))) e) (fun e => frzE (evE F C0 (.var 4) e)) [4] (ev.map T) [.own 1 [.int q0, .int q1], .val (.int m), .val (.list prl), .emp, .emp, .val (.list (ev.map T)), .own 0 (ev.map T ++ [.none]), .emp, .emp, .emp, .emp, .emp, .emp, .emp, .emp, .emp] = some (prl, [.own 1 [.int q0, .int q1], .val (.int m), .val (.list prl), .emp, .emp, .val (.list (ev.map T)), .own 0 (ev.map T ++ [.none]), .emp, .emp, .emp, .emp, .emp, .emp, .emp, .emp, .emp]) := by
      let f : D → Option D := fun d => match F 26 [.pu (.int m), .pu d] with
        | some (.pu (.bool b), []) => if b then some d else none
        | _ => none
      have hf : ∀ x ∈ ev, f (T x) = if pb x then some (T x) else none := fun x hx => by
        simp only [f, f26 x hx]
      have w := lc_map (st := fun d e => asgT F C0 (.nm 4) d e) (ts := fun e => evD F C0 (.som (.call 26 (.cons (.var 1) (.cons (.var 4) (.nil))))) e) (el := fun e => frzE (evE F C0 (.var 4) e)) (own := [4]) (e := [.own 1 [.int q0, .int q1], .val (.int m), .val (.list prl), .emp, .emp, .val (.list (ev.map T)), .own 0 (ev.map T ++ [.none]), .emp, .emp, .emp, .emp, .emp, .emp, .emp, .emp, .emp]) f (ev.map T) fun d hd => by
        obtain ⟨x, hx, rfl⟩ := List.mem_map.mp hd
        rw [hf x hx]
        refine ⟨[.own 1 [.int q0, .int q1], .val (.int m), .val (.list prl), .emp, .val (T x), .val (.list (ev.map T)), .own 0 (ev.map T ++ [.none]), .emp, .emp, .emp, .emp, .emp, .emp, .emp, .emp, .emp], pb x, [.own 1 [.int q0, .int q1], .val (.int m), .val (.list prl), .emp, .val (T x), .val (.list (ev.map T)), .own 0 (ev.map T ++ [.none]), .emp, .emp, .emp, .emp, .emp, .emp, .emp, .emp, .emp], ?_, ?_, ?_, ?_⟩
        · simp [asgT, putv, Nat.blt]
        · simp [evD, evE, evA, thaw, callO, arsOf, arOf, iosOf, distinct, backOut, rvO, f26 x hx]
        · intro hb; simp [wipeE, hb]
        · intro hb; exact ⟨T x, [.own 1 [.int q0, .int q1], .val (.int m), .val (.list prl), .emp, .val (T x), .val (.list (ev.map T)), .own 0 (ev.map T ++ [.none]), .emp, .emp, .emp, .emp, .emp, .emp, .emp, .emp, .emp], by simp [frzE, evE, frzd], by simp [wipeE], by simp [hb]⟩
      rw [hfm f hf] at w
      exact w
    have hc : ∀ e : Ev, e = [.own 1 [.int q0, .int q1], .val (.int m), .val (.list prl), .emp, .emp, .val (.list (ev.map T)), .own 0 (ev.map T ++ [.none]), .emp, .emp, .emp, .emp, .emp, .emp, .emp, .emp, .emp] → evE F C0 (.lc (.var 4) (.nm 4) (.it (.var 5)) (.som (.call 26 (.cons (.var 1) (.cons (.var 4) (.nil))))) [4]) e = some (.fr prl, e) := fun e he => by
      subst he
      rw [evE]
      simp only [evI, evE, List.getElem?_cons_succ, List.getElem?_cons_zero, frzd, seqV, Option.map_some, lcV, wipeE, List.set_cons_succ, List.set_cons_zero] at lc ⊢
      rw [lc]
      simp [hz, backE, valOnly]
    have hm2 : binV .mul (.int 2) (.int (prl.length : Nat)) = some (.pu (.int ev.length)) := by
      show (if mulOk 2 (prl.length : Nat) = true then some (Opd.pu (.int (2 * (prl.length : Nat)))) else none) = _
      rw [if_pos (by unfold mulOk; rfl), hpl]
    have hl2 : eqD (.int (ev.length : Nat)) (.int (ev.length : Nat)) = some true := by simp [eqD, scalD]
    simp [evS, evSs, ↓hc _ rfl, evA, evE, rdp, rds, rdsAll, thaw, cmpV, heq, bltV, hm2, hl2]
end K81

set_option Elab.async false
set_option linter.all false
set_option maxRecDepth 100000
set_option maxHeartbeats 0
namespace K81
open PySem Rf
theorem hfm_of {ev pr : List Tn} {pb : Tn → Bool} (h : ev.filter pb = pr) (f : D → Option D) (hf : ∀ x ∈ ev, f (T x) = if pb x then some (T x) else none) : (ev.map T).filterMap f = pr.map T := by
  subst h
  induction ev with
  | nil => rfl
  | cons x ev ih =>
    have i := ih fun y hy => hf y (List.mem_cons_of_mem _ hy)
    have e := hf x List.mem_cons_self
    rw [List.map_cons, List.filterMap_cons, e, List.filter_cons]
    cases pb x <;> simp [i]
theorem e23_1 : (ev1.all fun x => det1 (G 38) x (px 1 x)) = true := by decide +kernel
theorem e23_2 : (ev2.all fun x => det1 (G 38) x (px 2 x)) = true := by decide +kernel
theorem e23_3_0 : (((ev3.drop 0).take 4).all fun x => det1 (G 38) x (px 3 x)) = true := by decide +kernel
theorem e23_3_1 : (((ev3.drop 4).take 4).all fun x => det1 (G 38) x (px 3 x)) = true := by decide +kernel
theorem e23_3_2 : (((ev3.drop 8).take 4).all fun x => det1 (G 38) x (px 3 x)) = true := by decide +kernel
theorem e23_3_3 : (((ev3.drop 12).take 4).all fun x => det1 (G 38) x (px 3 x)) = true := by decide +kernel
theorem e23_3_4 : (((ev3.drop 16).take 4).all fun x => det1 (G 38) x (px 3 x)) = true := by decide +kernel
theorem e23_3_5 : (((ev3.drop 20).take 4).all fun x => det1 (G 38) x (px 3 x)) = true := by decide +kernel
theorem e23_3_6 : (((ev3.drop 24).take 4).all fun x => det1 (G 38) x (px 3 x)) = true := by decide +kernel
theorem e23_3_7 : (((ev3.drop 28).take 4).all fun x => det1 (G 38) x (px 3 x)) = true := by decide +kernel
theorem e23_3_8 : (((ev3.drop 32).take 4).all fun x => det1 (G 38) x (px 3 x)) = true := by decide +kernel
theorem e23_3_9 : (((ev3.drop 36).take 4).all fun x => det1 (G 38) x (px 3 x)) = true := by decide +kernel
theorem e23_3_10 : (((ev3.drop 40).take 4).all fun x => det1 (G 38) x (px 3 x)) = true := by decide +kernel
theorem e23_3_11 : (((ev3.drop 44).take 4).all fun x => det1 (G 38) x (px 3 x)) = true := by decide +kernel
theorem e23_3 : (ev3.all fun x => det1 (G 38) x (px 3 x)) = true := all_parts 4 12 (by decide) fun i hi => match i, hi with | 0, _ => e23_3_0 | 1, _ => e23_3_1 | 2, _ => e23_3_2 | 3, _ => e23_3_3 | 4, _ => e23_3_4 | 5, _ => e23_3_5 | 6, _ => e23_3_6 | 7, _ => e23_3_7 | 8, _ => e23_3_8 | 9, _ => e23_3_9 | 10, _ => e23_3_10 | 11, _ => e23_3_11 | i + 12, hi => absurd hi (by omega)
theorem r3_1 : reprOk (.list [.list (ev1.map T), .list (ev1.map T)]) = true := by decide +kernel
theorem r5_1 : reprOk (.list (ev1.map T)) = true := by decide +kernel
theorem fl_1 : ev1.filter (px 1) = pr1 := by decide +kernel
theorem heq_1 : (match eqD (.list (pr1.map T)) (.list (pr1.map T)) with | some b => b | none => false) = true := by decide +kernel
theorem heq'_1 : eqD (.list (pr1.map T)) (.list (pr1.map T)) = some true := by
  have h := heq_1
  split at h
  · rename_i b e
    rw [e, h]
  · cases h
theorem sg1 : Sg (G 38) 1 ev1 (pr1.map T) := sgx (pb := px 1) (by decide) e1_1 e6_1 (fun x hx => isPu_ok (List.all_eq_true.mp e26_1 x hx)) (fun x hx => List.all_eq_true.mp e23_1 x hx) r3_1 r5_1 (by kernel_rfl) (hfm_of fl_1) heq'_1 (by decide +kernel)
theorem r3_2 : reprOk (.list [.list (ev2.map T), .list (ev2.map T)]) = true := by decide +kernel
theorem r5_2 : reprOk (.list (ev2.map T)) = true := by decide +kernel
theorem fl_2 : ev2.filter (px 2) = pr2 := by decide +kernel
theorem heq_2 : (match eqD (.list (pr2.map T)) (.list (pr2.map T)) with | some b => b | none => false) = true := by decide +kernel
theorem heq'_2 : eqD (.list (pr2.map T)) (.list (pr2.map T)) = some true := by
  have h := heq_2
  split at h
  · rename_i b e
    rw [e, h]
  · cases h
theorem sg2 : Sg (G 38) 2 ev2 (pr2.map T) := sgx (pb := px 2) (by decide) e1_2 e6_2 (fun x hx => isPu_ok (List.all_eq_true.mp e26_2 x hx)) (fun x hx => List.all_eq_true.mp e23_2 x hx) r3_2 r5_2 (by kernel_rfl) (hfm_of fl_2) heq'_2 (by decide +kernel)
theorem r3_3 : reprOk (.list [.list (ev3.map T), .list (ev3.map T)]) = true := by decide +kernel
theorem r5_3 : reprOk (.list (ev3.map T)) = true := by decide +kernel
theorem fl_3 : ev3.filter (px 3) = pr3 := by decide +kernel
theorem heq_3 : (match eqD (.list (pr3.map T)) (.list (pr3.map T)) with | some b => b | none => false) = true := by decide +kernel
theorem heq'_3 : eqD (.list (pr3.map T)) (.list (pr3.map T)) = some true := by
  have h := heq_3
  split at h
  · rename_i b e
    rw [e, h]
  · cases h
theorem sg3 : Sg (G 38) 3 ev3 (pr3.map T) := sgx (pb := px 3) (by decide) e1_3 e6_3 (fun x hx => isPu_ok (List.all_eq_true.mp e26_3 x hx)) (fun x hx => List.all_eq_true.mp e23_3 x hx) r3_3 r5_3 (by kernel_rfl) (hfm_of fl_3) heq'_3 (by decide +kernel)
end K81

set_option Elab.async false
set_option linter.all false
set_option maxRecDepth 100000
set_option maxHeartbeats 0
namespace K81
open PySem Rf
theorem all1 {l : List Tn} {p : Tn → Bool} (h : (l.all p) = true) : ∀ x, x ∈ l → p x = true := fun x hx => List.all_eq_true.mp h x hx
theorem all2 {l r : List Tn} {p : Tn → Tn → Bool} (h : (l.all fun x => r.all (p x)) = true) : ∀ x, x ∈ l → ∀ y, y ∈ r → p x y = true := fun x hx y hy => List.all_eq_true.mp (List.all_eq_true.mp h x hx) y hy
theorem anyM {l : List Tn} {x : Tn} (h : l.any (tneq x) = true) : x ∈ l := by
  obtain ⟨y, hy, e⟩ := List.any_eq_true.mp h
  unfold tneq at e
  rw [of_decide_eq_true e]
  exact hy
def oeq : Option Bool → Option Bool → Bool
  | some a, some b => a == b
  | _, _ => false
theorem oeq_ok {a : Option Bool} {c : Bool} (h : oeq a (some c) = true) : a = some c := by
  cases a with
  | none => cases h
  | some d => unfold oeq at h; rw [eq_of_beq h]
/-- what the vector statements ask of a dimension -/
structure Vc (m : Int) (n : Nat) (ev : List Tn) : Prop where
  v15 : ∀ xs : Tn, xs.length = n → (ev.map fun t => G 38 15 [.pu (T t), .pu (T xs)]) = ev.map fun t => some (.pu (T (tv t xs)), [])
  v20 : ∀ xs : Tn, xs.length = n → (ev.map fun t => G 37 20 [.pu (T t), .pu (T xs)]) = ev.map fun t => some (.pu (T (tvc t xs)), [])
theorem fx {m : Int} {n : Nat} {ev : List Tn} {prl : List D} (hn : (n : Int) = m) (n0 : 1 ≤ n) (n1 : n ≤ 3) (l0 : 0 < ev.length) (l1 : ev.length < 100)
    (e12 : (ev.all fun x => ev.all fun y => isPu (G 38 12 [.pu (.int m), .pu (T x), .pu (T y)]) (T (bh x y))) = true)
    (e28 : (ev.all fun x => ev.all fun y => isPu (G 38 28 [.pu (T x), .pu (T y)]) (T (bh x y))) = true)
    (e14 : (ev.all fun x => isPu (G 38 14 [.pu (.int m), .pu (T x)]) (T (ud x))) = true)
    (e30 : (ev.all fun x => isPu (G 38 30 [.pu (T x)]) (T (ud x))) = true)
    (e24 : (ev.all fun x => isPu (G 38 24 [.pu (.int m), .pu (T x)]) (.bool true)) = true)
    (e26 : (ev.all fun x => isPu (G 38 26 [.pu (.int m), .pu (T x)]) (.bool (px m x))) = true)
    (e33 : (ev.all fun x => isPu (G 38 33 [.pu (.int m), .pu (T x)]) (.int (ordT n x)) && (ordL n x 12 x 1).isSome) = true)
    (e22 : isPu (G 38 22 [.pu (.int m)]) (T (sameT n)) = true)
    (e4 : isPu (G 37 4 [.pu (.int m)]) .none = true)
    (e10 : (ev.all fun x => isPu (G 37 10 [.pu (.int m), .pu (T x)]) .none) = true)
    (ebh : (ev.all fun x => ev.all fun y => ev.any (tneq (bh x y)) && (px m (bh x y) == (px m x == px m y))) = true)
    (eud : (ev.all fun x => ev.any (tneq (ud x))) = true) (V : Vc m n ev)
    (hmem : (ev.all fun x => oeq (memD (T x) (.list prl)) (some (px m x))) = true)
    (hrep : (ev.all fun x => reprOk (.list [T x, T x]) && reprOk (.list [.int (ordT n x), .int (ordT n x)])) = true)
    (hfe : (ev.all fun x => oeq (eqD (T x) (T (sameT n))) (some (tneq x (sameT n)))) = true)
    (hok : (ev.all fun x => okT n x) = true) (hcut : cutL (ev.map T) none (some 8) = (ev.take 8).map T) : Fx (G 38) m n ev (px m) prl where
  hn := hn
  n0 := n0
  n1 := n1
  ev0 := l0
  ev1 := l1
  f12 := fun x hx y hy => isPu_ok (all2 e12 x hx y hy)
  f28 := fun x hx y hy => isPu_ok (all2 e28 x hx y hy)
  f14 := fun x hx => isPu_ok (all1 e14 x hx)
  f30 := fun x hx => isPu_ok (all1 e30 x hx)
  f24 := fun x hx => isPu_ok (all1 e24 x hx)
  f26 := fun x hx => isPu_ok (all1 e26 x hx)
  f33 := fun x hx => ⟨isPu_ok (Bool.and_eq_true_iff.mp (all1 e33 x hx)).1, (Bool.and_eq_true_iff.mp (all1 e33 x hx)).2⟩
  f22 := isPu_ok e22
  cbh := fun x hx y hy => ⟨anyM (Bool.and_eq_true_iff.mp (all2 ebh x hx y hy)).1, eq_of_beq (Bool.and_eq_true_iff.mp (all2 ebh x hx y hy)).2⟩
  cud := fun x hx => anyM (all1 eud x hx)
  mem := fun x hx => oeq_ok (all1 hmem x hx)
  rep := fun x hx => (Bool.and_eq_true_iff.mp (all1 hrep x hx)).1
  rpi := fun x hx => (Bool.and_eq_true_iff.mp (all1 hrep x hx)).2
  f15 := fun t ht xs hl => List.map_inj_left.mp (V.v15 xs hl) t ht
  f21 := fun t ht xs hl hf => by
    have e := List.map_inj_left.mp (V.v20 xs hl) t ht
    rw [tvc_eq (all1 hok t ht)] at e
    exact turned_ok (k := 33) hf (by rw [hl, hn]) (by omega) (isPu_ok e4) (isPu_ok (all1 e10 t ht)) e
  fpk := fun p0 p1 hp => by
    obtain ⟨x, q0, q1, e, hq, hx⟩ := pick_ok (k := 36) (xs := ev.map T) hp (by rw [List.length_map]; exact l0) (by rw [List.length_map]; omega)
    obtain ⟨t, ht, rfl⟩ := List.mem_map.mp hx
    exact ⟨t, ht, q0, q1, e, hq⟩
  fvc := fun p0 p1 s2 s3 s4 s5 s6 s7 s8 s9 s10 s11 s12 s13 s14 s15 hp => by
    have hs := s14a (k := 37) (m := m) (s2 := s2) (s3 := s3) (s4 := s4) (s5 := s5) (s6 := s6) (s7 := s7) (s8 := s8) (s9 := s9) (s10 := s10) (s11 := s11) (s12 := s12) (s13 := s13) (s14 := s14) (s15 := s15) hp (by omega) (by omega)
    obtain ⟨xs, q0, q1, e, hq, hf, hl⟩ := hs
    exact ⟨xs, q0, q1, e, hq, hf, by omega⟩
  fe := fun x hx => oeq_ok (all1 hfe x hx)
  fcut := hcut
  tvl := fun t ht xs hl => ⟨tv_len (all1 hok t ht), fun hf => tv_fr (all1 hok t ht) hl hf⟩
  tvb := fun x hx y hy xs hl => tv_bh (all1 hok x hx) (all1 hok y hy)
  tvu := fun x hx xs hl => tv_ud (all1 hok x hx) hl

theorem vc1 : Vc 1 1 ev1 where
  v15 := fun xs hl => match xs, hl with
    | [(n0, d0)], _ => e15_1 n0 d0
    | [], hl => by simp at hl
    | _ :: _ :: _, hl => by simp at hl
  v20 := fun xs hl => match xs, hl with
    | [(n0, d0)], _ => e20_1 n0 d0
    | [], hl => by simp at hl
    | _ :: _ :: _, hl => by simp at hl
theorem fx1 : Fx (G 38) 1 1 ev1 (px 1) (pr1.map T) :=
  fx rfl (by decide) (by decide) (by decide) (by decide) e12_1 e28_1 e14_1 e30_1 e24_1 e26_1 e33_1 e22_1 e4_1 e10_1 ebh_1 eud_1 vc1
    (by decide +kernel) (by decide +kernel) (by decide +kernel) (by decide +kernel) (by kernel_rfl)

theorem vc2 : Vc 2 2 ev2 where
  v15 := fun xs hl => match xs, hl with
    | [(n0, d0), (n1, d1)], _ => e15_2 n0 d0 n1 d1
    | [], hl => by simp at hl
    | [_], hl => by simp at hl
    | _ :: _ :: _ :: _, hl => by simp at hl
  v20 := fun xs hl => match xs, hl with
    | [(n0, d0), (n1, d1)], _ => e20_2 n0 d0 n1 d1
    | [], hl => by simp at hl
    | [_], hl => by simp at hl
    | _ :: _ :: _ :: _, hl => by simp at hl
theorem fx2 : Fx (G 38) 2 2 ev2 (px 2) (pr2.map T) :=
  fx rfl (by decide) (by decide) (by decide) (by decide) e12_2 e28_2 e14_2 e30_2 e24_2 e26_2 e33_2 e22_2 e4_2 e10_2 ebh_2 eud_2 vc2
    (by decide +kernel) (by decide +kernel) (by decide +kernel) (by decide +kernel) (by kernel_rfl)

theorem vc3 : Vc 3 3 ev3 where
  v15 := fun xs hl => match xs, hl with
    | [(n0, d0), (n1, d1), (n2, d2)], _ => e15_3 n0 d0 n1 d1 n2 d2
    | [], hl => by simp at hl
    | [_], hl => by simp at hl
    | [_, _], hl => by simp at hl
    | _ :: _ :: _ :: _ :: _, hl => by simp at hl
  v20 := fun xs hl => match xs, hl with
    | [(n0, d0), (n1, d1), (n2, d2)], _ => e20_3 n0 d0 n1 d1 n2 d2
    | [], hl => by simp at hl
    | [_], hl => by simp at hl
    | [_, _], hl => by simp at hl
    | _ :: _ :: _ :: _ :: _, hl => by simp at hl
theorem fx3 : Fx (G 38) 3 3 ev3 (px 3) (pr3.map T) :=
  fx rfl (by decide) (by decide) (by decide) (by decide) e12_3 e28_3 e14_3 e30_3 e24_3 e26_3 e33_3 e22_3 e4_3 e10_3 ebh_3 eud_3 vc3
    (by decide +kernel) (by decide +kernel) (by decide +kernel) (by decide +kernel) (by kernel_rfl)

theorem sx (m : Int) (h0 : 1 ≤ m) (h1 : m ≤ 3) : ∃ n ev pb prl, Fx (G 38) m n ev pb prl ∧ Sg (G 38) m ev prl := by
  have h : m = 1 ∨ m = 2 ∨ m = 3 := by omega
  rcases h with h | h | h <;> subst h
  · exact ⟨_, _, _, _, fx1, sg1⟩
  · exact ⟨_, _, _, _, fx2, sg2⟩
  · exact ⟨_, _, _, _, fx3, sg3⟩
theorem ev_G (ns : List Int) : G 40 36 [.sc (ns.map .int)] = some (.pu (.bool true), []) := by
  rw [one (fn := ⟨1, 2, b_law⟩) rfl]
  refine law_ok (F := G 39) ns (fun i h0 h1 => ?_) (fun p0 p1 hp => ?_)
  · rw [one (fn := ⟨2, 3, b__law_pot⟩) rfl]
    exact pot_ok ns h0 h1
  · rw [one (fn := ⟨1, 16, b__law_right⟩) rfl]
    exact right_ok (F := G 38) (fun a b h => draw_ok (k := 37) h (by decide) (by decide)) sx hp
end K81

set_option Elab.async false
set_option linter.all false
set_option maxRecDepth 100000
set_option maxHeartbeats 0
namespace K81
open PySem PySem.Spec PyProof.Rows L2 Rf
def tri (x : Str) (N : List String) (np : Nat) (b : ISs) : Str × List Str × Fn := (x, N.map Str.ofString, ⟨np, N.length, b⟩)
def tops : List (Str × List Str × Fn) := [tri "_law_draw" n__law_draw 2 b__law_draw, tri "_law_turns" n__law_turns 1 b__law_turns, tri "is_integer" n_is_integer 1 b_is_integer, tri "is_within" n_is_within 3 b_is_within, tri "want_dims" n_want_dims 1 b_want_dims, tri "turns_of" n_turns_of 1 b_turns_of, tri "all_turns" n_all_turns 1 b_all_turns, tri "_law_pick" n__law_pick 2 b__law_pick, tri "is_tuple" n_is_tuple 2 b_is_tuple, tri "is_turn_of" n_is_turn_of 2 b_is_turn_of, tri "want_turn" n_want_turn 2 b_want_turn, tri "behind_of" n_behind_of 2 b_behind_of, tri "behind_turn" n_behind_turn 3 b_behind_turn, tri "undone_of" n_undone_of 1 b_undone_of, tri "undone_turn" n_undone_turn 2 b_undone_turn, tri "_law_turned" n__law_turned 2 b__law_turned, tri "is_fraction" n_is_fraction 1 b_is_fraction, tri "is_vector_of" n_is_vector_of 2 b_is_vector_of, tri "want_vector_of" n_want_vector_of 2 b_want_vector_of, tri "contrary" n_contrary 1 b_contrary, tri "turned_by" n_turned_by 2 b_turned_by, tri "turned" n_turned 3 b_turned, tri "_law_same" n__law_same 1 b__law_same, tri "_law_determinant" n__law_determinant 1 b__law_determinant, tri "is_turn" n_is_turn 2 b_is_turn] ++ [tri "falls" n_falls 1 b_falls, tri "is_proper" n_is_proper 2 b_is_proper, tri "_law_made" n__law_made 2 b__law_made, tri "_law_behind" n__law_behind 2 b__law_behind, tri "_law_table" n__law_table 1 b__law_table, tri "_law_undone" n__law_undone 1 b__law_undone, tri "same_turn" n_same_turn 1 b_same_turn, tri "order_of" n_order_of 1 b_order_of, tri "turn_order" n_turn_order 2 b_turn_order, tri "_law_right" n__law_right 1 b__law_right, tri "_law_pot" n__law_pot 2 b__law_pot, tri "law" n_law 1 b_law]
def drs : List DR := tops.map (mkDR PySem.Challenge.pw_cavelegs_k81_whole_turns.main.body)
def bn : List Str := ["abs", "all", "bool", "divmod", "enumerate", "int", "isinstance", "len", "list", "max", "min", "range", "repr", "sorted", "tuple"]
def kws : List (Nat × List Str × List Nat) := [(6, ["dims"], [0]), (12, ["other", "turn", "dims"], [2, 1, 0]), (14, ["turn", "dims"], [1, 0]), (21, ["vector", "turn", "dims"], [2, 1, 0]), (26, ["turn", "dims"], [1, 0]), (33, ["turn", "dims"], [1, 0])]
def gl : List (Str × D) := consts.map fun q => (Str.ofString q.1, q.2)
abbrev pg : Pg := mkPg drs gl bn true kws
theorem chk : drs.all (chkDR pg) = true := by decide +kernel
theorem kw : KwAll drs kws := ⟨⟨_, rfl, fun _ _ _ _ _ _ ws hl => match ws, hl with | [_], _ => ⟨_, rfl, rfl⟩⟩, ⟨⟨_, rfl, fun _ _ _ _ _ _ ws hl => match ws, hl with | [_, _, _], _ => ⟨_, rfl, rfl⟩⟩, ⟨⟨_, rfl, fun _ _ _ _ _ _ ws hl => match ws, hl with | [_, _], _ => ⟨_, rfl, rfl⟩⟩, ⟨⟨_, rfl, fun _ _ _ _ _ _ ws hl => match ws, hl with | [_, _, _], _ => ⟨_, rfl, rfl⟩⟩, ⟨⟨_, rfl, fun _ _ _ _ _ _ ws hl => match ws, hl with | [_, _], _ => ⟨_, rfl, rfl⟩⟩, ⟨⟨_, rfl, fun _ _ _ _ _ _ ws hl => match ws, hl with | [_, _], _ => ⟨_, rfl, rfl⟩⟩, trivial⟩⟩⟩⟩⟩⟩
abbrev R : PySem.W.OpenRow := PySem.W.OpenLaw.row PySem.Challenge.rw_cavelegs_k81_whole_turns
abbrev hk : PySem.W.Hook := hookR 4 pg (drs.map DR.D)
def ob (s : PySem.W.SharedT) : He.AlD := obR 4 pg (drs.map DR.D) s
theorem ob_eq (s : PySem.W.SharedT) : ob s = hk.obs s.abs := obR_eq s
def loose : List Str := (["is_integer", "is_within", "is_tuple", "CaveError", "InvalidDims", "InvalidTurn", "InvalidVector", "contrary", "is_fraction", "MOST_DIMS", "is_vector_of", "same_turn", "turned_by", "behind_of", "undone_of", "turns_of", "falls", "order_of", "is_turn_of", "want_dims", "want_turn", "want_vector_of", "is_turn", "all_turns", "turned", "behind_turn", "undone_turn", "is_proper", "turn_order", "_law_pot"] : List Str) ++ (["_law_draw", "_law_pick", "_law_mixed", "_law_made", "_law_plus", "_law_less", "_law_nought", "_law_vector", "_law_turns", "_law_turned", "_law_same", "_law_behind", "_law_undone", "_law_determinant", "_law_table", "_law_right"] : List Str)
theorem run (w : World) : HandSHeadRun.RunEqI R (PySem.W.view R.prog [0, 53]) hk ob 3000 loose w := by
  unfold HandSHeadRun.RunEqI
  kernel_rfl
end K81

set_option Elab.async false
set_option linter.all false
set_option maxRecDepth 100000
set_option maxHeartbeats 0
namespace K81
open PySem PySem.Spec PyProof.Rows L2 Rf
theorem ev (ns : List Int) (h : ns.length ≤ 63) : pg.F 40 36 [.sc (ns.map .int)] = some (.pu (.bool true), []) := by
  have hT : pg.T = fns := by kernel_rfl
  have hC : pg.C = C0 := by kernel_rfl
  show callN pg.C pg.T 40 36 _ = _
  rw [hT, hC]
  exact ev_G ns
def dl : DR := mkDR PySem.Challenge.pw_cavelegs_k81_whole_turns.main.body (tri "law" n_law 1 b_law)
theorem hd : drs[36]? = some dl := rfl
theorem hps : dl.ps = [("script" : Str)] := by decide +kernel
theorem hx : dl.x = ("law" : Str) := rfl
end K81
open PySem PySem.W PySem.Calls PyProof.Rows
theorem PySem.Challenge.cw_cavelegs_k81_whole_turns_holds : PySem.Challenge.rw_cavelegs_k81_whole_turns.Holds := by
  w_on; o_law
  refine HandSHeadRun.head_imp (r := OpenLaw.row PySem.Challenge.rw_cavelegs_k81_whole_turns) (q := view (OpenLaw.row PySem.Challenge.rw_cavelegs_k81_whole_turns).prog [0, 53]) (H := K81.hk) (ob := K81.ob) (M := 3000) (loose := K81.loose) (d := HandSHeadRun.topDef (OpenLaw.row PySem.Challenge.rw_cavelegs_k81_whole_turns).prog 53) (kwd := []) K81.ob_eq K81.run
    (by kernel_rfl) (by kernel_rfl) (by kernel_rfl) (by rfl) (by first | assumption | decide +kernel) (by decide +kernel) ⟨rfl, rfl, rfl, rfl, rfl, by decide +kernel⟩ ?hw ?hc
  case hw => w_witness2
  case hc =>
    refine Rf.walk_G (l := PySem.Challenge.rw_cavelegs_k81_whole_turns) (n := 63) (k := 40) (x := "script") rfl (by decide) (by kernel_rfl) ⟨rfl, by decide, by decide⟩ ?F
    intro w mg fa h Y G hmg0
    have e : (HandSHeadRun.topDef (OpenLaw.row PySem.Challenge.rw_cavelegs_k81_whole_turns).prog 53).name = ("law" : PySem.Str) := by kernel_rfl
    rw [e] at hmg0
    exact Rf.law_F (P := PySem.Challenge.rw_cavelegs_k81_whole_turns.prog) (w := w) (k := 40) (x := "script") K81.chk K81.kw K81.hd K81.hps K81.ev Y G hmg0

