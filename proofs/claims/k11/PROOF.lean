import PyProof.Rows.All
import PySem.Challenge.RW_matchedandcleared_k11_whole_telling_the
import HandS.ForMost
import HandS.Wide
import HandS.Deep
import HandS.Flow
import HandS.Style
import HandS.TupAny
import HandS.TupMul
import HandS.IsInst
import HandS.Exc
import HandS.TryOnly
import HandS.ExcOwn
import HandS.WordsExc
import HandS.GenOver
import HandS.AnyAll
import HandS.EndTab
import HandS.Gcd
import HandS.SortInts
import HandS.Rev
import HandS.Conv
import HandS.RevTup
import HandS.GenList
import HandS.SortOrd
import HandS.SortRule
import HandS.TupSets
import HandS.ExcCtx
import KE.GoesMore
import HandS.Iter
import HandS.Zip
import HandS.HotCalls
import HandS.ExcIs
import PyProof.TupleIter
import HandS.SortKw
import HandS.More
import HandS.Star
import HandS.HeadHook4
import HandS.HeadWalk
import PyProof.ExcBaseAll.ValueError
import HandS.Head0
import HandS.Head1
import HandS.Head2
import HandS.Head3
import HandS.HeadEnd
import HandS.Ends
import Wide.FinOn
import KE.KStateDown
set_option Elab.async false
set_option linter.all false
set_option exponentiation.threshold 10000
set_option maxRecDepth 100000
/-! Den, part A: the core language and its evaluator (plain Lean; no program in sight). -/
namespace Den
open PySem

/-! ### values and slots -/
abbrev D := PyData
/-- a slot of a frame: nothing known; a value that nobody changes; a list that this frame may change (p: it is the caller's; l: it is walked just now) -/
inductive Sl where
  | no
  | val (d : D)
  | own (p l : Bool) (ds : List D)
  | err (k : Nat)
/-- what an expression gives: a value; the list in a slot; a list that nobody else knows -/
inductive EV where
  | val (d : D)
  | loc (i : Nat)
  | fresh (ds : List D)
abbrev Ev := List Sl
inductive R (α : Type) where
  | ok (a : α) (ρ : Ev)
  | exc (c : Nat) (ρ : Ev)
  | bad
abbrev M (α : Type) := Ev → R α
def ret {α : Type} (a : α) : M α := fun ρ => .ok a ρ
def fail {α : Type} : M α := fun _ => .bad
def bnd {α β : Type} (m : M α) (f : α → M β) : M β := fun ρ => match m ρ with
  | .ok a ρ' => f a ρ'
  | .exc c ρ' => .exc c ρ'
  | .bad => .bad
def ofO {α : Type} : Option α → M α
  | some a => ret a
  | none => fail
/-- what a call hands back: a value, or a list that nobody else knows; the arguments behind it -/
inductive FR where
  | ok (r : EV) (as : List Sl)
  | exc (c : Nat) (as : List Sl)
  | bad
abbrev Fns := Nat → List Sl → FR

/-! ### the core language -/
inductive Op2 where | add | sub | mul | fdiv | mod | pow | xor | shr
  deriving DecidableEq
inductive Cmp where | eq | ne | lt | le | gt | ge | iss | isn | inn | nin
  deriving DecidableEq
inductive Ty where | int | bool | str | tuple | list | dict
  deriving DecidableEq
/-- built-in functions and methods of values -/
inductive BI where
  | len | abs | mn | mx | sum | sorted | tuple | list | int | gcd
  deriving DecidableEq
/-- what consumes a generator expression -/
inductive GB where | all | any
  deriving DecidableEq
/-- targets -/
inductive Tg where
  | nm (i : Nat)
  | tp (is : List Nat)
  | np (ts : List (Nat ⊕ List Nat))
  deriving DecidableEq

mutual
inductive CE where
  | var (i : Nat)
  | cst (d : D)
  | glb (x : Nat)
  | bin (o : Op2) (a b : CE)
  | neg (a : CE)
  | cmp (o : Cmp) (a b : CE)
  | cmp2 (o p : Cmp) (a b c : CE)
  | nt (a : CE)
  | and (es : CEs)
  | or (es : CEs)
  | ite (c a b : CE)
  | tup (es : CEs)
  | lst (es : CEs)
  | call (f : Nat) (es : CEs)
  | bi (b : BI) (es : CEs)
  | isi (a : CE) (t : Ty)
  | idx (a i : CE)
  | slc (a : CE) (lo hi : CEs)
  | lc (elt : CE) (tg : Tg) (it : CI) (ifs : CEs)
  | gx (b : GB) (elt : CE) (tg : Tg) (it : CI) (ifs : CEs)
  | app (a e : CE)
  | pop (a : CE)
  /-- list(reversed(a)), list(range(..)) -/
  | rev (a : CE)
  | lrg (es : CEs)
  | trg (es : CEs)
  /-- a.index(e) -/
  | ixof (a e : CE)
  /-- isinstance(error, class); a call with the error alone -/
  | isx (i : Nat) (ks : List Nat)
  | callX (f i : Nat)
  /-- a[::-1] of a list; a.insert(i, e); a.pop(i); a.extend(e), e a new list; (*a, b); list(zip(a, b)) -/
  | revs (a : CE)
  | ins (a i e : CE)
  | popI (a i : CE)
  | ext (a e : CE)
  | tupS (fs : List Bool) (es : CEs)
  | lzip (a b : CE)
  /-- sorted(a, reverse=True) of ints -/
  | srev (a : CE)
  /-- a[::s] of a list, s above nought -/
  | slcS (a s : CE)
inductive CEs where
  | nil
  | cons (e : CE) (es : CEs)
/-- what is walked -/
inductive CI where
  | ex (e : CE)
  | rng (es : CEs)
  | enum (e : CE)
  | zip (a b : CE)
  | rev (e : CE)
  | seq (e : CE)
  | rng3 (es : CEs)
end
mutual
inductive CS where
  | asg (i : Nat) (own : Bool) (e : CE)
  | par (is : List Nat) (ows : List Bool) (es : CEs)
  | asgT (is : List Nat) (e : CE)
  | asgN (ts : List (Nat ⊕ List Nat)) (e : CE)
  | sto (a ix e : CE)
  | aug (i : Nat) (o : Op2) (e : CE)
  | augS (a ix : CE) (o : Op2) (e : CE)
  | exp (e : CE)
  | ret (e : CE)
  | retN
  | ife (c : CE) (a b : CSs)
  | whl (fuel : Nat) (c : CE) (b : CSs)
  | for_ (tg : Tg) (it : CI) (b : CSs)
  | brk
  | cnt
  | pss
  | rse (c : Nat)
  | tryE (i : Option Nat) (ks os : List Nat) (b h : CSs)
inductive CSs where
  | nil
  | cons (s : CS) (r : CSs)
  | frz (i : Nat) (r : CSs)
  | kil (is : List Nat) (r : CSs)
end

/-! ### plain operations -/
abbrev line : Nat := 16777216
def truthD : D → Option Bool
  | .none => some false
  | .bool b => some b
  | .int i => some (i != 0)
  | .str s => if s.length ≤ line then some (s.length != 0) else none
  | .list ds => some (!ds.isEmpty)
  | .tuple ds => some (!ds.isEmpty)
  | .dict _ => none
def mulOk (i j : Int) : Bool := decide (i.natAbs.log2 + j.natAbs.log2 < 100000000)
def divOk (j : Int) : Bool := j != 0 && decide (j.natAbs.log2 < 9000)
def powOk (i j : Int) : Bool := decide (0 ≤ j) && decide (j ≤ 1000000) && decide (i.natAbs < 2 ^ 64)
def binD : Op2 → D → D → Option EV
  | .add, .int i, .int j => some (.val (.int (i + j)))
  | .add, .int i, .bool b => some (.val (.int (i + (if b then 1 else 0))))
  | .add, .str x, .str y => if x.length + y.length ≤ line then some (.val (.str (x ++ y))) else none
  | .add, .list xs, .list ys => if xs.length + ys.length ≤ line then some (.fresh (xs ++ ys)) else none
  | .add, .tuple xs, .tuple ys => if xs.length + ys.length ≤ line then some (.val (.tuple (xs ++ ys))) else none
  | .sub, .int i, .int j => some (.val (.int (i - j)))
  | .mul, .int i, .int j => if mulOk i j then some (.val (.int (i * j))) else none
  | .mul, .tuple xs, .int k => if 0 ≤ k ∧ k ≤ 1000 ∧ xs.isEmpty = false ∧ xs.length ≤ 1000 then some (.val (.tuple (List.replicate k.toNat xs).flatten)) else none
  | .mul, .list xs, .int k => if 0 ≤ k ∧ xs.length * k.toNat ≤ line ∧ k < 2 ^ 62 then some (.fresh (List.replicate k.toNat xs).flatten) else none
  | .fdiv, .int i, .int j => if divOk j then some (.val (.int (i.fdiv j))) else none
  | .mod, .int i, .int j => if j != 0 then some (.val (.int (i.fmod j))) else none
  | .pow, .int i, .int j => if powOk i j then some (.val (.int (i ^ j.toNat))) else none
  | .xor, .int i, .int j => some (.val (.int (Builtin.bitXor i j)))
  | .shr, .int i, .int j => if 0 ≤ j then some (.val (.int (i / 2 ^ j.toNat))) else none
  | _, _, _ => none
def scal : D → Bool
  | .none | .bool _ | .int _ | .str _ => true
  | _ => false
def eqOk (a b : D) : Bool := scal a || scal b || decide (a.depth ≤ 64) || decide (b.depth ≤ 64)
def intsD : List D → Option (List Int)
  | [] => some []
  | .int i :: r => (intsD r).map (i :: ·)
  | _ => none
def lexD : List Int → List Int → Bool
  | x :: xs, y :: ys => if x = y then lexD xs ys else decide (x < y)
  | [], _ :: _ => true
  | _, [] => false
def ltD : D → D → Option Bool
  | .int i, .int j => some (decide (i < j))
  | .str x, .str y => some (decide (x.cps.toList < y.cps.toList))
  | .tuple xs, .tuple ys => match intsD xs, intsD ys with
    | some a, some b => some (lexD a b)
    | _, _ => none
  | _, _ => none
def gtD : D → D → Option Bool
  | .int i, .int j => some (decide (j < i))
  | .str x, .str y => some (decide (y.cps.toList < x.cps.toList))
  | _, _ => none
def leD : D → D → Option Bool
  | .int i, .int j => some (decide (i ≤ j))
  | .str x, .str y => some (!decide (y.cps.toList < x.cps.toList))
  | _, _ => none
def inD : D → D → Option Bool
  | x, .list ds => if eqOk x (.list ds) then some (ds.any fun z => PyData.eqv z x) else none
  | x, .tuple ds => if eqOk x (.tuple ds) then some (ds.any fun z => PyData.eqv z x) else none
  | .str x, .str y => match x.cps.toList with
    | [c] => some (decide (c ∈ y.cps.toList))
    | _ => none
  | _, _ => none
def isNoneD : D → Bool
  | .none => true
  | _ => false
def isBoolD (b : Bool) : D → Bool
  | .bool c => c == b
  | _ => false
def cmpD : Cmp → D → D → Option Bool
  | .eq, a, b => if eqOk a b then some (PyData.eqv a b) else none
  | .ne, a, b => if eqOk a b then some (!PyData.eqv a b) else none
  | .lt, a, b => ltD a b
  | .gt, a, b => gtD a b
  | .le, a, b => leD a b
  | .ge, a, b => leD b a
  | .iss, a, .none => some (isNoneD a)
  | .isn, a, .none => some (!isNoneD a)
  | .iss, a, .bool b => some (isBoolD b a)
  | .isn, a, .bool b => some (!isBoolD b a)
  | .inn, a, b => inD a b
  | .nin, a, b => (inD a b).map not
  | _, _, _ => none
def isTyD : Ty → D → Bool
  | .int, .int _ => true
  | .int, .bool _ => true
  | .bool, .bool _ => true
  | .str, .str _ => true
  | .tuple, .tuple _ => true
  | .list, .list _ => true
  | .dict, .dict _ => true
  | _, _ => false
def idxD : D → D → Option D
  | .list xs, .int i => L2.atI xs i
  | .tuple xs, .int i => L2.atI xs i
  | .str x, .int i => if x.length ≤ line then (L2.atI x.cps.toList i).map fun c => .str ⟨#[c]⟩ else none
  | _, _ => none
def cutD {α : Type} (xs : List α) (lo hi : Option Int) : List α := (xs.drop (HT.sIx xs.length 0 lo)).take (HT.sIx xs.length xs.length hi - HT.sIx xs.length 0 lo)
def slcD : D → Option Int → Option Int → Option EV
  | .list xs, lo, hi => some (.fresh (cutD xs lo hi))
  | .tuple xs, lo, hi => some (.val (.tuple (cutD xs lo hi)))
  | .str x, lo, hi => if x.length ≤ line then some (.val (.str ⟨(cutD x.cps.toList lo hi).toArray⟩)) else none
  | _, _, _ => none
def itemsD : D → Option (List D)
  | .list ds => some ds
  | .tuple ds => some ds
  | .str x => if x.length ≤ line then some (x.cps.toList.map fun c => .str ⟨#[c]⟩) else none
  | _ => none
def big (i : Int) : Bool := decide (-(2 ^ 62) ≤ i) && decide (i < 2 ^ 62)
def rangeD : List D → Option (List Int)
  | [.int j] => if big j then some ((List.range j.toNat).map fun (k : Nat) => (k : Int)) else none
  | [.int i, .int j] => if big i && big j then some ((List.range (j - i).toNat).map fun (k : Nat) => i + (k : Int)) else none
  | _ => none
def sortedI (ns : List Int) : List Int := ns.mergeSort (fun a b => decide (a ≤ b))
/-- tuples of ints -/
def tupsD : List D → Option (List (List Int))
  | [] => some []
  | .tuple ds :: r => match intsD ds, tupsD r with
    | some (n :: ns), some rest => some ((n :: ns) :: rest)
    | _, _ => none
  | _ => none
def sortedT (nss : List (List Int)) : List (List Int) := nss.mergeSort (fun a b => !lexD b a)
def tD (ns : List Int) : D := .tuple (ns.map .int)
def biD : BI → List D → Option EV
  | .len, [.list xs] => some (.val (.int xs.length))
  | .len, [.tuple xs] => some (.val (.int xs.length))
  | .len, [.str x] => if x.length ≤ line then some (.val (.int x.length)) else none
  | .abs, [.int i] => some (.val (.int (if i < 0 then -i else i)))
  | .mx, [.int i, .int j] => some (.val (.int (if j > i then j else i)))
  | .mn, [.int i, .int j] => some (.val (.int (if j < i then j else i)))
  | .sum, [.tuple xs] => (intsD xs).map fun ns => .val (.int ns.sum)
  | .mx, [.tuple xs] => match intsD xs with
    | some (n :: ns) => some (.val (.int (ns.foldl max n)))
    | _ => none
  | .mn, [.tuple xs] => match intsD xs with
    | some (n :: ns) => some (.val (.int (ns.foldl min n)))
    | _ => none
  | .mx, [.list xs] => match intsD xs with
    | some (n :: ns) => some (.val (.int (ns.foldl max n)))
    | _ => none
  | .mn, [.list xs] => match intsD xs with
    | some (n :: ns) => some (.val (.int (ns.foldl min n)))
    | _ => none
  | .sum, [.list xs] => (intsD xs).map fun ns => .val (.int ns.sum)
  | .sorted, [.list xs] => match intsD xs with
    | some ns => some (.fresh ((sortedI ns).map .int))
    | none => (tupsD xs).map fun nss => .fresh ((sortedT nss).map tD)
  | .tuple, [.list xs] => some (.val (.tuple xs))
  | .tuple, [.tuple xs] => some (.val (.tuple xs))
  | .list, [.list xs] => some (.fresh xs)
  | .list, [.tuple xs] => some (.fresh xs)
  | .int, [.int i] => some (.val (.int i))
  | .int, [.bool b] => some (.val (.int (if b then 1 else 0)))
  | .gcd, [.int i, .int j] => some (.val (.int ((Nat.gcd i.natAbs j.natAbs : Nat) : Int)))
  | _, _ => none

/-! ### slots -/
/-- as it goes into another thing: a slot's list is then known to others and not changed any more -/
def coe (v : EV) : M D := fun ρ => match v with
  | .val d => .ok d ρ
  | .fresh ds => .ok (.list ds) ρ
  | .loc i => match ρ[i]? with
    | some (.own false false ds) => .ok (.list ds) (ρ.set i (.val (.list ds)))
    | _ => .bad
def soft : EV → M EV
  | .loc i => bnd (coe (.loc i)) fun d => ret (.val d)
  | v => ret v
/-- slots set; a list that nobody else knows may become the slot's own -/
def canPut : Sl → Bool
  | .own true _ _ => false
  | .own _ true _ => false
  | _ => true
def putL (ρ : Ev) : List Nat → List Bool → List EV → Option Ev
  | [], [], [] => some ρ
  | i :: is, o :: os, v :: vs => match ρ[i]? with
    | some sl => if canPut sl then match v with
        | .val d => putL (ρ.set i (.val d)) is os vs
        | .fresh ds => putL (ρ.set i (if o then .own false false ds else .val (.list ds))) is os vs
        | .loc _ => none
      else none
    | none => none
  | _, _, _ => none
def augD : Op2 → D → D → Option D
  | .add, .int i, .int j => some (.int (i + j))
  | .sub, .int i, .int j => some (.int (i - j))
  | _, _, _ => none
/-- a new list is held while more is reckoned -/
def settle : EV → EV
  | .fresh ds => .val (.list ds)
  | v => v
/-- its worth just now -/
def peek (ρ : Ev) : EV → Option D
  | .val d => some d
  | .fresh ds => some (.list ds)
  | .loc i => match ρ[i]? with
    | some (.own _ _ ds) => some (.list ds)
    | _ => none
def peeks (ρ : Ev) : List EV → Option (List D)
  | [] => some []
  | v :: vs => match peek ρ v, peeks ρ vs with
    | some d, some ds => some (d :: ds)
    | _, _ => none
def setN (ρ : Ev) : List Nat → List D → Option Ev
  | [], [] => some ρ
  | i :: is, d :: ds => match ρ[i]? with
    | some (.own _ _ _) => none
    | some _ => setN (ρ.set i (.val d)) is ds
    | none => none
  | _, _ => none
/-- names, and tuples of names -/
def setNN (ρ : Ev) : List (Nat ⊕ List Nat) → List D → Option Ev
  | [], [] => some ρ
  | .inl i :: ts, d :: ds => match setN ρ [i] [d] with
    | some ρ' => setNN ρ' ts ds
    | none => none
  | .inr is :: ts, .tuple es :: ds => match setN ρ is es with
    | some ρ' => setNN ρ' ts ds
    | none => none
  | _, _ => none
def npVars : List (Nat ⊕ List Nat) → List Nat
  | [] => []
  | .inl i :: ts => i :: npVars ts
  | .inr is :: ts => is ++ npVars ts
def asgD (ρ : Ev) : Tg → D → Option Ev
  | .nm i, d => setN ρ [i] [d]
  | .np ts, d => match d with
    | .tuple ds => setNN ρ ts ds
    | .list ds => setNN ρ ts ds
    | _ => none
  | .tp is, d => match d with
    | .tuple ds => setN ρ is ds
    | .list ds => setN ρ is ds
    | _ => none
def Tg.vars : Tg → List Nat
  | .nm i => [i]
  | .tp is => is
  | .np ts => npVars ts
/-- slots forgotten (no list of one's own is among them) -/
def kills (ρ : Ev) : List Nat → Option Ev
  | [] => some ρ
  | i :: is => match ρ[i]? with
    | some (.own true _ _) => none
    | some (.own _ true _) => none
    | some _ => kills (ρ.set i .no) is
    | none => none
/-- the slots is as they stand in ρ0, the others as in ρ -/
def restore (ρ0 ρ : Ev) : List Nat → Ev
  | [] => ρ
  | i :: is => restore ρ0 (ρ.set i (ρ0.getD i .no)) is
/-- none of the slots is a list of one's own -/
def plainAt (ρ : Ev) (is : List Nat) : Bool := is.all fun i => match ρ[i]? with
  | some (.own _ _ _) => false
  | some _ => true
  | none => false
def wipes (ρ : Ev) : List Nat → Ev
  | [] => ρ
  | i :: is => (wipes ρ is).set i .no

/-- a comprehension: turn by turn -/
def compL (vs : List Nat) (tg : Tg) (tst : M Bool) (elt : M D) : List D → Ev → R (List D)
  | [], ρ => .ok [] ρ
  | d :: ds, ρ => match asgD (wipes ρ vs) tg d with
    | none => .bad
    | some ρ1 => match tst ρ1 with
      | .ok true ρ2 => match elt ρ2 with
        | .ok y ρ3 => match compL vs tg tst elt ds ρ3 with
          | .ok ys ρ4 => if ys.length < line then .ok (y :: ys) ρ4 else .bad
          | _ => .bad
        | _ => .bad
      | .ok false ρ2 => compL vs tg tst elt ds ρ2
      | _ => .bad
/-- all, any: when they stop -/
def GB.stop : GB → Bool
  | .all => false
  | .any => true
/-- all, any: they end early -/
def gxL (b : GB) (vs : List Nat) (tg : Tg) (tst : M Bool) (elt : M Bool) : List D → Ev → R Bool
  | [], ρ => .ok (!b.stop) ρ
  | d :: ds, ρ => match asgD (wipes ρ vs) tg d with
    | none => .bad
    | some ρ1 => match tst ρ1 with
      | .ok true ρ2 => match elt ρ2 with
        | .ok y ρ3 => if y = b.stop then .ok y ρ3 else gxL b vs tg tst elt ds ρ3
        | _ => .bad
      | .ok false ρ2 => gxL b vs tg tst elt ds ρ2
      | _ => .bad

/-! ### statements' ends -/
inductive SR where
  | nx (ρ : Ev)
  | rt (v : EV) (ρ : Ev)
  | bk (ρ : Ev)
  | ct (ρ : Ev)
  | ex (c : Nat) (ρ : Ev)
  | bad
def sE {α : Type} (m : M α) (f : α → Ev → SR) : Ev → SR := fun ρ => match m ρ with
  | .ok a ρ' => f a ρ'
  | .exc c ρ' => .ex c ρ'
  | .bad => .bad
def forL (tg : Tg) (body : Ev → SR) : List D → Ev → SR
  | [], ρ => .nx ρ
  | d :: ds, ρ => match asgD ρ tg d with
    | none => .bad
    | some ρ1 => match body ρ1 with
      | .nx ρ2 => forL tg body ds ρ2
      | .ct ρ2 => forL tg body ds ρ2
      | .bk ρ2 => .nx ρ2
      | r => r
def whlL (c : M Bool) (body : Ev → SR) : Nat → Ev → SR
  | 0, _ => .bad
  | n + 1, ρ => match c ρ with
    | .ok true ρ1 => match body ρ1 with
      | .nx ρ2 => whlL c body n ρ2
      | .ct ρ2 => whlL c body n ρ2
      | .bk ρ2 => .nx ρ2
      | r => r
    | .ok false ρ1 => .nx ρ1
    | .exc k ρ1 => .ex k ρ1
    | .bad => .bad
/-- a slot's list is walked -/
def lock (ρ : Ev) : EV → Option Ev
  | .loc i => match ρ[i]? with
    | some (.own p false ds) => some (ρ.set i (.own p true ds))
    | _ => none
  | _ => some ρ
def unlockR (v : EV) (f : Ev → SR) : Ev → SR := fun ρ => match v with
  | .loc i => match ρ[i]? with
    | some (.own p true ds) => f (ρ.set i (.own p false ds))
    | _ => .bad
  | _ => f ρ

/-- behind a loop: its list is not walked any more -/
def finR (v : EV) : SR → SR
  | .nx ρ2 => unlockR v .nx ρ2
  | .rt w ρ2 => unlockR v (.rt w) ρ2
  | .ex c ρ2 => unlockR v (.ex c) ρ2
  | _ => .bad
section
variable (Γ : Fns) (C : List D)
/-- an argument as it is handed over -/
def argOf (ρ : Ev) : EV → Option Sl
  | .val d => some (.val d)
  | .fresh ds => some (.val (.list ds))
  | .loc i => match ρ[i]? with
    | some (.own _ false ds) => some (.own true false ds)
    | _ => none
def argsOf (ρ : Ev) : List EV → Option (List Sl)
  | [] => some []
  | v :: vs => match argOf ρ v, argsOf ρ vs with
    | some a, some as => some (a :: as)
    | _, _ => none
/-- no slot is handed over twice -/
def locs : List EV → List Nat
  | [] => []
  | .loc i :: vs => i :: locs vs
  | _ :: vs => locs vs
/-- behind a call: the lists that were handed over as they stand then -/
def backOf (ρ : Ev) : List EV → List Sl → Option Ev
  | [], [] => some ρ
  | .loc i :: vs, .own _ _ ds :: as => match ρ[i]? with
    | some (.own p l _) => backOf (ρ.set i (.own p l ds)) vs as
    | _ => none
  | .val _ :: vs, _ :: as => backOf ρ vs as
  | .fresh _ :: vs, _ :: as => backOf ρ vs as
  | _, _ => none
def callM (f : Nat) (vs : List EV) : M EV := fun ρ => match argsOf ρ vs with
  | none => .bad
  | some as => if (locs vs).Nodup then match Γ f as with
    | .ok r as' => match backOf ρ vs as' with
      | some ρ' => .ok r ρ'
      | none => .bad
    | .exc c as' => match backOf ρ vs as' with
      | some ρ' => .exc c ρ'
      | none => .bad
    | .bad => .bad
  else .bad
def peekM (v : EV) : M D := fun ρ => match peek ρ v with
  | some d => .ok d ρ
  | none => .bad
def truthM (v : EV) : M Bool := bnd (peekM v) fun d => ofO (truthD d)
def intM (v : EV) : M Int := bnd (peekM v) fun d => match d with
  | .int i => ret i
  | _ => fail
def biM (b : BI) (vs : List EV) : M EV := fun ρ => match peeks ρ vs with
  | some ds => match biD b ds with
    | some r => .ok r ρ
    | none => .bad
  | none => .bad
def binM (o : Op2) (x y : EV) : M EV := fun ρ => match peek ρ (settle x), peek ρ (settle y) with
    | some dx, some dy => match binD o dx dy with
      | some r => .ok r ρ
      | none => .bad
    | _, _ => .bad
def idxM (x y : EV) : M EV := fun ρ => match peek ρ (settle x), peek ρ (settle y) with
    | some dx, some dy => match idxD dx dy with
      | some r => .ok (.val r) ρ
      | none => .bad
    | _, _ => .bad
def slcM (x : EV) (l h : Option Int) : M EV := fun ρ => match peek ρ (settle x) with
    | some dx => match slcD dx l h with
      | some r => .ok r ρ
      | none => .bad
    | none => .bad
def locM (x : EV) : M EV := fun ρ => match x with
  | .loc i => match ρ[i]? with
    | some (.own _ _ _) => .ok x ρ
    | _ => .bad
  | _ => .bad
def appM (x : EV) (d : D) : M EV := fun ρ => match x with
    | .loc i => match ρ[i]? with
      | some (.own p false ds) => if ds.length < line then .ok (.val .none) (ρ.set i (.own p false (ds ++ [d]))) else .bad
      | _ => .bad
    | _ => .bad
def popM (x : EV) : M EV := fun ρ => match x with
    | .loc i => match ρ[i]? with
      | some (.own p false ds) => match ds.getLast? with
        | some d => .ok (.val d) (ρ.set i (.own p false ds.dropLast))
        | none => .bad
      | _ => .bad
    | _ => .bad
def cmpM (o : Cmp) (x y : EV) : M EV := fun ρ => match peek ρ (settle x), peek ρ (settle y) with
    | some dx, some dy => match cmpD o dx dy with
      | some r => .ok (.val (.bool r)) ρ
      | none => .bad
    | _, _ => .bad
def rngM (vs : List EV) : M (EV × List D) := fun ρ => match peeks ρ vs with
    | some ds => match rangeD ds with
      | some ns => .ok (.val .none, ns.map .int) ρ
      | none => .bad
    | none => .bad
def revM (x : EV) : M EV := bnd (peekM x) fun d => match d with
  | .list ds => ret (.fresh ds.reverse)
  | _ => fail
def lrgM (vs : List EV) : M EV := fun ρ => match peeks ρ vs with
    | some ds => match rangeD ds with
      | some ns => if ns.length ≤ line then .ok (.fresh (ns.map .int)) ρ else .bad
      | none => .bad
    | none => .bad
def trgM (vs : List EV) : M EV := fun ρ => match peeks ρ vs with
    | some ds => match rangeD ds with
      | some ns => if ns.length ≤ line then .ok (.val (.tuple (ns.map .int))) ρ else .bad
      | none => .bad
    | none => .bad
def enumM (x : EV) : M (EV × List D) := bnd (peekM x) fun d => match d with
  | .list ds => ret (settle x, (List.range ds.length).zipWith (fun k d => .tuple [.int (k : Nat), d]) ds)
  | .tuple ds => ret (settle x, (List.range ds.length).zipWith (fun k d => .tuple [.int (k : Nat), d]) ds)
  | _ => fail
def zipM (x y : EV) : M (EV × List D) := bnd (coe (settle x)) fun dx => bnd (coe (settle y)) fun dy => match dx, dy with
  | .list xs, .list ys => ret (.val .none, xs.zipWith (fun a b => .tuple [a, b]) ys)
  | .tuple xs, .tuple ys => ret (.val .none, xs.zipWith (fun a b => .tuple [a, b]) ys)
  | _, _ => fail
def revI (x : EV) : M (EV × List D) := bnd (peekM x) fun d => match d with
  | .list ds => ret (settle x, ds.reverse)
  | .tuple ds => ret (settle x, ds.reverse)
  | _ => fail
def unlockE (v : EV) (ρ : Ev) : Option Ev := match v with
  | .loc i => match ρ[i]? with
    | some (.own p true ds) => some (ρ.set i (.own p false ds))
    | _ => none
  | _ => some ρ
def lcM (tg : Tg) (tst : M Bool) (elt : M D) (p : EV × List D) : M EV := fun ρ =>
  if plainAt ρ tg.vars then match lock ρ p.1 with
    | none => .bad
    | some ρ1 => match compL tg.vars tg tst elt p.2 (wipes ρ1 tg.vars) with
      | .ok ys ρ2 => match unlockE p.1 (restore ρ ρ2 tg.vars) with
        | some ρ3 => .ok (.fresh ys) ρ3
        | none => .bad
      | _ => .bad
  else .bad
def boolM : EV → M Bool
  | .val (.bool b) => ret b
  | _ => fail
def gxM (b : GB) (tg : Tg) (tst : M Bool) (elt : M Bool) (p : EV × List D) : M EV := fun ρ =>
  if plainAt ρ tg.vars then match lock ρ p.1 with
    | none => .bad
    | some ρ1 => match gxL b tg.vars tg tst elt p.2 (wipes ρ1 tg.vars) with
      | .ok y ρ2 => match unlockE p.1 (restore ρ ρ2 tg.vars) with
        | some ρ3 => .ok (.val (.bool y)) ρ3
        | none => .bad
      | _ => .bad
  else .bad
def ixM (x : EV) (y : EV) : M EV := fun ρ => match peek ρ (settle x), peek ρ (settle y) with
    | some (.list ds), some d => if (decide (d.depth ≤ 64) && decide ((PyData.list ds).depth ≤ 64)) = true then match ds.findIdx? (fun z => PyData.eqv z d) with
      | some j => .ok (.val (.int (j : Nat))) ρ
      | none => .bad
      else .bad
    | _, _ => .bad
def revsM (x : EV) : M EV := bnd (peekM x) fun d => match d with
  | .list ds => ret (.fresh ds.reverse)
  | .tuple ds => ret (.val (.tuple ds.reverse))
  | _ => fail
def pickL {α : Type} (xs : List α) (k : Int) : List α := (sliceRange 0 (xs.length : Int) k).filterMap (xs[·]?)
def slSM (x y : EV) : M EV := fun ρ => match peek ρ (settle x), peek ρ (settle y) with
  | some (.list ds), some (.int k) => if 0 < k then .ok (.fresh (pickL ds k)) ρ else .bad
  | _, _ => .bad
def srvM (x : EV) : M EV := bnd (peekM x) fun d => match d with
  | .list ds => match intsD ds with
    | some ns => ret (.fresh ((sortedI ns).reverse.map .int))
    | none => fail
  | _ => fail
def insM (x y : EV) (d : D) : M EV := fun ρ => match x, peek ρ y with
    | .loc i, some (.int n) => match ρ[i]? with
      | some (.own p false ds) => if ds.length < line ∧ 0 ≤ n ∧ n < 2 ^ 62 then .ok (.val .none) (ρ.set i (.own p false (ds.take n.toNat ++ [d] ++ ds.drop n.toNat))) else .bad
      | _ => .bad
    | _, _ => .bad
def popIM (x y : EV) : M EV := fun ρ => match x, peek ρ y with
    | .loc i, some (.int n) => match ρ[i]? with
      | some (.own p false ds) => if -(2 ^ 62) ≤ n ∧ n < 2 ^ 62 then match seqIndex? n ds.length with
        | some k => match ds[k]? with
          | some d => .ok (.val d) (ρ.set i (.own p false (ds.eraseIdx k)))
          | none => .bad
        | none => .bad
        else .bad
      | _ => .bad
    | _, _ => .bad
def extM (x y : EV) : M EV := fun ρ => match x, y with
    | .loc i, .fresh es => match ρ[i]? with
      | some (.own p false ds) => if ds.length + es.length ≤ line then .ok (.val .none) (ρ.set i (.own p false (ds ++ es))) else .bad
      | _ => .bad
    | _, _ => .bad
def lzipM (x y : EV) : M EV := bnd (coe (settle x)) fun dx => bnd (coe (settle y)) fun dy => match dx, dy with
  | .list xs, .list ys => if (xs.zipWith (fun a b => PyData.tuple [a, b]) ys).length ≤ line then ret (.fresh (xs.zipWith (fun a b => .tuple [a, b]) ys)) else fail
  | .tuple xs, .tuple ys => if (xs.zipWith (fun a b => PyData.tuple [a, b]) ys).length ≤ line then ret (.fresh (xs.zipWith (fun a b => .tuple [a, b]) ys)) else fail
  | _, _ => fail
/-- range with a step -/
def range3D : List D → Option (List Int)
  | [.int i, .int j, .int c] => if big i && big j && decide (c ≠ 0) && decide (c.natAbs < 1073741824) && Builtin.Range.small i j c && decide (0 ≤ Builtin.Range.rangeSize i j c) then some ((List.range (Builtin.Range.rangeSize i j c).toNat).map fun (k : Nat) => i + (k : Int) * c) else none
  | _ => none
def rng3M (vs : List EV) : M (EV × List D) := fun ρ => match peeks ρ vs with
    | some ds => match range3D ds with
      | some ns => .ok (.val .none, ns.map .int) ρ
      | none => .bad
    | none => .bad
def lstM (x : EV) : M EV := fun ρ => match peek ρ (settle x) with
    | some (.list _) => .ok x ρ
    | _ => .bad
def isxM (i : Nat) (ks : List Nat) : M EV := fun ρ => match ρ[i]? with
    | some (.err k) => .ok (.val (.bool (ks.contains k))) ρ
    | _ => .bad
def callXM (f i : Nat) : M EV := fun ρ => match ρ[i]? with
    | some (.err k) => match Γ f [.err k] with
      | .ok (.val d) _ => .ok (.val d) ρ
      | .ok (.fresh ds) _ => .ok (.fresh ds) ρ
      | _ => .bad
    | _ => .bad
def seqI (x : EV) : M (EV × List D) := bnd (peekM x) fun d => match d with
  | .list ds => ret (settle x, ds)
  | .tuple ds => ret (settle x, ds)
  | _ => fail
mutual
def evE : CE → M EV
  | .var i => fun ρ => match ρ[i]? with
    | some (.val d) => .ok (.val d) ρ
    | some (.own _ _ _) => .ok (.loc i) ρ
    | _ => .bad
  | .cst d => ret (.val d)
  | .glb x => ofO (C[x]?.map .val)
  | .bin o a b => bnd (evE a) fun x => bnd (evE b) fun y => binM o x y
  | .neg a => bnd (evE a) fun x => bnd (intM x) fun i => ret (.val (.int (-i)))
  | .cmp o a b => bnd (evE a) fun x => bnd (evE b) fun y => cmpM o x y
  | .cmp2 o p a b c => bnd (evE a) fun x => bnd (evE b) fun y => bnd (cmpM o x y) fun r => match r with
    | .val (.bool true) => bnd (evE c) fun z => cmpM p y z
    | .val (.bool false) => ret (.val (.bool false))
    | _ => fail
  | .nt a => bnd (evE a) fun x => bnd (truthM x) fun b => ret (.val (.bool (!b)))
  | .and es => evAnd es
  | .or es => evOr es
  | .ite c a b => bnd (evE c) fun x => bnd (truthM x) fun t => if t then evE a else evE b
  | .tup es => bnd (evCs es) fun ds => if ds.length ≤ line then ret (.val (.tuple ds)) else fail
  | .lst es => bnd (evCs es) fun ds => if ds.length ≤ line then ret (.fresh ds) else fail
  | .call f es => bnd (evEs es) fun vs => callM Γ f vs
  | .bi b es => bnd (evEs es) fun vs => biM b vs
  | .isi a t => bnd (evE a) fun x => bnd (peekM x) fun d => ret (.val (.bool (isTyD t d)))
  | .idx a i => bnd (evE a) fun x => bnd (evE i) fun y => idxM x y
  | .slc a lo hi => bnd (evE a) fun x => bnd (evO lo) fun l => bnd (evO hi) fun h => slcM x l h
  | .lc elt tg it ifs => bnd (evI it) (lcM tg (evTs ifs) (bnd (evE elt) coe))
  | .gx b elt tg it ifs => bnd (evI it) (gxM b tg (evTs ifs) (bnd (evE elt) boolM))
  | .app a e => bnd (evE a) fun x => bnd (locM x) fun _ => bnd (evE e) fun y => bnd (coe y) fun d => appM x d
  | .pop a => bnd (evE a) fun x => popM x
  | .rev a => bnd (evE a) revM
  | .lrg es => bnd (evEs es) lrgM
  | .trg es => bnd (evEs es) trgM
  | .ixof a e => bnd (evE a) fun x => bnd (lstM x) fun _ => bnd (evE e) fun y => ixM x y
  | .isx i ks => isxM i ks
  | .callX f i => callXM Γ f i
  | .revs a => bnd (evE a) revsM
  | .ins a i e => bnd (evE a) fun x => bnd (locM x) fun _ => bnd (evE i) fun y => bnd (evE e) fun z => bnd (coe z) fun d => insM x (settle y) d
  | .popI a i => bnd (evE a) fun x => bnd (locM x) fun _ => bnd (evE i) fun y => popIM x y
  | .ext a e => bnd (evE a) fun x => bnd (locM x) fun _ => bnd (evE e) fun y => extM x y
  | .tupS fs es => bnd (evSs fs es) fun ds => if ds.length ≤ line then ret (.val (.tuple ds)) else fail
  | .lzip a b => bnd (evE a) fun x => bnd (evE b) fun y => lzipM x y
  | .srev a => bnd (evE a) srvM
  | .slcS a s => bnd (evE a) fun x => bnd (evE s) fun y => slSM x y
/-- several, as they go into a display -/
def evCs : CEs → M (List D)
  | .nil => ret []
  | .cons e es => bnd (evE e) fun x => bnd (coe x) fun d => bnd (evCs es) fun ds => ret (d :: ds)
/-- several, some of them with a star -/
def evSs (fs : List Bool) : CEs → M (List D)
  | .nil => ret []
  | .cons e es => bnd (evE e) fun x => bnd (coe x) fun d => match fs with
    | true :: fs' => (match d with
      | .tuple xs => bnd (evSs fs' es) fun ys => ret (xs ++ ys)
      | .list xs => bnd (evSs fs' es) fun ys => ret (xs ++ ys)
      | _ => fail)
    | false :: fs' => bnd (evSs fs' es) fun ys => ret (d :: ys)
    | [] => fail
/-- several, as arguments -/
def evEs : CEs → M (List EV)
  | .nil => ret []
  | .cons e es => bnd (evE e) fun x => bnd (evEs es) fun ys => ret (settle x :: ys)
/-- several, as they go into slots -/
def evPs : CEs → M (List EV)
  | .nil => ret []
  | .cons e es => bnd (evE e) fun x => bnd (soft x) fun y => bnd (evPs es) fun ys => ret (y :: ys)
def evO : CEs → M (Option Int)
  | .nil => ret none
  | .cons e _ => bnd (evE e) fun x => bnd (intM x) fun i => ret (some i)
/-- tests, all of them -/
def evTs : CEs → M Bool
  | .nil => ret true
  | .cons e es => bnd (evE e) fun x => bnd (truthM x) fun t => if t then evTs es else ret false
def evAnd : CEs → M EV
  | .nil => fail
  | .cons e .nil => evE e
  | .cons e es => bnd (evE e) fun x => bnd (truthM x) fun t => if t then evAnd es else bnd (coe x) fun d => ret (.val d)
def evOr : CEs → M EV
  | .nil => fail
  | .cons e .nil => evE e
  | .cons e es => bnd (evE e) fun x => bnd (truthM x) fun t => if t then bnd (coe x) fun d => ret (.val d) else evOr es
/-- what is walked: where it comes from (a slot's list is locked), its items -/
def evI : CI → M (EV × List D)
  | .ex e => bnd (evE e) fun x => bnd (peekM x) fun d => bnd (ofO (itemsD d)) fun ds => ret (settle x, ds)
  | .rng es => bnd (evEs es) rngM
  | .enum e => bnd (evE e) enumM
  | .zip a b => bnd (evE a) fun x => bnd (evE b) fun y => zipM x y
  | .rev e => bnd (evE e) revI
  | .seq e => bnd (evE e) seqI
  | .rng3 es => bnd (evEs es) rng3M
end
/-- an exception is at hand in a slot -/
def putErr (ρ : Ev) (k : Nat) : Option Nat → Option Ev
  | none => some ρ
  | some i => match ρ[i]? with
    | some (.own _ _ _) => none
    | some _ => some (ρ.set i (.err k))
    | none => none
def noErr (ρ : Ev) : Bool := ρ.all fun
  | .err _ => false
  | _ => true
def clrErr (ρ : Ev) : Option Nat → Option Ev
  | none => if noErr ρ = true then some ρ else none
  | some i => match ρ[i]? with
    | some (.own _ _ _) => none
    | some _ => if noErr (ρ.set i .no) = true then some (ρ.set i .no) else none
    | none => none
/-- behind a suite -/
def endX (i : Option Nat) : SR → SR
  | .nx ρ => match clrErr ρ i with
    | some ρ' => .nx ρ'
    | none => .bad
  | .bk ρ => match clrErr ρ i with
    | some ρ' => .bk ρ'
    | none => .bad
  | .ct ρ => match clrErr ρ i with
    | some ρ' => .ct ρ'
    | none => .bad
  | .rt (.val d) ρ => match clrErr ρ i with
    | some ρ' => .rt (.val d) ρ'
    | none => .bad
  | _ => .bad
def tryR (i : Option Nat) (ks os : List Nat) (h : Ev → SR) : SR → SR
  | .ex k ρ1 => if ks.contains k = true then match putErr ρ1 k i with
      | some ρ2 => endX i (h ρ2)
      | none => .bad
    else if os.contains k = true then .ex k ρ1 else .bad
  | r => r
mutual
def evS : CS → Ev → SR
  | .asg i own e => sE (bnd (evE Γ C e) soft) fun v ρ => match putL ρ [i] [own] [v] with
    | some ρ' => .nx ρ'
    | none => .bad
  | .par is ows es => sE (evPs Γ C es) fun vs ρ => match putL ρ is ows vs with
    | some ρ' => .nx ρ'
    | none => .bad
  | .asgT is e => sE (bnd (evE Γ C e) peekM) fun d ρ => match asgD ρ (.tp is) d with
    | some ρ' => .nx ρ'
    | none => .bad
  | .asgN ts e => sE (bnd (evE Γ C e) peekM) fun d ρ => match asgD ρ (.np ts) d with
    | some ρ' => .nx ρ'
    | none => .bad
  | .sto a ix e => sE (bnd (evE Γ C e) coe) fun d => sE (evE Γ C a) fun x => sE (bnd (evE Γ C ix) peekM) fun k ρ => match x, k with
    | .loc i, .int n => match ρ[i]? with
      | some (.own p false ds) => match L2.ixN ds.length n with
        | some j => .nx (ρ.set i (.own p false (ds.set j d)))
        | none => .bad
      | _ => .bad
    | _, _ => .bad
  | .aug i o e => fun ρ0 => match ρ0[i]? with
    | some (.val d0) => sE (bnd (evE Γ C e) peekM) (fun d ρ => match augD o d0 d, ρ[i]? with
      | some r, some (.val _) => .nx (ρ.set i (.val r))
      | _, _ => .bad) ρ0
    | _ => .bad
  | .augS a ix o e => sE (evE Γ C a) fun x => sE (bnd (evE Γ C ix) peekM) fun k => sE (bnd (locM x) peekM) fun l => match idxD l k with
    | some d0 => sE (bnd (evE Γ C e) peekM) fun d ρ => match augD o d0 d, x, k with
      | some r, .loc i, .int n => match ρ[i]? with
        | some (.own p false ds) => match L2.ixN ds.length n with
          | some j => .nx (ρ.set i (.own p false (ds.set j r)))
          | none => .bad
        | _ => .bad
      | _, _, _ => .bad
    | none => fun _ => .bad
  | .exp e => sE (evE Γ C e) fun _ ρ => .nx ρ
  | .ret e => sE (evE Γ C e) fun v ρ => .rt v ρ
  | .retN => fun ρ => .rt (.val .none) ρ
  | .ife c a b => sE (bnd (evE Γ C c) truthM) fun t => if t then evB a else evB b
  | .whl n c b => whlL (bnd (evE Γ C c) truthM) (evB b) n
  | .for_ tg it b => sE (evI Γ C it) fun p ρ => match lock ρ p.1 with
    | none => .bad
    | some ρ1 => finR p.1 (forL tg (evB b) p.2 ρ1)
  | .brk => .bk
  | .cnt => .ct
  | .pss => .nx
  | .rse c => .ex c
  | .tryE i ks os b h => fun ρ => tryR i ks os (evB h) (evB b ρ)
def evB : CSs → Ev → SR
  | .nil => .nx
  | .cons s r => fun ρ => match evS s ρ with
    | .nx ρ' => evB r ρ'
    | x => x
  | .frz i r => fun ρ => match ρ[i]? with
    | some (.own false false ds) => evB r (ρ.set i (.val (.list ds)))
    | some (.val _) => evB r ρ
    | _ => .bad
  | .kil is r => fun ρ => match kills ρ is with
    | some ρ' => evB r ρ'
    | none => .bad
end
end

/-! ### defs -/
structure Fd where
  /-- parameters, slots -/
  np : Nat
  ns : Nat
  body : CSs
/-- the lists that were handed in, as they are handed back -/
def outs : List Sl → List Sl → Option (List Sl)
  | [], _ => some []
  | .own _ _ _ :: as, .own true false ds :: ρ => (outs as ρ).map (.own true false ds :: ·)
  | .own _ _ _ :: _, _ => none
  | a :: as, _ :: ρ => (outs as ρ).map (a :: ·)
  | _ :: _, [] => none
def runF (Γ : Fns) (C : List D) (f : Fd) (as : List Sl) : FR :=
  if as.length = f.np ∧ f.np ≤ f.ns then
    match evB Γ C f.body (as ++ List.replicate (f.ns - f.np) .no) with
    | .nx ρ => match outs as ρ with
      | some as' => .ok (.val .none) as'
      | none => .bad
    | .rt v ρ => match v with
      | .val d => match outs as ρ with
        | some as' => .ok (.val d) as'
        | none => .bad
      | .fresh ds => match outs as ρ with
        | some as' => .ok (.fresh ds) as'
        | none => .bad
      | .loc i => match ρ[i]? with
        | some (.own false false ds) => match outs as ρ with
          | some as' => .ok (.fresh ds) as'
          | none => .bad
        | _ => .bad
    | .ex c ρ => match outs as ρ with
      | some as' => .exc c as'
      | none => .bad
    | _ => .bad
  else .bad
/-- the defs of a program, so many calls deep -/
def fns (T : List Fd) (C : List D) : Nat → Fns
  | 0 => fun _ _ => .bad
  | n + 1 => fun f as => match T[f]? with
    | some fd => runF (fns T C n) C fd as
    | none => .bad
end Den
set_option autoImplicit false
set_option maxRecDepth 100000
set_option maxHeartbeats 4000000
/-! Den, part B: what the evaluator's values are in the layer's heap. -/
namespace Den
open PySem PySem.Spec PyProof.Rows L2 GxR

abbrev Fg := PySem.W.Frag
def KL (K : Fg) (a : Addr) (xs : List V) : Prop := ∃ (its : List Value) (n : Nat) (sl : Array (Option Value)), K.lookup a = some { cls := .type "list", data := .seq its.toArray n, slots := sl } ∧ its.length ≤ sizeLine ∧ Vals xs its
/-- a list as it may be read -/
def LRd (K : Fg) (H : Hp) (a : Addr) (xs : List V) : Prop := Rd H a (.lst xs) ∨ KL K a xs
theorem LRd.sq {K : Fg} {H : Hp} {a : Addr} {xs : List V} (h : LRd K H a xs) : SqL K H a xs := by
  rcases h with h | ⟨its, n, sl, h, hl, hv⟩
  · exact .inl h
  · exact .inr ⟨_, its.toArray, n, h, rfl, rfl, rfl, by simpa using hl, by simpa using hv⟩
theorem LRd.of {K : Fg} {H : Hp} {a : Addr} {xs : List V} (h : SqL K H a xs) : LRd K H a xs := by
  rcases h with h | ⟨o, its, n, h, hc, hd, hs, hl, hv⟩
  · exact .inl h
  · obtain ⟨cls, dd, data, sl⟩ := o
    simp only at hc hd hs
    subst hc hd hs
    exact .inr ⟨its.toList, n, sl, h, by simpa using hl, hv⟩
theorem LRd.obj {X : Cx} {pins : List (Addr × Obj)} {σ : L2.St} {H : Hp} {s : Shared} {a : Addr} {xs : List V} (I : Inv X pins σ H s) (h : LRd X.K H a xs) :
    xs.length ≤ sizeLine ∧ ∃ (its : List Value) (n : Nat) (sl : Array (Option Value)), Vals xs its ∧ xs.length = its.length ∧ s.heap.get? a = some { cls := .type "list", data := .seq its.toArray n, slots := sl } := by
  rcases h with h | ⟨its, n, sl, h, hl, hv⟩
  · obtain ⟨z, its, n, r, e⟩ := h.ok I.hok
    exact ⟨z, its, n, #[], r, r.length, e⟩
  · exact ⟨by rw [hv.length]; exact hl, its, n, sl, hv, hv.length, I.kIn a _ h⟩
def KT (K : Fg) (a : Addr) (xs : List V) : Prop := ∃ (o : Obj) (its : Array Value) (n : Nat), K.lookup a = some o ∧ o.cls = .type "tuple" ∧ o.data = .seq its n ∧ its.size ≤ sizeLine ∧ Vals xs its.toList
/-- a list that nobody changes; T: what may not be spoken of -/
def FL (K : Fg) (T : Addr → Prop) (H : Hp) (a : Addr) (xs : List V) : Prop := (Rd H a (.lst xs) ∧ ¬ T a) ∨ KL K a xs
def FT (K : Fg) (T : Addr → Prop) (H : Hp) (a : Addr) (xs : List V) : Prop := (Rd H a (.tup xs) ∧ ¬ T a) ∨ KT K a xs
theorem FL.rd {K : Fg} {T : Addr → Prop} {H : Hp} {a : Addr} {xs : List V} (h : FL K T H a xs) : LRd K H a xs := by
  rcases h with ⟨h, _⟩ | h
  · exact .inl h
  · exact .inr h
theorem FT.sq {K : Fg} {T : Addr → Prop} {H : Hp} {a : Addr} {xs : List V} (h : FT K T H a xs) : SqT K H a xs := by
  rcases h with ⟨h, _⟩ | h
  · exact .inl h
  · exact .inr h

mutual
def Rel (K : Fg) (T : Addr → Prop) (H : Hp) : V → D → Prop
  | v, .none => v = .non
  | v, .bool b => v = .bl b
  | v, .int i => v = .int i
  | v, .str x => v = .str x ∧ PyData.strOk x = true
  | v, .list ds => ∃ a vs, v = .ref a ∧ FL K T H a vs ∧ RelL K T H vs ds
  | v, .tuple ds => ∃ a vs, v = .ref a ∧ FT K T H a vs ∧ RelL K T H vs ds
  | _, .dict _ => False
def RelL (K : Fg) (T : Addr → Prop) (H : Hp) : List V → List D → Prop
  | vs, [] => vs = []
  | vs, d :: ds => ∃ v r, vs = v :: r ∧ Rel K T H v d ∧ RelL K T H r ds
end

section
variable {K : Fg} {T T' : Addr → Prop} {H H' : Hp}
theorem RelL.nil : RelL K T H [] [] := by unfold RelL; rfl
theorem RelL.cons {v : V} {vs : List V} {d : D} {ds : List D} (h : Rel K T H v d) (r : RelL K T H vs ds) : RelL K T H (v :: vs) (d :: ds) := by
  unfold RelL; exact ⟨v, vs, rfl, h, r⟩
theorem RelL.length : ∀ {ds : List D} {vs : List V}, RelL K T H vs ds → vs.length = ds.length
  | [], vs, h => by unfold RelL at h; rw [h]; rfl
  | d :: ds, vs, h => by
    unfold RelL at h
    obtain ⟨v, r, rfl, _, h2⟩ := h
    rw [List.length_cons, List.length_cons, RelL.length h2]
theorem RelL.get : ∀ {ds : List D} {vs : List V} {i : Nat} {d : D}, RelL K T H vs ds → ds[i]? = some d → ∃ v, vs[i]? = some v ∧ Rel K T H v d
  | [], vs, i, d, h, e => by simp at e
  | d0 :: ds, vs, 0, d, h, e => by
    unfold RelL at h
    obtain ⟨v, r, rfl, h1, h2⟩ := h
    simp at e; subst e
    exact ⟨v, rfl, h1⟩
  | d0 :: ds, vs, i + 1, d, h, e => by
    unfold RelL at h
    obtain ⟨v, r, rfl, h1, h2⟩ := h
    obtain ⟨u, hu, ru⟩ := RelL.get h2 (i := i) (d := d) (by simpa using e)
    exact ⟨u, by simpa using hu, ru⟩
theorem RelL.getV : ∀ {ds : List D} {vs : List V} {i : Nat} {v : V}, RelL K T H vs ds → vs[i]? = some v → ∃ d, ds[i]? = some d ∧ Rel K T H v d := fun {ds vs i v} h e => by
  have hl := h.length
  have hi : i < vs.length := (List.getElem?_eq_some_iff.mp e).1
  obtain ⟨u, hu, ru⟩ := h.get (i := i) (d := ds[i]) (List.getElem?_eq_getElem (by omega))
  rw [e] at hu; cases hu
  exact ⟨_, List.getElem?_eq_getElem (by omega), ru⟩
theorem RelL.append : ∀ {ds es : List D} {vs us : List V}, RelL K T H vs ds → RelL K T H us es → RelL K T H (vs ++ us) (ds ++ es)
  | [], es, vs, us, h, h2 => by unfold RelL at h; subst h; exact h2
  | d :: ds, es, vs, us, h, h2 => by
    unfold RelL at h
    obtain ⟨v, r, rfl, h1, h3⟩ := h
    exact RelL.cons h1 (RelL.append h3 h2)
theorem RelL.drop : ∀ {ds : List D} {vs : List V} (n : Nat), RelL K T H vs ds → RelL K T H (vs.drop n) (ds.drop n)
  | _, _, 0, h => h
  | [], vs, n + 1, h => by unfold RelL at h; subst h; exact RelL.nil
  | d :: ds, vs, n + 1, h => by
    unfold RelL at h
    obtain ⟨v, r, rfl, h1, h3⟩ := h
    exact RelL.drop n h3
theorem RelL.take : ∀ {ds : List D} {vs : List V} (n : Nat), RelL K T H vs ds → RelL K T H (vs.take n) (ds.take n)
  | _, _, 0, h => by simp only [List.take_zero]; exact RelL.nil
  | [], vs, n + 1, h => by unfold RelL at h; subst h; exact RelL.nil
  | d :: ds, vs, n + 1, h => by
    unfold RelL at h
    obtain ⟨v, r, rfl, h1, h3⟩ := h
    exact RelL.cons h1 (RelL.take n h3)
theorem RelL.set : ∀ {ds : List D} {vs : List V} {v : V} {d : D} (n : Nat), RelL K T H vs ds → Rel K T H v d → RelL K T H (vs.set n v) (ds.set n d)
  | [], vs, v, d, n, h, hd => by unfold RelL at h; subst h; exact RelL.nil
  | e :: ds, vs, v, d, 0, h, hd => by
    unfold RelL at h
    obtain ⟨u, r, rfl, h1, h3⟩ := h
    exact RelL.cons hd h3
  | e :: ds, vs, v, d, n + 1, h, hd => by
    unfold RelL at h
    obtain ⟨u, r, rfl, h1, h3⟩ := h
    exact RelL.cons h1 (RelL.set n h3 hd)
theorem RelL.rep {ds : List D} {vs : List V} (h : RelL K T H vs ds) : ∀ n : Nat, RelL K T H (List.replicate n vs).flatten (List.replicate n ds).flatten
  | 0 => RelL.nil
  | n + 1 => by
    rw [List.replicate_succ, List.replicate_succ, List.flatten_cons, List.flatten_cons]
    exact h.append (RelL.rep h n)
theorem RelL.reverse : ∀ {ds : List D} {vs : List V}, RelL K T H vs ds → RelL K T H vs.reverse ds.reverse
  | [], vs, h => by unfold RelL at h; subst h; exact RelL.nil
  | d :: ds, vs, h => by
    unfold RelL at h
    obtain ⟨v, r, rfl, h1, h3⟩ := h
    rw [List.reverse_cons, List.reverse_cons]
    exact (RelL.reverse h3).append (RelL.cons h1 RelL.nil)
theorem RelL.snoc {ds : List D} {vs : List V} {v : V} {d : D} (h : RelL K T H vs ds) (hd : Rel K T H v d) : RelL K T H (vs ++ [v]) (ds ++ [d]) := h.append (RelL.cons hd RelL.nil)
theorem RelL.ints {ns : List Int} : ∀ {vs : List V}, RelL K T H vs (ns.map .int) → vs = ns.map .int := by
  induction ns with
  | nil => intro vs h; unfold RelL at h; exact h
  | cons n ns ih =>
    intro vs h
    simp only [List.map_cons] at h
    unfold RelL at h
    obtain ⟨v, r, rfl, h1, h3⟩ := h
    unfold Rel at h1
    subst h1
    rw [List.map_cons, ih h3]
theorem RelL.ofInts : ∀ {ns : List Int}, RelL K T H (ns.map .int) (ns.map .int)
  | [] => RelL.nil
  | n :: ns => RelL.cons (by unfold Rel; rfl) RelL.ofInts

/-- what stood stands, where it may be spoken of -/
def Ext (T : Addr → Prop) (H : Hp) (T' : Addr → Prop) (H' : Hp) : Prop := ∀ a o, H a = some o → (∀ ps, o ≠ .tbl ps) → ¬ T a → H' a = some o ∧ ¬ T' a
theorem Ext.refl : Ext T H T H := fun _ _ h _ n => ⟨h, n⟩
theorem Ext.trans {T'' : Addr → Prop} {H'' : Hp} (x : Ext T H T' H') (y : Ext T' H' T'' H'') : Ext T H T'' H'' := fun a o h n t => by
  obtain ⟨h1, t1⟩ := x a o h n t
  exact y a o h1 n t1
theorem Ext.weak (h : ∀ a, T' a → T a) : Ext T H T' H := fun _ _ e _ n => ⟨e, fun z => n (h _ z)⟩
theorem FL.ext {a : Addr} {xs : List V} (x : Ext T H T' H') (h : FL K T H a xs) : FL K T' H' a xs := by
  rcases h with ⟨h | ⟨o, h⟩, n⟩ | h
  · obtain ⟨h1, n1⟩ := x a _ h (fun _ z => by cases z) n
    exact .inl ⟨.inl h1, n1⟩
  · obtain ⟨h1, n1⟩ := x a _ h (fun _ z => by cases z) n
    exact .inl ⟨.inr ⟨o, h1⟩, n1⟩
  · exact .inr h
theorem FT.ext {a : Addr} {xs : List V} (x : Ext T H T' H') (h : FT K T H a xs) : FT K T' H' a xs := by
  rcases h with ⟨h | ⟨o, h⟩, n⟩ | h
  · obtain ⟨h1, n1⟩ := x a _ h (fun _ z => by cases z) n
    exact .inl ⟨.inl h1, n1⟩
  · obtain ⟨h1, n1⟩ := x a _ h (fun _ z => by cases z) n
    exact .inl ⟨.inr ⟨o, h1⟩, n1⟩
  · exact .inr h
mutual
theorem Rel.ext (x : Ext T H T' H') : ∀ {d : D} {v : V}, Rel K T H v d → Rel K T' H' v d
  | .none, v, h => by unfold Rel at h ⊢; exact h
  | .bool b, v, h => by unfold Rel at h ⊢; exact h
  | .int i, v, h => by unfold Rel at h ⊢; exact h
  | .str s, v, h => by unfold Rel at h ⊢; exact h
  | .list ds, v, h => by
    unfold Rel at h ⊢
    obtain ⟨a, vs, e, h1, h2⟩ := h
    exact ⟨a, vs, e, h1.ext x, RelL.ext x h2⟩
  | .tuple ds, v, h => by
    unfold Rel at h ⊢
    obtain ⟨a, vs, e, h1, h2⟩ := h
    exact ⟨a, vs, e, h1.ext x, RelL.ext x h2⟩
  | .dict _, v, h => by unfold Rel at h; exact h.elim
theorem RelL.ext (x : Ext T H T' H') : ∀ {ds : List D} {vs : List V}, RelL K T H vs ds → RelL K T' H' vs ds
  | [], vs, h => by unfold RelL at h ⊢; exact h
  | d :: ds, vs, h => by
    unfold RelL at h ⊢
    obtain ⟨v, r, e, h1, h2⟩ := h
    exact ⟨v, r, e, Rel.ext x h1, RelL.ext x h2⟩
end
mutual
theorem Rel.dp : ∀ {d : D} {v : V}, Rel K T H v d → Dp K H v d ∧ d.canLay0 = true
  | .none, v, h => by unfold Rel at h; subst h; exact ⟨.non, rfl⟩
  | .bool b, v, h => by unfold Rel at h; subst h; exact ⟨.bl b, rfl⟩
  | .int i, v, h => by unfold Rel at h; subst h; exact ⟨.int i, rfl⟩
  | .str s, v, h => by unfold Rel at h; obtain ⟨rfl, h⟩ := h; exact ⟨.str s, by unfold PyData.canLay0; exact h⟩
  | .list ds, v, h => by
    unfold Rel at h
    obtain ⟨a, vs, rfl, h1, h2⟩ := h
    obtain ⟨p, q⟩ := RelL.dp h2
    exact ⟨.lst h1.rd.sq p, by unfold PyData.canLay0; exact q⟩
  | .tuple ds, v, h => by
    unfold Rel at h
    obtain ⟨a, vs, rfl, h1, h2⟩ := h
    obtain ⟨p, q⟩ := RelL.dp h2
    exact ⟨.tup h1.sq p, by unfold PyData.canLay0; exact q⟩
  | .dict _, v, h => by unfold Rel at h; exact h.elim
theorem RelL.dp : ∀ {ds : List D} {vs : List V}, RelL K T H vs ds → DpAll K H vs ds ∧ PyData.canLayAll0 ds = true
  | [], vs, h => by unfold RelL at h; subst h; exact ⟨.nil, rfl⟩
  | d :: ds, vs, h => by
    unfold RelL at h
    obtain ⟨v, r, rfl, h1, h2⟩ := h
    obtain ⟨p1, q1⟩ := Rel.dp h1
    obtain ⟨p2, q2⟩ := RelL.dp h2
    exact ⟨.cons p1 p2, by unfold PyData.canLayAll0; rw [q1, q2]; rfl⟩
end
/-- as it may be read just now: also a list of one's own -/
def PRel (K : Fg) (T : Addr → Prop) (H : Hp) (v : V) : D → Prop
  | .list ds => ∃ a vs, v = .ref a ∧ LRd K H a vs ∧ RelL K T H vs ds
  | d => Rel K T H v d
theorem Rel.p {d : D} {v : V} (h : Rel K T H v d) : PRel K T H v d := by
  cases d with
  | list ds =>
    unfold Rel at h
    obtain ⟨a, vs, e, h1, h2⟩ := h
    exact ⟨a, vs, e, h1.rd, h2⟩
  | _ => exact h
theorem PRel.dp {d : D} {v : V} (h : PRel K T H v d) : Dp K H v d ∧ d.canLay0 = true := by
  cases d with
  | list ds =>
    obtain ⟨a, vs, rfl, h1, h2⟩ := h
    obtain ⟨p, q⟩ := h2.dp
    exact ⟨.lst h1.sq p, by unfold PyData.canLay0; exact q⟩
  | _ => exact Rel.dp (T := T) h
end

/-! ### the state -/
structure Ct where
  K : Fg
  W : WX
  cls : Nat → Value
  TB : Addr → Prop
  err : Option (Addr × Nat) := none
/-- what this frame's callers own; what this frame may change; where its handed-in lists lie -/
structure Gh where
  Tc : Addr → Prop
  My : Addr → Prop
  pa : Nat → Addr
def Gh.plus (g : Gh) (a : Addr) : Gh := { g with Tc := fun x => g.Tc x ∨ x = a }
def Own (σ : L2.St) (ρ : Ev) (a : Addr) : Prop := ∃ (i : Nat) (p l : Bool) (ds : List D), ρ[i]? = some (.own p l ds) ∧ σ[i]? = some (some (.ref a))
def Tt (g : Gh) (σ : L2.St) (ρ : Ev) (a : Addr) : Prop := g.Tc a ∨ Own σ ρ a
structure Sim (c : Ct) (g : Gh) (σ : L2.St) (H : Hp) (ρ : Ev) : Prop where
  len : σ.length = ρ.length
  val : ∀ (i : Nat) (d : D), ρ[i]? = some (.val d) → ∃ v, σ[i]? = some (some v) ∧ Rel c.K (Tt g σ ρ) H v d
  own : ∀ (i : Nat) (p l : Bool) (ds : List D), ρ[i]? = some (.own p l ds) → ∃ a vs, σ[i]? = some (some (.ref a)) ∧ H a = some (.lst vs) ∧ RelL c.K (Tt g σ ρ) H vs ds ∧ g.My a ∧ (p = true → a = g.pa i) ∧ (p = false → ¬ g.Tc a)
  inj : ∀ (i j : Nat) (p l : Bool) (ds : List D) (p' l' : Bool) (ds' : List D) (a : Addr), ρ[i]? = some (.own p l ds) → ρ[j]? = some (.own p' l' ds') → σ[i]? = some (some (.ref a)) → σ[j]? = some (some (.ref a)) → i = j
  new : ∀ a, H a = none → g.My a
  tcs : ∀ a, g.Tc a → H a ≠ none
  tab : ∀ P, c.TB P → TabG H P
  err : ∀ (i k : Nat), ρ[i]? = some (.err k) → ∃ a, c.err = some (a, k) ∧ σ[i]? = some (some (.ref a))
/-- from one state to a later one -/
structure Stp (c : Ct) (g : Gh) (σ : L2.St) (H : Hp) (ρ : Ev) (T' : Addr → Prop) (H' : Hp) (ρ' : Ev) : Prop where
  ext : Ext (Tt g σ ρ) H T' H'
  fr : ∀ a o, ¬ g.My a → H a = some o → (∀ ps, o ≠ .tbl ps) → H' a = some o
  dom : ∀ a, H a ≠ none → H' a ≠ none
  lk : ∀ (i : Nat) (p : Bool) (ds : List D), ρ[i]? = some (.own p true ds) → ρ'[i]? = some (.own p true ds)
section
variable {c : Ct} {g : Gh} {σ : L2.St} {H H' H'' : Hp} {ρ ρ' ρ'' : Ev} {T' T'' : Addr → Prop}
theorem Stp.refl : Stp c g σ H ρ (Tt g σ ρ) H ρ := ⟨Ext.refl, fun _ _ _ h _ => h, fun _ h => h, fun _ _ _ h => h⟩
theorem Stp.trans (x : Stp c g σ H ρ (Tt g σ ρ') H' ρ') (y : Stp c g σ H' ρ' T'' H'' ρ'') : Stp c g σ H ρ T'' H'' ρ'' :=
  ⟨x.ext.trans y.ext, fun a o n h t => y.fr a o n (x.fr a o n h t) t, fun a h => y.dom a (x.dom a h), fun i p ds h => y.lk i p ds (x.lk i p ds h)⟩
/-- what an expression's worth is in the heap -/
def Res (c : Ct) (g : Gh) (σ : L2.St) (H : Hp) (ρ : Ev) (v : V) : EV → Prop
  | .val d => Sim c g σ H ρ ∧ Rel c.K (Tt g σ ρ) H v d
  | .loc i => Sim c g σ H ρ ∧ σ[i]? = some (some v)
  | .fresh ds => ∃ a vs, v = .ref a ∧ Sim c (g.plus a) σ H ρ ∧ H a = some (.lst vs) ∧ RelL c.K (Tt (g.plus a) σ ρ) H vs ds ∧ ¬ Tt g σ ρ a ∧ g.My a
def Tr (g : Gh) (σ : L2.St) (ρ : Ev) (v : V) : EV → Addr → Prop
  | .fresh _ => fun a => Tt g σ ρ a ∨ v = .ref a
  | _ => Tt g σ ρ
structure Good (c : Ct) (g : Gh) (σ : L2.St) (H : Hp) (ρ : Ev) (v : V) (H' : Hp) (ev : EV) (ρ' : Ev) : Prop where
  res : Res c g σ H' ρ' v ev
  stp : Stp c g σ H ρ (Tr g σ ρ' v ev) H' ρ'
theorem tt_plus {a x : Addr} : Tt (g.plus a) σ ρ x ↔ Tt g σ ρ x ∨ x = a := by
  unfold Tt Gh.plus
  constructor
  · rintro ((h | h) | h)
    · exact .inl (.inl h)
    · exact .inr h
    · exact .inl (.inr h)
  · rintro ((h | h) | h)
    · exact .inl (.inl h)
    · exact .inr h
    · exact .inl (.inr h)
theorem tr_fresh {a : Addr} {ds : List D} : Tr g σ ρ (.ref a) (.fresh ds) = Tt (g.plus a) σ ρ := by
  funext x
  apply propext
  rw [tt_plus]
  show (Tt g σ ρ x ∨ V.ref a = .ref x) ↔ _
  constructor
  · rintro (h | h)
    · exact .inl h
    · cases h; exact .inr rfl
  · rintro (h | h)
    · exact .inl h
    · rw [h]; exact .inr rfl
theorem Sim.minus {a : Addr} (s : Sim c (g.plus a) σ H ρ) : Sim c g σ H ρ := by
  have x : Ext (Tt (g.plus a) σ ρ) H (Tt g σ ρ) H := Ext.weak fun b h => tt_plus.mpr (.inl h)
  refine ⟨s.len, fun i d h => ?_, fun i p l ds h => ?_, s.inj, s.new, fun b h => s.tcs b (.inl h), s.tab, s.err⟩
  · obtain ⟨v, h1, h2⟩ := s.val i d h
    exact ⟨v, h1, h2.ext x⟩
  · obtain ⟨a, vs, h1, h2, h3, h4, h5, h6⟩ := s.own i p l ds h
    exact ⟨a, vs, h1, h2, h3.ext x, h4, h5, fun z t => h6 z (.inl t)⟩
/-- a new list is known to others from here on -/
theorem Good.settle {v : V} {ev : EV} (G : Good c g σ H ρ v H' ev ρ') : Good c g σ H ρ v H' (settle ev) ρ' := by
  cases ev with
  | val d => exact G
  | loc i => exact G
  | fresh ds =>
    obtain ⟨⟨a, vs, rfl, s, ha, hr, nt, my⟩, st⟩ := G
    have x : Ext (Tt (g.plus a) σ ρ') H' (Tt g σ ρ') H' := Ext.weak fun b h => tt_plus.mpr (.inl h)
    rw [tr_fresh] at st
    refine ⟨⟨s.minus, ?_⟩, st.ext.trans x, st.fr, st.dom, st.lk⟩
    unfold Rel
    exact ⟨a, vs, rfl, .inl ⟨.inl ha, nt⟩, hr.ext x⟩
theorem Good.sim {v : V} {ev : EV} (G : Good c g σ H ρ v H' ev ρ') : Sim c g σ H' ρ' := by
  cases ev with
  | val d => exact G.res.1
  | loc i => exact G.res.1
  | fresh ds =>
    obtain ⟨a, vs, rfl, s, _⟩ := G.res
    exact s.minus
/-- a settled worth, kept while more is reckoned -/
def Ref (c : Ct) (g : Gh) (σ : L2.St) (H : Hp) (ρ : Ev) (v : V) : EV → Prop
  | .val d => Rel c.K (Tt g σ ρ) H v d
  | .loc i => σ[i]? = some (some v)
  | .fresh _ => False
theorem Good.ref {v : V} {ev : EV} (G : Good c g σ H ρ v H' ev ρ') : Ref c g σ H' ρ' v (Den.settle ev) := by
  have h := G.settle.res
  cases ev with
  | val d => exact h.2
  | loc i => exact h.2
  | fresh ds => exact h.2
theorem Good.step {v : V} {ev : EV} (G : Good c g σ H ρ v H' ev ρ') : Stp c g σ H ρ (Tt g σ ρ') H' ρ' := by
  have h := G.settle.stp
  cases ev with
  | val d => exact h
  | loc i => exact h
  | fresh ds => exact h
theorem Ref.step {v : V} {ev : EV} (r : Ref c g σ H ρ v ev) (s : Stp c g σ H ρ (Tt g σ ρ') H' ρ') : Ref c g σ H' ρ' v ev := by
  cases ev with
  | val d => exact Rel.ext s.ext r
  | loc i => exact r
  | fresh ds => exact r
theorem Good.trans {v : V} {ev : EV} (s : Stp c g σ H ρ (Tt g σ ρ') H' ρ') (G : Good c g σ H' ρ' v H'' ev ρ'') : Good c g σ H ρ v H'' ev ρ'' := ⟨G.res, s.trans G.stp⟩
theorem Good.of_val {v : V} {d : D} (s : Sim c g σ H ρ) (r : Rel c.K (Tt g σ ρ) H v d) : Good c g σ H ρ v H (.val d) ρ := ⟨⟨s, r⟩, Stp.refl⟩
theorem Good.of_loc {v : V} {i : Nat} (s : Sim c g σ H ρ) (r : σ[i]? = some (some v)) : Good c g σ H ρ v H (.loc i) ρ := ⟨⟨s, r⟩, Stp.refl⟩
/-- as it may be read -/
theorem Ref.peek {v : V} {ev : EV} {d : D} (s : Sim c g σ H ρ) (r : Ref c g σ H ρ v ev) (h : peek ρ ev = some d) : PRel c.K (Tt g σ ρ) H v d := by
  cases ev with
  | val e =>
    have e1 : e = d := Option.some.inj h
    subst e1
    exact Rel.p r
  | fresh ds => exact False.elim r
  | loc i =>
    have r' : σ[i]? = some (some v) := r
    have h' : (match ρ[i]? with | some (Sl.own _ _ ds) => some (PyData.list ds) | _ => none) = some d := h
    cases e : ρ[i]? with
    | none => rw [e] at h'; cases h'
    | some sl =>
      rw [e] at h'
      cases sl with
      | no => cases h'
      | err _ => cases h'
      | val _ => cases h'
      | own p l ds =>
        cases h'
        obtain ⟨a, vs, h1, h2, h3, _⟩ := s.own i p l ds e
        rw [r'] at h1; cases h1
        exact ⟨a, vs, rfl, .inl (.inl h2), h3⟩

/-! ### new objects -/
theorem Sim.notTt (s : Sim c g σ H ρ) {a : Addr} (h : H a = none) : ¬ Tt g σ ρ a := by
  rintro (t | ⟨i, p, l, ds, e1, e2⟩)
  · exact s.tcs a t h
  · obtain ⟨b, vs, h1, h2, _⟩ := s.own i p l ds e1
    rw [e2] at h1; cases h1
    rw [h] at h2; cases h2
theorem ext_new {T : Addr → Prop} {a : Addr} {o : HO} (h : H a = none) : Ext T H T (upd H a o) := fun b u e _ n => ⟨by rw [upd_ne (ne_of_none e h)]; exact e, n⟩
theorem tabG_new {a P : Addr} {o : HO} (h : H a = none) (t : TabG H P) : TabG (upd H a o) P := by
  obtain ⟨ps, e, r⟩ := t
  exact ⟨ps, by rw [upd_ne (ne_of_none e h)]; exact e, r⟩
theorem Sim.alloc (s : Sim c g σ H ρ) {a : Addr} {o : HO} (h : H a = none) : Sim c g σ (upd H a o) ρ := by
  have x : Ext (Tt g σ ρ) H (Tt g σ ρ) (upd H a o) := ext_new h
  refine ⟨s.len, fun i d e => ?_, fun i p l ds e => ?_, s.inj, fun b e => s.new b ?_, fun b t e => s.tcs b t ?_, fun P t => tabG_new h (s.tab P t), s.err⟩
  · obtain ⟨v, h1, h2⟩ := s.val i d e
    exact ⟨v, h1, h2.ext x⟩
  · obtain ⟨b, vs, h1, h2, h3, h4, h5, h6⟩ := s.own i p l ds e
    exact ⟨b, vs, h1, by rw [upd_ne (ne_of_none h2 h)]; exact h2, h3.ext x, h4, h5, h6⟩
  · by_cases q : b = a
    · subst q; exact h
    · rw [upd_ne q] at e; exact e
  · by_cases q : b = a
    · subst q; exact h
    · rw [upd_ne q] at e; exact e
theorem Stp.alloc {a : Addr} {o : HO} (h : H a = none) : Stp c g σ H ρ (Tt g σ ρ) (upd H a o) ρ :=
  ⟨ext_new h, fun b u _ e _ => by rw [upd_ne (ne_of_none e h)]; exact e, fun b e => by
    by_cases q : b = a
    · subst q; exact absurd h e
    · rw [upd_ne q]; exact e, fun _ _ _ h => h⟩
/-- a new tuple -/
theorem Good.tup (s : Sim c g σ H ρ) {a : Addr} {vs : List V} {ds : List D} (h : H a = none) (r : RelL c.K (Tt g σ ρ) H vs ds) : Good c g σ H ρ (.ref a) (upd H a (.tup vs)) (.val (.tuple ds)) ρ := by
  refine ⟨⟨s.alloc h, ?_⟩, Stp.alloc h⟩
  unfold Rel
  exact ⟨a, vs, rfl, .inl ⟨.inl upd_same, s.notTt h⟩, r.ext (ext_new h)⟩
/-- a new list -/
theorem Good.lst (s : Sim c g σ H ρ) {a : Addr} {vs : List V} {ds : List D} (h : H a = none) (r : RelL c.K (Tt g σ ρ) H vs ds) : Good c g σ H ρ (.ref a) (upd H a (.lst vs)) (.fresh ds) ρ := by
  have nt := s.notTt h
  have x : Ext (Tt g σ ρ) H (Tt (g.plus a) σ ρ) (upd H a (.lst vs)) := fun b u e _ n => ⟨by rw [upd_ne (ne_of_none e h)]; exact e, fun z => by
    rcases tt_plus.mp z with z | z
    · exact n z
    · exact ne_of_none e h z⟩
  have s2 := s.alloc (o := .lst vs) h
  refine ⟨⟨a, vs, rfl, ⟨s.len, fun i d e => ?_, fun i p l ds e => ?_, s.inj, s2.new, fun b t => ?_, s2.tab, s2.err⟩, upd_same, r.ext x, nt, s.new a h⟩, ?_⟩
  · obtain ⟨v, h1, h2⟩ := s.val i d e
    exact ⟨v, h1, h2.ext x⟩
  · obtain ⟨b, vs, h1, h2, h3, h4, h5, h6⟩ := s.own i p l ds e
    exact ⟨b, vs, h1, by rw [upd_ne (ne_of_none h2 h)]; exact h2, h3.ext x, h4, h5, fun z t => t.elim (h6 z) (ne_of_none h2 h)⟩
  · rcases t with t | t
    · exact s2.tcs b t
    · subst t; rw [upd_same]; simp
  · rw [tr_fresh]
    have st : Stp c g σ H ρ (Tt g σ ρ) (upd H a (.lst vs)) ρ := Stp.alloc h
    exact ⟨x, st.fr, st.dom, st.lk⟩
end

/-! ### readings -/
/-- an exception at ρ' -/
structure GoodX (c : Ct) (g : Gh) (σ : L2.St) (H : Hp) (ρ : Ev) (H' : Hp) (ρ' : Ev) : Prop where
  sim : Sim c g σ H' ρ'
  stp : Stp c g σ H ρ (Tt g σ ρ') H' ρ'
def Kont (c : Ct) (g : Gh) (σ : L2.St) (H : Hp) (ρ : Ev) (r : R EV) (Q : VK) : Prop := match r with
  | .ok ev ρ' => ∀ v H', Good c g σ H ρ v H' ev ρ' → Q v H'
  | .exc k ρ' => ∀ H', GoodX c g σ H ρ H' ρ' → c.W (c.cls k) none σ H'
  | .bad => False
def tE (c : Ct) (d : M EV) : TE := fun σ H Q => ∃ g ρ, Sim c g σ H ρ ∧ Kont c g σ H ρ (d ρ) Q
def KontT (c : Ct) (g : Gh) (σ : L2.St) (H : Hp) (ρ : Ev) (r : R Bool) (Q : Bool → Hp → Prop) : Prop := match r with
  | .ok b ρ' => ∀ H', GoodX c g σ H ρ H' ρ' → Q b H'
  | .exc k ρ' => ∀ H', GoodX c g σ H ρ H' ρ' → c.W (c.cls k) none σ H'
  | .bad => False
def tT (c : Ct) (d : M Bool) : TT := fun σ H Q => ∃ g ρ, Sim c g σ H ρ ∧ KontT c g σ H ρ (d ρ) Q
theorem _root_.L2.PE.weak {X : Cx} {e : Expr} {t t' : TE} (h : PE X e t) (w : ∀ σ H Q, t' σ H Q → t σ H Q) : PE X e t' := ⟨fun pins s σ H Q I q => h.run pins s σ H Q I (w σ H Q q)⟩
theorem _root_.L2.PT.weak {X : Cx} {e : Expr} {t t' : TT} (h : PT X e t) (w : ∀ σ H Q, t' σ H Q → t σ H Q) : PT X e t' := ⟨fun pins s σ H Q I q => h.run pins s σ H Q I (w σ H Q q)⟩
theorem _root_.L2.PS.weak {X : Cx} {e : Stmt} {t t' : TS} (h : PS X e t) (w : ∀ D σ H, t' D σ H → t D σ H) : PS X e t' := ⟨fun pins s σ H D I q => h.run pins s σ H D I (w D σ H q)⟩
theorem _root_.L2.PSs.weak {X : Cx} {e : List Stmt} {t t' : TS} (h : PSs X e t) (w : ∀ D σ H, t' D σ H → t D σ H) : PSs X e t' := ⟨fun pins s σ H D I q => h.run pins s σ H D I (w D σ H q)⟩
section
variable {c : Ct} {g : Gh} {σ : L2.St} {H H1 : Hp} {ρ ρ1 : Ev}
theorem GoodX.trans {H2 : Hp} {ρ2 : Ev} (s : Stp c g σ H ρ (Tt g σ ρ1) H1 ρ1) (G : GoodX c g σ H1 ρ1 H2 ρ2) : GoodX c g σ H ρ H2 ρ2 := ⟨G.sim, s.trans G.stp⟩
theorem Kont.step {r : R EV} {Q : VK} (s : Stp c g σ H ρ (Tt g σ ρ1) H1 ρ1) (k : Kont c g σ H ρ r Q) : Kont c g σ H1 ρ1 r Q := by
  cases r with
  | ok ev ρ' => exact fun v H' G => k v H' (G.trans s)
  | exc e ρ' => exact fun H' G => k H' (G.trans s)
  | bad => exact k
theorem KontT.step {r : R Bool} {Q : Bool → Hp → Prop} (s : Stp c g σ H ρ (Tt g σ ρ1) H1 ρ1) (k : KontT c g σ H ρ r Q) : KontT c g σ H1 ρ1 r Q := by
  cases r with
  | ok ev ρ' => exact fun H' G => k H' (G.trans s)
  | exc e ρ' => exact fun H' G => k H' (G.trans s)
  | bad => exact k
/-- first this, then the rest -/
theorem Kont.bnd {d : M EV} {f : EV → M EV} {Q : VK} (s : Sim c g σ H ρ) (k : Kont c g σ H ρ (bnd d f ρ) Q) :
    tE c d σ H fun v H1 => ∃ ev ρ1, Good c g σ H ρ v H1 ev ρ1 ∧ Kont c g σ H1 ρ1 (f ev ρ1) Q := by
  refine ⟨g, ρ, s, ?_⟩
  unfold Den.bnd at k
  cases e : d ρ with
  | ok ev ρ' =>
    rw [e] at k
    exact fun v H' G => ⟨ev, ρ', G, k.step G.step⟩
  | exc x ρ' => rw [e] at k; exact k
  | bad => rw [e] at k; exact k
theorem KontT.bnd {d : M EV} {f : EV → M Bool} {Q : Bool → Hp → Prop} (s : Sim c g σ H ρ) (k : KontT c g σ H ρ (Den.bnd d f ρ) Q) :
    tE c d σ H fun v H1 => ∃ ev ρ1, Good c g σ H ρ v H1 ev ρ1 ∧ KontT c g σ H1 ρ1 (f ev ρ1) Q := by
  refine ⟨g, ρ, s, ?_⟩
  unfold Den.bnd at k
  cases e : d ρ with
  | ok ev ρ' =>
    rw [e] at k
    exact fun v H' G => ⟨ev, ρ', G, k.step G.step⟩
  | exc x ρ' => rw [e] at k; exact k
  | bad => rw [e] at k; exact k
theorem Kont.bndT {d : M Bool} {f : Bool → M EV} {Q : VK} (s : Sim c g σ H ρ) (k : Kont c g σ H ρ (Den.bnd d f ρ) Q) :
    tT c d σ H fun b H1 => ∃ ρ1, GoodX c g σ H ρ H1 ρ1 ∧ Kont c g σ H1 ρ1 (f b ρ1) Q := by
  refine ⟨g, ρ, s, ?_⟩
  unfold Den.bnd at k
  cases e : d ρ with
  | ok ev ρ' =>
    rw [e] at k
    exact fun H' G => ⟨ρ', G, k.step G.stp⟩
  | exc x ρ' => rw [e] at k; exact k
  | bad => rw [e] at k; exact k
theorem KontT.bndT {d : M Bool} {f : Bool → M Bool} {Q : Bool → Hp → Prop} (s : Sim c g σ H ρ) (k : KontT c g σ H ρ (Den.bnd d f ρ) Q) :
    tT c d σ H fun b H1 => ∃ ρ1, GoodX c g σ H ρ H1 ρ1 ∧ KontT c g σ H1 ρ1 (f b ρ1) Q := by
  refine ⟨g, ρ, s, ?_⟩
  unfold Den.bnd at k
  cases e : d ρ with
  | ok ev ρ' =>
    rw [e] at k
    exact fun H' G => ⟨ρ', G, k.step G.stp⟩
  | exc x ρ' => rw [e] at k; exact k
  | bad => rw [e] at k; exact k
theorem bnd_assoc {α β γ : Type} (m : M α) (f : α → M β) (h : β → M γ) : bnd (bnd m f) h = bnd m fun a => bnd (f a) h := by
  funext ρ
  unfold bnd
  cases m ρ <;> rfl
theorem bnd_ret {α β : Type} (a : α) (f : α → M β) : bnd (ret a) f = f a := rfl
theorem bnd_fail {α β : Type} (f : α → M β) : bnd fail f = fail := rfl
end
end Den
set_option autoImplicit false
set_option maxRecDepth 100000
set_option maxHeartbeats 4000000
/-! Den, part C0: a tuple taken once, or no times. -/
namespace Den
open PySem PySem.Spec PyProof.Rows L2 GxR
theorem tuple_mul1 (l : Addr) (items : Array Value) (n : Nat) (dd : Option Addr) (sl : Array (Option Value)) (u : Tok) :
    Meets (Builtin.«tuple.__mul__» ⟨[.ref l, .int 1 u], []⟩) (fun _ R s => s.heap.get? l = some { cls := .type "tuple", dict := dd, data := .seq items n, slots := sl } ∧
      R (.ok (.ret (Value.ref l))) s) :=
  .of_wp fun prog w A R s h => by
    obtain ⟨hp, g, d, tk, os⟩ := s
    obtain ⟨hl, h⟩ := h
    have f1 := AutoSeq1.idx_int
    wp_walk using wpAny_loadPart' hl
    repeat (first
      | (refine wpAny_ite_false (decide_eq_false (by decide)) ?_; wp_walk using wpAny_loadPart' hl)
      | (refine wpAny_ite_true (decide_eq_true (by simp)) ?_; wp_walk using wpAny_loadPart' hl))
    exact ⟨_, rfl, h⟩
theorem tuple_mul0 (l : Addr) (items : Array Value) (n : Nat) (dd : Option Addr) (sl : Array (Option Value)) (u : Tok) (c1 : items.isEmpty = false) :
    Meets (Builtin.«tuple.__mul__» ⟨[.ref l, .int 0 u], []⟩) (fun _ R s => s.heap.get? l = some { cls := .type "tuple", dict := dd, data := .seq items n, slots := sl } ∧
      R (.ok (.ret (Value.ref s.heap.objs.size))) { s with heap := s.heap.push { cls := Value.type "tuple", data := Data.seq #[] }, toks := s.toks }) :=
  .of_wp fun prog w A R s h => by
    obtain ⟨hp, g, d, tk, os⟩ := s
    obtain ⟨hl, h⟩ := h
    have f1 := AutoSeq1.idx_int
    wp_walk using wpAny_loadPart' hl
    repeat (first
      | (refine wpAny_ite_false (decide_eq_false (by decide)) ?_; wp_walk using wpAny_loadPart' hl)
      | (refine wpAny_ite_false (decide_eq_false (by rw [c1]; decide)) ?_; wp_walk using wpAny_loadPart' hl)
      | (refine wpAny_ite_true (decide_eq_true (by simp)) ?_; wp_walk using wpAny_loadPart' hl))
    exact ⟨_, rfl, h⟩
def rRepA (K : PySem.W.Frag) : R2 := fun x y H Q => ∃ l k xs, x = .ref l ∧ y = .int k ∧ SqT K H l xs ∧ xs ≠ [] ∧ 0 ≤ k ∧ k ≤ 1000 ∧ xs.length ≤ 1000 ∧ (k = 1 → Q (.ref l) H) ∧ (k ≠ 1 → ∀ p, H p = none → Q (.ref p) (upd H p (.tup (List.replicate k.toNat xs).flatten)))
section
variable {X : Cx}
theorem op_repA : OpR X (binaryOp .Mult) (rRepA X.K) := by
  intro pins s σ H x y v u Q I rx ry h
  obtain ⟨l, k, xs, rfl, rfl, hT, hne, h1, h2, hz, q1, q2⟩ := h
  by_cases h3 : 2 ≤ k
  · exact op_repT pins s σ H _ _ v u Q I rx ry ⟨l, k, xs, rfl, rfl, hT, hne, h3, h2, hz, q2 (by omega)⟩
  cases rx
  obtain ⟨t, rfl⟩ := ry
  obtain ⟨its, r, ⟨⟨cls, dd, data, sl⟩, ho, hc, n, hd⟩, hs⟩ := I.tuple hT
  simp only at hc hd
  subst hc hd
  have hle : its.length = xs.length := r.length.symm
  have hn : its ≠ [] := fun e => hne (by
    rw [e] at hle
    exact List.eq_nil_of_length_eq_zero hle.symm)
  have hi : its.toArray.isEmpty = false := by
    cases its with
    | nil => exact absurd rfl hn
    | cons a b => rfl
  by_cases h4 : k = 1
  · subst h4
    refine wpAny_binaryOp_repeat_ref (T := "tuple") (U := "int") (by decide) ⟨_, ho, rfl⟩ (fun s' => typeIs_int s' 1 t) noFill_tuple_mul F.fills_int_mul F.slot_int_rmul repeat_tuple F.slot_int_index.lookup
      (call_meets F.slot_int_rmul (typeIs_int s 1 t) F.entry_int_rmul (F.args_int_rmul_2 _ _) (int_rmul_tuple 1 t l its.toArray n dd sl)
        ⟨ho, rfl, ⟨_, ho, rfl⟩, call_meets F.slot_tuple_mul ⟨_, ho, rfl⟩ F.entry_tuple_mul (F.args_tuple_mul_2 _ _) (tuple_mul1 l its.toArray n dd sl t) ⟨ho, ?_⟩⟩)
    exact ⟨.ref l, H, I, rfl, q1 rfl⟩
  · have h5 : k = 0 := by omega
    subst h5
    refine wpAny_binaryOp_repeat_ref (T := "tuple") (U := "int") (by decide) ⟨_, ho, rfl⟩ (fun s' => typeIs_int s' 0 t) noFill_tuple_mul F.fills_int_mul F.slot_int_rmul repeat_tuple F.slot_int_index.lookup
      (call_meets F.slot_int_rmul (typeIs_int s 0 t) F.entry_int_rmul (F.args_int_rmul_2 _ _) (int_rmul_tuple 0 t l its.toArray n dd sl)
        ⟨ho, rfl, ⟨_, ho, rfl⟩, call_meets F.slot_tuple_mul ⟨_, ho, rfl⟩ F.entry_tuple_mul (F.args_tuple_mul_2 _ _) (tuple_mul0 l its.toArray n dd sl t hi) ⟨ho, ?_⟩⟩)
    refine ⟨.ref s.heap.objs.size, _, I.laid (t' := s.toks) (o := .tup []) (fun b ob q => Heap.get?_push_of_some _ q) (Nat.le_refl _) ?_, rfl, q2 (by decide) _ (I.hok.fresh (Nat.le_refl _))⟩
    exact ⟨Nat.zero_le _, [], .nil, IsTup.new _ _⟩
end
end Den
set_option autoImplicit false
set_option maxRecDepth 100000
set_option maxHeartbeats 4000000
/-! Den, part C: the operations on values. -/
namespace Den
open PySem PySem.Spec PyProof.Rows L2 GxR
/-- * of two factors of together less than a hundred million bits -/
def CMulG (i j : Int) : Prop := i.natAbs.log2 + j.natAbs.log2 < 100000000
theorem CMulG.ok {i j : Int} (h : CMulG i j) : IntMulOk i j := by
  have b : ∀ x : Int, Builtin.Int.intBits x ≤ x.natAbs.log2 + 1 := fun x => by
    unfold Builtin.Int.intBits
    split <;> omega
  have h1 := b i
  have h2 := b j
  have h3 : i.natAbs.log2 + j.natAbs.log2 < 100000000 := h
  have e : bitsLine = 134217728 := by decide
  unfold IntMulOk
  intro z
  rw [Bool.and_eq_true] at z
  have z2 := z.2
  unfold Builtin.Int.intTooBig at z2
  have z3 := of_decide_eq_true z2
  rw [e] at z3
  omega
theorem op_mulG {X : Cx} : OpR X (binaryOp .Mult) (rI CMulG fun i j => .int (i * j)) := opI fun _ _ _ _ _ _ _ hc q => mul_int q hc.ok

theorem line_eq : line = sizeLine := sizeLine_eq.symm
section
variable {X : Cx} {T : Addr → Prop}

/-- what a result may be: a value that is there, a new tuple, a new list -/
structure Ans (K : Fg) (T : Addr → Prop) (H : Hp) (r : EV) (Q : VK) : Prop where
  val : ∀ v d, r = .val d → Rel K T H v d → Q v H
  tup : ∀ p vs ds, r = .val (.tuple ds) → H p = none → RelL K T H vs ds → Q (.ref p) (upd H p (.tup vs))
  lst : ∀ p vs ds, r = .fresh ds → H p = none → RelL K T H vs ds → Q (.ref p) (upd H p (.lst vs))
theorem Kont.ans {c : Ct} {g : Gh} {σ : L2.St} {H : Hp} {ρ : Ev} {r : EV} {Q : VK} (s : Sim c g σ H ρ) (k : Kont c g σ H ρ (.ok r ρ) Q) : Ans c.K (Tt g σ ρ) H r Q := by
  refine ⟨fun v d e h => ?_, fun p vs ds e hp h => ?_, fun p vs ds e hp h => ?_⟩
  · subst e; exact k v H (Good.of_val s h)
  · subst e; exact k _ _ (Good.tup s hp h)
  · subst e; exact k _ _ (Good.lst s hp h)
theorem rel_int {K : Fg} {H : Hp} {i : Int} : Rel K T H (.int i) (.int i) := by unfold Rel; rfl
theorem rel_bl {K : Fg} {H : Hp} {b : Bool} : Rel K T H (.bl b) (.bool b) := by unfold Rel; rfl
theorem rel_non {K : Fg} {H : Hp} : Rel K T H .non .none := by unfold Rel; rfl
theorem p_int {K : Fg} {H : Hp} {v : V} {i : Int} (h : PRel K T H v (.int i)) : v = .int i := by have h' : Rel K T H v (.int i) := h; unfold Rel at h'; exact h'
theorem p_bl {K : Fg} {H : Hp} {v : V} {i : Bool} (h : PRel K T H v (.bool i)) : v = .bl i := by have h' : Rel K T H v (.bool i) := h; unfold Rel at h'; exact h'
theorem p_non {K : Fg} {H : Hp} {v : V} (h : PRel K T H v .none) : v = .non := by have h' : Rel K T H v .none := h; unfold Rel at h'; exact h'
theorem p_str {K : Fg} {H : Hp} {v : V} {x : Str} (h : PRel K T H v (.str x)) : v = .str x ∧ PyData.strOk x = true := by have h' : Rel K T H v (.str x) := h; unfold Rel at h'; exact h'
theorem p_lst {K : Fg} {H : Hp} {v : V} {ds : List D} (h : PRel K T H v (.list ds)) : ∃ a vs, v = .ref a ∧ LRd K H a vs ∧ RelL K T H vs ds := h
theorem p_tup {K : Fg} {H : Hp} {v : V} {ds : List D} (h : PRel K T H v (.tuple ds)) : ∃ a vs, v = .ref a ∧ FT K T H a vs ∧ RelL K T H vs ds := by have h' : Rel K T H v (.tuple ds) := h; unfold Rel at h'; exact h'
theorem rel_str {K : Fg} {H : Hp} {x : Str} (h : PyData.strOk x = true) : Rel K T H (.str x) (.str x) := by unfold Rel; exact ⟨rfl, h⟩
theorem rel_tup {K : Fg} {H : Hp} {a : Addr} {vs : List V} {ds : List D} (h : FT K T H a vs) (r : RelL K T H vs ds) : Rel K T H (.ref a) (.tuple ds) := by unfold Rel; exact ⟨a, vs, rfl, h, r⟩
theorem strOk_append {x y : Str} (hx : PyData.strOk x = true) (hy : PyData.strOk y = true) : PyData.strOk (x ++ y) = true := by
  obtain ⟨⟨x⟩⟩ := x
  obtain ⟨⟨y⟩⟩ := y
  unfold PyData.strOk at *
  show ((⟨x⟩ : Array Nat) ++ (⟨y⟩ : Array Nat)).all _ = true
  simp only [Array.all_append, Bool.and_eq_true]
  exact ⟨hx, hy⟩

/-! ### lists -/
theorem new_list {pins : List (Addr × Obj)} {σ : L2.St} {H : Hp} {s : Shared} {Q : VK} {ys : List V} {its : List Value} (I : Inv X pins σ H s) (hv : Vals ys its) (hz : ys.length ≤ sizeLine) (q : ∀ p, H p = none → Q (.ref p) (upd H p (.lst ys))) :
    EP X pins σ Q (.ref s.heap.objs.size) { s with heap := s.heap.push { cls := .type "list", data := .seq its.toArray } } :=
  ⟨.ref _, _, I.lnew (t' := s.toks) hv hz, rfl, q _ I.fresh⟩
theorem op_catL : OpR X (binaryOp .Add) (fun x y H Q => ∃ l b xs zs, x = .ref l ∧ y = .ref b ∧ LRd X.K H l xs ∧ LRd X.K H b zs ∧ xs.length + zs.length ≤ sizeLine ∧ ∀ p, H p = none → Q (.ref p) (upd H p (.lst (xs ++ zs)))) := by
  intro pins s σ H x y v u Q I rx ry h
  obtain ⟨l, b, xs, zs, rfl, rfl, hH, hB, hz, q⟩ := h
  cases rx
  cases ry
  obtain ⟨z, its, n, sl, r, hl, e⟩ := LRd.obj I hH
  obtain ⟨z2, its2, n2, sl2, r2, hl2, e2⟩ := LRd.obj I hB
  refine concat_meets ⟨_, e, rfl⟩ ⟨_, e2, rfl⟩ noFill_list_add seq_list_add PySem.F.slot_list_add PySem.F.entry_list_add (PySem.F.args_list_add_2 _ _) (list_addW l b its.toArray its2.toArray n n2 none none sl sl2 (by rw [List.size_toArray, List.size_toArray]; omega)) ⟨e, e2, ?_⟩
  have ea : its.toArray ++ its2.toArray = (its ++ its2).toArray := by simp
  rw [ea]
  exact new_list I (r.append r2) (by rw [List.length_append]; omega) q
theorem op_repL : OpR X (binaryOp .Mult) (fun x y H Q => ∃ l k xs, x = .ref l ∧ y = .int k ∧ LRd X.K H l xs ∧ -(2 ^ 63) ≤ k ∧ k < 2 ^ 63 ∧ xs.length * k.toNat ≤ sizeLine ∧
  ∀ p, H p = none → Q (.ref p) (upd H p (.lst (List.replicate k.toNat xs).flatten))) := by
  intro pins s σ H x y v u Q I rx ry h
  obtain ⟨l, k, xs, rfl, rfl, hH, h1, h2, hz, q⟩ := h
  cases rx
  obtain ⟨t, rfl⟩ := ry
  obtain ⟨z, its, n, sl, r, hl, e⟩ := LRd.obj I hH
  have hlen : its.toArray.size * k.toNat ≤ sizeLine := by rw [List.size_toArray, ← hl]; exact hz
  have hcap : ¬ its.toArray.size * k.toNat > (2 ^ 63 - 1) / 8 := by
    have : (sizeLine : Nat) ≤ (2 ^ 63 - 1) / 8 := by decide
    omega
  have hfit : ¬ (!Builtin.List.listFitsIndex k) = true := by
    rw [fitsIndex_both h1 h2]
    exact Bool.false_ne_true
  have hlong : ¬ Builtin.List.listTooLong (its.toArray.size * k.toNat) = true := by
    rw [notLongL hlen]
    exact Bool.false_ne_true
  have hnew : List.foldl (fun x1 x2 => x1 ++ x2) #[] (List.replicate (if its.toArray.isEmpty = true then 0 else k.toNat) its.toArray) = (List.replicate k.toNat its).flatten.toArray := by
    have f0 : ∀ m : Nat, List.foldl (fun x1 x2 => x1 ++ x2) #[] (List.replicate m its.toArray) = (List.replicate m its).flatten.toArray := fun m => by
      have := foldl_rep its m []
      rw [List.nil_append] at this
      exact this
    rw [f0]
    cases its with
    | nil => simp
    | cons a r' => rw [if_neg (by simp)]
  refine wpAny_binaryOp_repeat_ref (T := "list") (U := "int") (by decide) ⟨_, e, rfl⟩ (fun s' => typeIs_int s' k t) noFill_list_mul F.fills_int_mul F.slot_int_rmul repeat_list F.slot_int_index.lookup
    (call_meets F.slot_int_rmul (typeIs_int s k t) F.entry_int_rmul (F.args_int_rmul_2 _ _) (lm_int_rmul_list_any k t l its.toArray n none sl)
      ⟨e, rfl, ⟨_, e, rfl⟩, call_meets F.slot_list_mul ⟨_, e, rfl⟩ F.entry_list_mul (F.args_list_mul_2 _ _) (lm_list_mul_any l its.toArray n none sl k t hfit hcap hlong) ⟨e, ?_⟩⟩)
  rw [hnew]
  exact ⟨.ref _, _, I.lnew (t' := s.toks) (r.rep k.toNat) (by rw [PyProof.Rows.lm_len_rep_flat, Nat.mul_comm]; exact hz), rfl, q _ I.fresh⟩

/-! ### two-place operators -/
def opOf : Op2 → Operator
  | .add => .Add | .sub => .Sub | .mul => .Mult | .fdiv => .FloorDiv | .mod => .Mod | .pow => .Pow | .xor => .BitXor | .shr => .RShift
/-- the operators' reading, by the plain operation -/
def rBin (K : Fg) (o : Op2) : R2 := fun x y H Q => ∃ T dx dy r, PRel K T H x dx ∧ PRel K T H y dy ∧ binD o dx dy = some r ∧ Ans K T H r Q

theorem bin_sound (o : Op2) : OpR X (binaryOp (opOf o)) (rBin X.K o) := by
  intro pins s σ H x y v u Q I rx ry h
  obtain ⟨T, dx, dy, r, hx, hy, e, A⟩ := h
  unfold binD at e
  split at e
  · -- int + int
    cases p_int hx; cases p_int hy; cases e
    exact op_add pins s σ H _ _ v u Q I rx ry ⟨_, _, rfl, rfl, A.val _ _ rfl rel_int⟩
  · cases p_int hx; cases p_bl hy; cases e
    exact op_add_ib pins s σ H _ _ v u Q I rx ry ⟨_, _, rfl, rfl, A.val _ _ rfl (by unfold Rel b2i; rfl)⟩
  · obtain ⟨rfl, ox⟩ := p_str hx
    obtain ⟨rfl, oy⟩ := p_str hy
    split at e
    · rename_i hz
      cases e
      exact op_add_str pins s σ H _ _ v u Q I rx ry ⟨_, _, rfl, rfl, by rw [← line_eq]; exact hz, A.val _ _ rfl (rel_str (strOk_append ox oy))⟩
    · cases e
  · obtain ⟨a, vs, rfl, ha, ra⟩ := p_lst hx
    obtain ⟨b, us, rfl, hb, rb⟩ := p_lst hy
    split at e
    · rename_i hz
      cases e
      exact op_catL pins s σ H _ _ v u Q I rx ry ⟨a, b, vs, us, rfl, rfl, ha, hb, by rw [ra.length, rb.length, ← line_eq]; exact hz, fun p hp => A.lst p _ _ rfl hp (ra.append rb)⟩
    · cases e
  · obtain ⟨a, vs, rfl, ha, ra⟩ := p_tup hx
    obtain ⟨b, us, rfl, hb, rb⟩ := p_tup hy
    split at e
    · rename_i xs ys hz
      cases e
      have la := ra.length
      have lb := rb.length
      refine op_catA pins s σ H _ _ v u Q I rx ry ⟨a, b, vs, us, rfl, rfl, ha.sq, hb.sq, by rw [la, lb, ← line_eq]; exact hz, fun q => ?_, fun _ q => ?_, fun _ _ p hp => A.tup p _ _ rfl hp (ra.append rb)⟩
      · subst q
        have : xs = [] := List.eq_nil_of_length_eq_zero la.symm
        subst this
        exact A.val _ _ rfl (rel_tup hb rb)
      · subst q
        have : ys = [] := List.eq_nil_of_length_eq_zero lb.symm
        subst this
        exact A.val _ _ rfl (by rw [List.append_nil]; exact rel_tup ha ra)
    · cases e
  · cases p_int hx; cases p_int hy; cases e
    exact op_sub pins s σ H _ _ v u Q I rx ry ⟨_, _, rfl, rfl, A.val _ _ rfl rel_int⟩
  · cases p_int hx; cases p_int hy
    split at e
    · rename_i hz
      cases e
      exact op_mulG pins s σ H _ _ v u Q I rx ry ⟨_, _, rfl, rfl, (by unfold mulOk at hz; unfold CMulG; exact of_decide_eq_true hz), A.val _ _ rfl rel_int⟩
    · cases e
  · cases p_int hy
    obtain ⟨a, vs, rfl, ha, ra⟩ := p_tup hx
    split at e
    · rename_i xs k hz
      cases e
      obtain ⟨h1, h2, h3, h4⟩ := hz
      have la := ra.length
      refine op_repA pins s σ H _ _ v u Q I rx ry ⟨a, k, vs, rfl, rfl, ha.sq, (fun q => by subst q; rw [List.eq_nil_of_length_eq_zero la.symm] at h3; cases h3), h1, h2, by omega, fun q => ?_, fun _ p hp => A.tup p _ _ rfl hp (ra.rep _)⟩
      subst q
      refine A.val _ _ rfl ?_
      have e1 : (List.replicate (1 : Int).toNat xs).flatten = xs := by simp
      rw [e1]
      exact rel_tup ha ra
    · cases e
  · cases p_int hy
    obtain ⟨a, vs, rfl, ha, ra⟩ := p_lst hx
    split at e
    · rename_i xs k hz
      cases e
      obtain ⟨h1, h2, h3⟩ := hz
      have la := ra.length
      exact op_repL pins s σ H _ _ v u Q I rx ry ⟨a, k, vs, rfl, rfl, ha, by omega, by omega, by rw [la, ← line_eq]; exact h2, fun p hp => A.lst p _ _ rfl hp (ra.rep _)⟩
    · cases e
  · cases p_int hx; cases p_int hy
    split at e
    · rename_i hz
      cases e
      unfold divOk at hz
      rw [Bool.and_eq_true] at hz
      obtain ⟨t, rfl⟩ := rx
      obtain ⟨t', rfl⟩ := ry
      exact floordiv_int (by simpa using hz.1) ⟨.int _, H, I.tok _, ⟨_, rfl⟩, A.val _ _ rfl rel_int⟩ (.inl (PyProof.noPylong_of_log2 (by simpa using hz.2)))
    · cases e
  · cases p_int hx; cases p_int hy
    split at e
    · rename_i hz
      cases e
      exact op_modN pins s σ H _ _ v u Q I rx ry ⟨_, _, rfl, rfl, by simpa using hz, A.val _ _ rfl rel_int⟩
    · cases e
  · cases p_int hx; cases p_int hy
    split at e
    · rename_i hz
      cases e
      unfold powOk at hz
      rw [Bool.and_eq_true, Bool.and_eq_true] at hz
      exact op_pow pins s σ H _ _ v u Q I rx ry ⟨_, _, rfl, rfl, ⟨by simpa using hz.1.1, by simpa using hz.1.2, by simpa using hz.2⟩, A.val _ _ rfl rel_int⟩
    · cases e
  · cases p_int hx; cases p_int hy; cases e
    exact op_xor pins s σ H _ _ v u Q I rx ry ⟨_, _, rfl, rfl, A.val _ _ rfl rel_int⟩
  · cases p_int hx; cases p_int hy
    split at e
    · rename_i hz
      cases e
      exact op_shr pins s σ H _ _ v u Q I rx ry ⟨_, _, rfl, rfl, hz, A.val _ _ rfl rel_int⟩
    · cases e
  · cases e

/-! ### truth -/
theorem tru_of {K : Fg} {H : Hp} {v : V} {d : D} {k : Bool} (h : PRel K T H v d) (e : truthD d = some k) : TruV K v H k := by
  cases d with
  | none => cases p_non h; cases e; exact rfl
  | bool b => cases p_bl h; cases e; exact rfl
  | int i => cases p_int h; cases e; exact rfl
  | str x =>
    obtain ⟨rfl, _⟩ := p_str h
    simp only [truthD] at e
    split at e
    · rename_i hz
      cases e
      refine ⟨by rw [← line_eq]; exact hz, ?_⟩
      rw [Bool.eq_iff_iff]
      simp
    · cases e
  | list ds =>
    obtain ⟨a, vs, rfl, h1, h2⟩ := p_lst h
    cases e
    refine .inl ⟨vs, h1.sq, ?_⟩
    have := h2.length
    cases vs <;> cases ds <;> simp_all
  | tuple ds =>
    obtain ⟨a, vs, rfl, h1, h2⟩ := p_tup h
    cases e
    refine .inr (.inl ⟨vs, h1.sq, ?_⟩)
    have := h2.length
    cases vs <;> cases ds <;> simp_all
  | dict _ => cases e

/-! ### comparisons -/
def cmpOf : Cmp → CmpOp
  | .eq => .Eq | .ne => .NotEq | .lt => .Lt | .le => .LtE | .gt => .Gt | .ge => .GtE | .iss => .Is | .isn => .IsNot | .inn => .In | .nin => .NotIn
theorem str_one {x : Str} {c : Nat} (h : x.cps.toList = [c]) : x = ⟨#[c]⟩ := by
  obtain ⟨⟨x⟩⟩ := x
  have : x = [c] := h
  subst this
  rfl
theorem depth_scal {d : D} (h : scal d = true) : d.depth ≤ 1 := by
  cases d <;> first | (cases h; done) | (simp [PyData.depth])
theorem eqOk_room {a b : D} (h : eqOk a b = true) : min a.depth b.depth ≤ 64 := by
  unfold eqOk at h
  simp only [Bool.or_eq_true, decide_eq_true_eq] at h
  rcases h with ((h | h) | h) | h
  · have := depth_scal h; omega
  · have := depth_scal h; omega
  · omega
  · omega
theorem intsD_some : ∀ {ds : List D} {ns : List Int}, intsD ds = some ns → ds = ns.map .int
  | [], ns, h => by cases h; rfl
  | .int i :: r, ns, h => by
    unfold intsD at h
    cases e : intsD r with
    | none => rw [e] at h; cases h
    | some ms => rw [e] at h; cases h; rw [intsD_some e]; rfl
  | .none :: r, ns, h => by cases h
  | .bool _ :: r, ns, h => by cases h
  | .str _ :: r, ns, h => by cases h
  | .list _ :: r, ns, h => by cases h
  | .tuple _ :: r, ns, h => by cases h
  | .dict _ :: r, ns, h => by cases h
theorem lexD_eq : ∀ (a b : List Int), lexD a b = HT.lexLt a b
  | [], [] => rfl
  | [], _ :: _ => rfl
  | _ :: _, [] => rfl
  | x :: xs, y :: ys => by
    rw [HT.lexLt_cons]
    unfold lexD
    rw [lexD_eq xs ys]
theorem dpl {K : Fg} {H : Hp} {v : V} {ds : List D} (h : PRel K T H v (.list ds)) : PyData.canLayAll0 ds = true := by
  have := (h.dp).2
  unfold PyData.canLay0 at this
  exact this
theorem dpt {K : Fg} {H : Hp} {v : V} {ds : List D} (h : PRel K T H v (.tuple ds)) : PyData.canLayAll0 ds = true := by
  have := (h.dp).2
  unfold PyData.canLay0 at this
  exact this
theorem isNone_rel {K : Fg} {H : Hp} {v : V} {d : D} (h : PRel K T H v d) : decide (v = .non) = isNoneD d := by
  cases d with
  | none => cases p_non h; rfl
  | bool b => cases p_bl h; rfl
  | int b => cases p_int h; rfl
  | str b => obtain ⟨rfl, _⟩ := p_str h; rfl
  | list ds => obtain ⟨a, vs, rfl, _⟩ := p_lst h; rfl
  | tuple ds => obtain ⟨a, vs, rfl, _⟩ := p_tup h; rfl
  | dict kvs => have h' : Rel K T H v (.dict kvs) := h; unfold Rel at h'; exact h'.elim
theorem isBool_val {K : Fg} {H : Hp} {v : V} {d : D} {u : Value} {b : Bool} (h : PRel K T H v d) (r : RelV v u) : plainIs u (.bool b) = true ∧ (isBoolD b d = true → u = .bool b) ∧ (isBoolD b d = false → u ≠ .bool b) := by
  cases d with
  | none => cases p_non h; cases r; exact ⟨rfl, fun z => (by cases z), fun _ z => (by cases z)⟩
  | bool k =>
    cases p_bl h; cases r
    refine ⟨rfl, fun z => ?_, fun z q => ?_⟩
    · have : k = b := by simpa [isBoolD] using z
      rw [this]
    · cases q; simp [isBoolD] at z
  | int i => cases p_int h; obtain ⟨t, rfl⟩ := r; exact ⟨rfl, fun z => (by cases z), fun _ z => (by cases z)⟩
  | str x => obtain ⟨rfl, _⟩ := p_str h; obtain ⟨t, rfl⟩ := r; exact ⟨rfl, fun z => (by cases z), fun _ z => (by cases z)⟩
  | list ds => obtain ⟨a, vs, rfl, _⟩ := p_lst h; cases r; exact ⟨rfl, fun z => (by cases z), fun _ z => (by cases z)⟩
  | tuple ds => obtain ⟨a, vs, rfl, _⟩ := p_tup h; cases r; exact ⟨rfl, fun z => (by cases z), fun _ z => (by cases z)⟩
  | dict kvs => have h' : Rel K T H v (.dict kvs) := h; unfold Rel at h'; exact h'.elim
theorem cmp_sound (hu : X.A.units + 100 < cLine) (o : Cmp) : OpR X (compareOp (cmpOf o)) (fun x y H Q => ∃ T dx dy r, PRel X.K T H x dx ∧ PRel X.K T H y dy ∧ cmpD o dx dy = some r ∧ Q (.bl r) H) := by
  intro pins s σ H x y v u Q I rx ry h
  obtain ⟨T, dx, dy, r, hx, hy, e, q⟩ := h
  obtain ⟨as, rdx⟩ := Dp.reads I dx x v hx.dp.1 rx
  obtain ⟨bs, rdy⟩ := Dp.reads I dy y u hy.dp.1 ry
  unfold cmpD at e
  split at e
  · split at e
    · rename_i ok
      cases e
      exact SeqAt.compareEq_reads rdx rdy hx.dp.2 hy.dp.2 (by have := eqOk_room ok; omega) ⟨.bl _, H, I, rfl, q⟩
    · cases e
  · split at e
    · rename_i ok
      cases e
      exact SeqAt.compareNe_reads rdx rdy hx.dp.2 hy.dp.2 (by have := eqOk_room ok; omega) ⟨.bl _, H, I, rfl, q⟩
    · cases e
  · unfold ltD at e
    split at e
    · cases p_int hx; cases p_int hy; cases e
      exact op_lt pins s σ H _ _ v u Q I rx ry ⟨_, _, rfl, rfl, q⟩
    · obtain ⟨rfl, _⟩ := p_str hx; obtain ⟨rfl, _⟩ := p_str hy; cases e
      exact op_lt_str pins s σ H _ _ v u Q I rx ry ⟨_, _, rfl, rfl, q⟩
    · split at e
      · rename_i a b ea eb
        cases e
        obtain ⟨p, vs, rfl, hp, rp⟩ := p_tup hx
        obtain ⟨p', vs', rfl, hp', rp'⟩ := p_tup hy
        have e1 := intsD_some ea
        have e2 := intsD_some eb
        subst e1 e2
        have e3 := rp.ints
        have e4 := rp'.ints
        subst e3 e4
        exact op_ltT (by omega) pins s σ H _ _ v u Q I rx ry ⟨_, _, _, _, rfl, rfl, hp.sq, hp'.sq, by rw [← lexD_eq]; exact q⟩
      · cases e
    · cases e
  · unfold gtD at e
    split at e
    · cases p_int hx; cases p_int hy; cases e
      exact op_gt pins s σ H _ _ v u Q I rx ry ⟨_, _, rfl, rfl, q⟩
    · obtain ⟨rfl, _⟩ := p_str hx; obtain ⟨rfl, _⟩ := p_str hy; cases e
      exact op_gt_str pins s σ H _ _ v u Q I rx ry ⟨_, _, rfl, rfl, q⟩
    · cases e
  · unfold leD at e
    split at e
    · cases p_int hx; cases p_int hy; cases e
      exact op_le pins s σ H _ _ v u Q I rx ry ⟨_, _, rfl, rfl, q⟩
    · obtain ⟨rfl, _⟩ := p_str hx; obtain ⟨rfl, _⟩ := p_str hy; cases e
      exact op_le_str pins s σ H _ _ v u Q I rx ry ⟨_, _, rfl, rfl, q⟩
    · cases e
  · unfold leD at e
    split at e
    · cases p_int hx; cases p_int hy; cases e
      exact op_ge pins s σ H _ _ v u Q I rx ry ⟨_, _, rfl, rfl, q⟩
    · obtain ⟨rfl, _⟩ := p_str hx; obtain ⟨rfl, _⟩ := p_str hy; cases e
      exact op_ge_str pins s σ H _ _ v u Q I rx ry ⟨_, _, rfl, rfl, q⟩
    · cases e
  · cases e
    cases p_non hy
    exact op_isN pins s σ H _ _ v u Q I rx ry ⟨rfl, by rw [isNone_rel hx]; exact q⟩
  · cases e
    cases p_non hy
    exact op_notN pins s σ H _ _ v u Q I rx ry ⟨rfl, by rw [isNone_rel hx]; exact q⟩
  · rename_i a b
    cases e
    cases p_bl hy
    cases ry
    obtain ⟨pl, h1, h2⟩ := isBool_val (b := b) hx rx
    cases ek : isBoolD b dx with
    | true =>
      cases h1 ek
      exact wpAny_is_self pl ⟨.bl true, H, I, rfl, by rw [ek] at q; exact q⟩
    | false => exact wpAny_is_other pl (h2 ek) ⟨.bl false, H, I, rfl, by rw [ek] at q; exact q⟩
  · rename_i a b
    cases e
    cases p_bl hy
    cases ry
    obtain ⟨pl, h1, h2⟩ := isBool_val (b := b) hx rx
    cases ek : isBoolD b dx with
    | true =>
      cases h1 ek
      exact wpAny_isNot_self pl ⟨.bl false, H, I, rfl, by rw [ek] at q; exact q⟩
    | false => exact wpAny_isNot_other pl (h2 ek) ⟨.bl true, H, I, rfl, by rw [ek] at q; exact q⟩
  · unfold inD at e
    split at e
    · split at e
      · rename_i ds ok
        cases e
        refine SeqAt.in_list_reads rdy rdx (dpl hy) hx.dp.2 ?_ ⟨.bl _, H, I, rfl, q⟩
        have := eqOk_room ok
        simp only [PyData.depth] at this
        omega
      · cases e
    · split at e
      · rename_i ds ok
        cases e
        refine SeqAt.in_tuple_reads rdy rdx (dpt hy) hx.dp.2 ?_ ⟨.bl _, H, I, rfl, q⟩
        have := eqOk_room ok
        simp only [PyData.depth] at this
        omega
      · cases e
    · split at e
      · rename_i x c ec
        cases e
        obtain ⟨rfl, _⟩ := p_str hx; obtain ⟨rfl, _⟩ := p_str hy
        cases str_one ec
        exact op_in_sign pins s σ H _ _ v u Q I rx ry ⟨c, _, rfl, rfl, q⟩
      · cases e
    · cases e
  · rename_i a b
    cases ei : inD dx dy with
    | none => rw [ei] at e; cases e
    | some k =>
      rw [ei] at e
      cases e
      unfold inD at ei
      split at ei
      · split at ei
        · rename_i ds ok
          cases ei
          refine SeqAt.notIn_list_reads rdy rdx (dpl hy) hx.dp.2 ?_ ⟨.bl _, H, I, rfl, q⟩
          have := eqOk_room ok
          simp only [PyData.depth] at this
          omega
        · cases ei
      · split at ei
        · rename_i ds ok
          cases ei
          refine SeqAt.notIn_tuple_reads rdy rdx (dpt hy) hx.dp.2 ?_ ⟨.bl _, H, I, rfl, q⟩
          have := eqOk_room ok
          simp only [PyData.depth] at this
          omega
        · cases ei
      · split at ei
        · rename_i x c ec
          cases ei
          obtain ⟨rfl, _⟩ := p_str hx; obtain ⟨rfl, _⟩ := p_str hy
          cases str_one ec
          exact op_notIn_sign pins s σ H _ _ v u Q I rx ry ⟨c, _, rfl, rfl, q⟩
        · cases ei
      · cases ei
  · cases e
end
end Den
set_option autoImplicit false
set_option maxRecDepth 100000
set_option maxHeartbeats 4000000
/-! Den, part D0: sum, max, min of a tuple of ints; list(reversed(a list)). -/
namespace Den
open PySem PySem.Spec PyProof.Rows L2 GxR RT
section
variable {prog : Program} {w : World} {A : Around} {E : Value → Shared → Prop} {s : Shared} {l : Addr} {xs : Array (Int × Tok)}
theorem old_keptT {h h' : Heap} {o' : Obj} (hk : ∀ (b : Nat) (o : Obj), b ∉ [h.objs.size] → (h.push o').get? b = some o → h'.get? b = some o) : ∀ (b : Nat) (o : Obj), h.get? b = some o → h'.get? b = some o := fun b o e =>
  hk b o (fun z => by
    have := Heap.lt_size e
    rw [List.mem_singleton.mp z] at this
    exact Nat.lt_irrefl _ this) (Heap.get?_push_of_some _ e)
theorem iter_intTup {Q : Value → Shared → Prop} (hl : s.heap.IsTuple l (intItems xs))
    (h : ∀ s₂ : Shared, s₂ = { s with heap := s.heap.push { cls := .type "tuple_iterator", data := .fields #[.ref l, .int 0 0] } } →
      (s₂.heap.IsTupleIter s.heap.objs.size l 0 ∧ s₂.heap.IsTuple l (intItems xs)) → (∀ b ∈ [s.heap.objs.size, l], b < s₂.heap.objs.size) → l ≠ s.heap.objs.size → Q (.ref s.heap.objs.size) s₂) :
    wpAny (model prog w) A (pyIter (.ref l)) Q E s := by
  have hlt : l < s.heap.objs.size := by obtain ⟨_, e, _⟩ := hl; exact Heap.lt_size e
  have hl2 : (s.heap.push { cls := .type "tuple_iterator", data := .fields #[.ref l, .int 0 0] }).IsTuple l (intItems xs) := by
    obtain ⟨o, e, r⟩ := hl
    exact ⟨o, Heap.get?_push_of_some _ e, r⟩
  refine wpAny_pyIter_tuple hl (h _ rfl ⟨⟨_, Heap.get?_push_size _ rfl, rfl, rfl⟩, hl2⟩ (fun b hb => ?_) (Nat.ne_of_lt hlt))
  show b < (s.heap.push _).objs.size
  rw [Heap.size_push]
  rcases List.mem_cons.mp hb with rfl | hb
  · exact Nat.lt_succ_self _
  · rcases List.mem_cons.mp hb with rfl | hb
    · exact Nat.lt_succ_of_lt hlt
    · cases hb
theorem sum_intTup {Q : Value → Shared → Prop} (hh : A.handled = none) (hl : s.heap.IsTuple l (intItems xs))
    (h : ∀ h' tk t', (∀ b o, s.heap.get? b = some o → h'.get? b = some o) → Q (.int (preSum (numAt xs) xs.size) t') { s with heap := h', toks := tk }) :
    wpAny (model prog w) A (call (.builtin "sum") [.ref l]) Q E s := by
  refine call_sum_walkG (iter_intTup hl fun s₂ e st hfp hlI => ?_)
  subst e
  refine ⟨_, _, _, _, _, _, numAt xs, rfl, Walks.tuple (A := A.in1) hh _ l hlI (intItems xs), st, hfp, (fun _ _ => intItems_at), fun h' tk t' hk => ?_⟩
  have := h h' tk t' (old_keptT hk)
  simpa [intItems] using this
theorem max_intTup {Q : Value → Shared → Prop} (hh : A.handled = none) (hl : s.heap.IsTuple l (intItems xs)) (hne : 0 < xs.size)
    (h : ∀ v h' tk, (intItems xs)[argBest (fun i j => decide (numAt xs i > numAt xs j)) (xs.size - 1)]? = some v → (∀ b o, s.heap.get? b = some o → h'.get? b = some o) → Q v { s with heap := h', toks := tk }) :
    wpAny (model prog w) A (call (.builtin "max") [.ref l]) Q E s := by
  refine call_max_walk (iter_intTup hl fun s₂ e st hfp hlI => ?_)
  subst e
  refine ⟨_, _, _, _, _, _, _, rfl, Walks.tuple (A := A.in1) hh _ l hlI (intItems xs), st, hfp, by simpa [intItems] using hne, CmpOf.ints_gt (numAt xs) (fun _ _ => intItems_at), fun v h' tk hP hk => ?_⟩
  exact h v h' tk (by simpa [intItems] using hP) (old_keptT hk)
theorem min_intTup {Q : Value → Shared → Prop} (hh : A.handled = none) (hl : s.heap.IsTuple l (intItems xs)) (hne : 0 < xs.size)
    (h : ∀ v h' tk, (intItems xs)[argBest (fun i j => decide (numAt xs i < numAt xs j)) (xs.size - 1)]? = some v → (∀ b o, s.heap.get? b = some o → h'.get? b = some o) → Q v { s with heap := h', toks := tk }) :
    wpAny (model prog w) A (call (.builtin "min") [.ref l]) Q E s := by
  refine call_min_walk (iter_intTup hl fun s₂ e st hfp hlI => ?_)
  subst e
  refine ⟨_, _, _, _, _, _, _, rfl, Walks.tuple (A := A.in1) hh _ l hlI (intItems xs), st, hfp, by simpa [intItems] using hne, CmpOf.ints_lt (numAt xs) (fun _ _ => intItems_at), fun v h' tk hP hk => ?_⟩
  exact h v h' tk (by simpa [intItems] using hP) (old_keptT hk)
end
section
variable {prog : Program} {w : World} {A : Around} {E : Value → Shared → Prop} {s : Shared} {l : Addr} {its : List Value} {ns : List Int} {Q : Value → Shared → Prop}
theorem sum_rawT (hh : A.handled = none) (hl : s.heap.IsTuple l its.toArray) (hi : IntsAre its ns)
    (h : ∀ h' tk t', (∀ b o, s.heap.get? b = some o → h'.get? b = some o) → Q (.int ns.sum t') { s with heap := h', toks := tk }) : wpAny (model prog w) A (call (.builtin "sum") [.ref l]) Q E s := by
  obtain ⟨xs, e⟩ := hi.allInts.items
  have hn : numsOf (intItems xs).toList = ns := by rw [← e]; exact hi.numsOf
  rw [nums_intItems] at hn
  rw [e] at hl
  refine sum_intTup hh hl fun h' tk t' hk => ?_
  have := h h' tk t' hk
  rw [preSum_eq, List.take_of_length_le (by simp), hn]; exact this
theorem max_rawT (hh : A.handled = none) (hl : s.heap.IsTuple l its.toArray) (hi : IntsAre its ns) (hne : 0 < ns.length)
    (h : ∀ h' tk M t', (∀ b o, s.heap.get? b = some o → h'.get? b = some o) → M ∈ ns → (∀ a, a ∈ ns → a ≤ M) → Q (.int M t') { s with heap := h', toks := tk }) : wpAny (model prog w) A (call (.builtin "max") [.ref l]) Q E s := by
  obtain ⟨xs, e⟩ := hi.allInts.items
  have hn : numsOf (intItems xs).toList = ns := by rw [← e]; exact hi.numsOf
  rw [nums_intItems] at hn
  subst hn
  rw [e] at hl
  have hsz : 0 < xs.size := by simpa using hne
  refine max_intTup hh hl hsz fun v h' tk hv hk => ?_
  obtain ⟨t, rfl⟩ := intItems_at hv
  obtain ⟨h1, h2⟩ := argBest_gt (numAt xs) (xs.size - 1)
  refine h h' tk _ t hk ?_ fun a ha => ?_
  · rw [numAt_eq]; exact PySem.getD_mem (by rw [List.length_map, Array.length_toList]; omega)
  · obtain ⟨j, hj, rfl⟩ := mem_getD ha
    rw [List.length_map, Array.length_toList] at hj
    rw [← numAt_eq]; exact h2 j (by omega)
theorem min_rawT (hh : A.handled = none) (hl : s.heap.IsTuple l its.toArray) (hi : IntsAre its ns) (hne : 0 < ns.length)
    (h : ∀ h' tk M t', (∀ b o, s.heap.get? b = some o → h'.get? b = some o) → M ∈ ns → (∀ a, a ∈ ns → M ≤ a) → Q (.int M t') { s with heap := h', toks := tk }) : wpAny (model prog w) A (call (.builtin "min") [.ref l]) Q E s := by
  obtain ⟨xs, e⟩ := hi.allInts.items
  have hn : numsOf (intItems xs).toList = ns := by rw [← e]; exact hi.numsOf
  rw [nums_intItems] at hn
  subst hn
  rw [e] at hl
  have hsz : 0 < xs.size := by simpa using hne
  refine min_intTup hh hl hsz fun v h' tk hv hk => ?_
  obtain ⟨t, rfl⟩ := intItems_at hv
  obtain ⟨h1, h2⟩ := argBest_lt (numAt xs) (xs.size - 1)
  refine h h' tk _ t hk ?_ fun a ha => ?_
  · rw [numAt_eq]; exact PySem.getD_mem (by rw [List.length_map, Array.length_toList]; omega)
  · obtain ⟨j, hj, rfl⟩ := mem_getD ha
    rw [List.length_map, Array.length_toList] at hj
    rw [← numAt_eq]; exact h2 j (by omega)
end
section
variable {X : Cx}
def rSumT (K : Fg) : List V → Hp → VK → Prop := fun vs H Q => ∃ (a : Addr) (ns : List Int), vs = [V.ref a] ∧ SqT K H a (ns.map V.int) ∧ Q (.int ns.sum) H
def rMaxT (K : Fg) : List V → Hp → VK → Prop := fun vs H Q => ∃ (a : Addr) (ns : List Int), vs = [V.ref a] ∧ SqT K H a (ns.map V.int) ∧ 0 < ns.length ∧ ∀ m, m ∈ ns → (∀ y, y ∈ ns → y ≤ m) → Q (.int m) H
def rMinT (K : Fg) : List V → Hp → VK → Prop := fun vs H Q => ∃ (a : Addr) (ns : List Int), vs = [V.ref a] ∧ SqT K H a (ns.map V.int) ∧ 0 < ns.length ∧ ∀ m, m ∈ ns → (∀ y, y ∈ ns → m ≤ y) → Q (.int m) H
theorem cr_sumT (hc : X.calm = true) : CallR X (.builtin "sum") (rSumT X.K) := by
  intro pins s σ H vs us Q I r h
  obtain ⟨a, ns, rfl, hs, q⟩ := h
  obtain ⟨its, rv, hl, _⟩ := I.tuple hs
  rw [Vals.ref1 r]
  exact sum_rawT (I.ok.hd hc) hl rv.ints fun h' tk t' hk => ⟨.int _, H, I.kept hk, ⟨_, rfl⟩, q⟩
theorem cr_maxT (hc : X.calm = true) : CallR X (.builtin "max") (rMaxT X.K) := by
  intro pins s σ H vs us Q I r h
  obtain ⟨a, ns, rfl, hs, hne, q⟩ := h
  obtain ⟨its, rv, hl, _⟩ := I.tuple hs
  rw [Vals.ref1 r]
  exact max_rawT (I.ok.hd hc) hl rv.ints hne fun h' tk m t' hk h1 h2 => ⟨.int _, H, I.kept hk, ⟨_, rfl⟩, q m h1 h2⟩
theorem cr_minT (hc : X.calm = true) : CallR X (.builtin "min") (rMinT X.K) := by
  intro pins s σ H vs us Q I r h
  obtain ⟨a, ns, rfl, hs, hne, q⟩ := h
  obtain ⟨its, rv, hl, _⟩ := I.tuple hs
  rw [Vals.ref1 r]
  exact min_rawT (I.ok.hd hc) hl rv.ints hne fun h' tk m t' hk h1 h2 => ⟨.int _, H, I.kept hk, ⟨_, rfl⟩, q m h1 h2⟩
end
/-! ### list(reversed(a list)) -/
section
variable {prog : Program} {w : World} {A : Around} {E : Value → Shared → Prop} {s : Shared}
theorem call_list_rev {it l : Addr} {items : Array Value} {Q : Value → Shared → Prop} (hh : A.handled = none) (hit : s.heap.IsRevIter it l ((items.size : Int) - 1)) (hl : s.heap.IsList l items) (hne : l ≠ it) (hn : items.size ≤ sizeLine)
    (hQ : ∀ (h' : Heap) (tk : Nat) (acc : Array Value) (c' : Nat), (∀ b o, b ≠ it → s.heap.get? b = some o → h'.get? b = some o) → h'.get? s.heap.objs.size = some { cls := .type "list", dict := none, data := .seq acc c', slots := #[] } →
      ItemsOf (fun i v => items[items.size - 1 - i]? = some v) acc items.size → Q (.ref s.heap.objs.size) { s with heap := h', toks := tk }) :
    wpAny (model prog w) A (call (.type "list") [.ref it]) Q E s := by
  obtain ⟨oi, hoi, _⟩ := id hit
  obtain ⟨ol, hol, _⟩ := id hl
  have hSi : s.heap.objs.size ≠ it := Nat.ne_of_gt (Heap.lt_size hoi)
  have hSl : s.heap.objs.size ≠ l := Nat.ne_of_gt (Heap.lt_size hol)
  have hSf : s.heap.objs.size ∉ [it, l] := by simp only [List.mem_cons, List.not_mem_nil, or_false, not_or]; exact ⟨hSi, hSl⟩
  refine callType_codes (Q₁ := fun obj s₁ => obj = .ref s.heap.objs.size ∧ s₁ = { s with heap := s.heap.push { cls := .type "list", data := .seq #[] } }) PySem.F.called_list (PySem.F.typeCall_list_1 _) PySem.F.entry_list_init
    (code_list_new _ ⟨rfl, rfl⟩) fun obj s₁ h₁ => ?_
  obtain ⟨rfl, rfl⟩ := h₁
  have hS : (s.heap.push { cls := .type "list", data := .seq #[] }).get? s.heap.objs.size = some { cls := .type "list", data := .seq #[] } := Heap.get?_push_size _ rfl
  refine ⟨⟨_, hS, rfl⟩, PySem.F.args_list_init_2 _ _, ?_⟩
  show wpAny _ A.in1.in1 (do let old ← Builtin.List.listItems (.ref s.heap.objs.size); Builtin.List.listUpdate (.ref s.heap.objs.size) (fun _ => #[]); letGo old.toList.reverse; Builtin.List.listExtendWith (.ref s.heap.objs.size) (.ref it) .none) _ _ _
  refine wpAny_bind ?_
  unfold Builtin.List.listItems
  refine wpAny_bind (wpAny_seqItems hS rfl (wpAny_pure ?_))
  show wpAny _ A.in1.in1 (updateSeq s.heap.objs.size (fun _ => #[]) >>= fun _ => letGo (#[] : Array Value).toList.reverse >>= fun _ => Builtin.List.listExtendWith (.ref s.heap.objs.size) (.ref it) .none) _ _ _
  refine wpAny_bind (wpAny_updateSeq hS rfl ?_)
  have hS2 := Heap.get?_update_self (Obj.mapSeq (fun _ => (#[] : Array Value))) hS rfl
  refine wpAny_bind (wpAny_letGo ?_)
  have k2 : ∀ b o, b ≠ s.heap.objs.size → s.heap.get? b = some o → ((s.heap.push { cls := .type "list", data := .seq #[] }).update s.heap.objs.size (Obj.mapSeq (fun _ => (#[] : Array Value)))).get? b = some o := fun b o hb e =>
    (Heap.get?_update_other _ _ (Ne.symm hb)).trans (Heap.get?_push_of_some _ e)
  have hit1 : ((s.heap.push { cls := .type "list", data := .seq #[] }).update s.heap.objs.size (Obj.mapSeq (fun _ => (#[] : Array Value)))).IsRevIter it l ((items.size : Int) - 1) := hit.at fun o e => k2 _ o (Ne.symm hSi) e
  have hl1 : ((s.heap.push { cls := .type "list", data := .seq #[] }).update s.heap.objs.size (Obj.mapSeq (fun _ => (#[] : Array Value)))).IsList l items := by
    obtain ⟨o, e, r⟩ := hl
    exact ⟨o, k2 _ o (Ne.symm hSl) e, r⟩
  have W := (Walks.listRev (prog := prog) (w := w) (A := A.in1.in1) hh it l hne items).toS
  have hT : ({ s with heap := (s.heap.push { cls := .type "list", data := .seq #[] }).update s.heap.objs.size (Obj.mapSeq (fun _ => (#[] : Array Value))) } : Shared).TypeIs (.ref it) "list_reverseiterator" := Heap.IsRevIter.typeIs (s := { s with heap := _ }) hit1
  have h1 : Builtin.List.listSameRef (.ref s.heap.objs.size) (.ref it) = false := by simp [Builtin.List.listSameRef, hSi]
  unfold Builtin.List.listExtendWith
  refine wpAny_bind (wpAny_typeOf hT ?_)
  rw [if_neg (by rw [h1]; decide)]
  refine wpAny_bind (wpAny_pyIter_revIter (s := { s with heap := _ }) hit1 ?_)
  refine wpAny_bind (wpAny_holding ?_)
  unfold Builtin.List.listLengthHint
  refine wpAny_bind (wpAny_specialOf hT nolen_lri ?_)
  show wpAny _ A.in1.in1 (specialOf (Value.ref it) (Str.ofString "__length_hint__") >>= _) _ _ _
  refine wpAny_bind (wpAny_specialOf hT hint_lri ?_)
  generalize hid : ("list_reverseiterator.__length_hint__" : String) = id0
  wp_delta
  rw [show splitId id0 = some ("list_reverseiterator", "__length_hint__") from by subst hid; decide +kernel]
  subst hid
  refine wpAny_bind (wpAny_isInstance (b := true) hT (by rw [isSubtype_type]; kernel_rfl) ?_)
  refine wpAny_pure ?_
  rw [if_neg (by decide)]
  have e0 : ((items.size : Nat) : Int) - 1 - ((0 : Nat) : Int) = (items.size : Int) - 1 := by omega
  have hS3 : ((s.heap.push { cls := .type "list", data := .seq #[] }).update s.heap.objs.size (Obj.mapSeq (fun _ => (#[] : Array Value)))).get? s.heap.objs.size = some { cls := .type "list", dict := none, data := .seq #[] _, slots := #[] } := hS2
  refine wpAny_pure ⟨plainId_quiet PySem.F.plain_extend_loop _, codeAny_extend_loopS W hn _ hSf _ items.size 0 _ _ _ rfl (Nat.zero_le _) ⟨Nat.zero_le _, by rw [e0]; exact hit1, hl1⟩ hS3 (ItemsOf.nil _) fun s' acc' c' hm hS' hacc => ?_⟩
  refine ⟨rfl, ?_⟩
  rw [Moved.eq_with hm]
  refine hQ s'.heap s'.toks acc' c' (fun b o hb e => ?_) hS' hacc
  have hbS : b ≠ s.heap.objs.size := Nat.ne_of_lt (Heap.lt_size e)
  refine hm.heap b o (fun hmem => ?_) (k2 b o hbS e)
  rcases List.mem_cons.mp hmem with e' | hmem
  · exact hbS e'
  · exact hb (List.mem_singleton.mp hmem)
end
section
variable {X : Cx}
def tLstRev (K : Fg) (te : TE) : TE := fun σ H Q => te σ H fun v H1 => ∃ (a : Addr) (xs : List V), v = .ref a ∧ SqL K H1 a xs ∧ ∀ q, H1 q = none → Q (.ref q) (upd H1 q (.lst xs.reverse))
theorem pe_lstRev {e : Expr} {te : TE} {p p2 pos pos2 : Pos} (hc : X.calm = true) (hg : Gl X "list") (hm : X.mg "list" = none) (hg2 : Gl X "reversed") (hm2 : X.mg "reversed" = none) (he : PE X e te)
    (hs : starEach [e] X.env = (false, eval e X.env) :: starEach [] X.env) :
    PE X (.Call (.Name "list" p) [.Call (.Name "reversed" p2) [e] [] pos2] [] pos) (tLstRev X.K te) := by
  have hs2 : starEach [.Call (.Name "reversed" p2) [e] [] pos2] X.env = (false, eval (.Call (.Name "reversed" p2) [e] [] pos2) X.env) :: starEach [] X.env := rfl
  refine ⟨fun pins s σ H Q I h => ?_⟩
  refine Call_ (ld_blt I hg hm boot_list (PyProof.Rows.callWith_type1 (args_cons (Call_ (ld_blt I hg2 hm2 PyProof.Rows.boot_reversed (PyProof.Rows.callWith_type1 (args_cons (thn (he.run pins s σ H _ I h) fun u s1 ⟨v, H1, I1, r1, q1⟩ => args_nil ?_) hs) hs rfl))) hs2) hs2 rfl))
  obtain ⟨a, xs, ev, hq, q⟩ := q1
  subst ev
  obtain rfl : u = Value.ref a := r1
  obtain ⟨its, rv, p', hz⟩ := I1.list hq
  refine call_reversed_list p'.isList (args_nil ?_)
  have k0 : ∀ b o, s1.heap.get? b = some o → (s1.heap.push (revObj a ((its.toArray.size : Int) - 1))).get? b = some o := fun b o e => Heap.get?_push_of_some _ e
  have I2 : Inv X pins σ H1 { s1 with heap := s1.heap.push (revObj a ((its.toArray.size : Int) - 1)) } := I1.kept (t' := s1.toks) k0
  obtain ⟨f0, f1, f2, f3, f4, f5⟩ := I1.fpOk (H' := H1) (b := s1.heap.objs.size) (Nat.le_refl _) (I1.hok.fresh (Nat.le_refl _))
  have hl := p'.isList
  obtain ⟨ol, hol, _⟩ := id hl
  have hne : a ≠ s1.heap.objs.size := Nat.ne_of_lt (Heap.lt_size hol)
  have hn : its.toArray.size ≤ sizeLine := by rw [List.size_toArray, ← rv.length]; exact hz
  refine call_list_rev (s := { s1 with heap := s1.heap.push (revObj a ((its.toArray.size : Int) - 1)) }) (I1.ok.hd hc) ⟨_, Heap.get?_push_size _ rfl, rfl, rfl⟩ (hl.push _) hne hn fun h' tk acc c' hk hS hi => ?_
  have sz : (s1.heap.push (revObj a ((its.toArray.size : Int) - 1))).objs.size = s1.heap.objs.size + 1 := Heap.size_push ..
  have nS : s1.heap.objs.size + 1 ≠ s1.heap.objs.size := Nat.succ_ne_self _
  -- the new list is laid amid the iterator's turning
  have I3 : Inv X pins σ H1 { s1 with heap := h', toks := tk } := I2.turned (t' := tk) (fun b o hb e => hk b o hb e) f0 f1 f3 f4 f5
  rw [sz] at hS
  have hfree : H1 (s1.heap.objs.size + 1) = none := I1.hok.fresh (Nat.le_succ _)
  rw [sz]
  refine ⟨.ref (s1.heap.objs.size + 1), upd H1 (s1.heap.objs.size + 1) (.lst xs.reverse), ?_, rfl, q _ hfree⟩
  have J := I2.drained (sc := { s1 with heap := s1.heap.push (revObj a ((its.toArray.size : Int) - 1)) }) (s' := { s1 with heap := h', toks := tk }) (ex := [s1.heap.objs.size]) (S := s1.heap.objs.size + 1) (acc := acc) (c := c') (out := xs.reverse) (H' := H1)
    (by rw [sz]; exact Nat.le_refl _) (by rw [List.length_reverse]; exact hz) hS (vals_rev rv hi) (fun b hb => by rw [List.mem_singleton.mp hb]; exact ⟨f3, f1, f4, f5⟩) rfl I1.bare
    ⟨fun b o e n hb hx => hk b o (fun z => hx (by rw [z]; exact List.mem_singleton.mpr rfl)) e, fun b o e n hb hx => ⟨o.slots, hk b o (fun z => hx (by rw [z]; exact List.mem_singleton.mpr rfl)) e⟩, fun _ _ _ n _ => n, fun b o e hx => ⟨o, hk b o (fun z => hx (by rw [z]; exact List.mem_singleton.mpr rfl)) e⟩, fun _ _ e => e, fun _ _ _ e => e, fun b ps e => ⟨#[], by rw [e]; simp⟩⟩ I3.hok hfree
  exact J
end
end Den
set_option autoImplicit false
set_option maxRecDepth 100000
set_option maxHeartbeats 4000000
/-! Den, part D1: sorted of a list of tuples of ints, of any length and sign. -/
namespace Den
open PySem PySem.Spec PyProof.Rows L2 GxR
section
variable {prog : Program} {w : World} {A : Around} {s : Shared}
theorem lexD_nil {xs : List Int} : lexD xs [] = false := by cases xs <;> rfl
theorem lex_k {Q : Bool → Shared → Prop} {b : Bool} : ∀ {xs ys : List Value} {ns ms : List Int} (i : Nat) (fin : Bool), IntsAre xs ns → IntsAre ys ms → fin = decide (xs.length < ys.length) → Q (lexD ns ms) s → W.KatLex prog w A b fin Q (xs.zip ys) i s
  | [], [], ns, ms, i, fin, h1, h2, hf, q => by
    cases h1; cases h2
    subst hf
    exact W.kat_nil q
  | [], y :: ys, ns, ms, i, fin, h1, h2, hf, q => by
    cases h1; cases h2
    subst hf
    exact W.kat_nil (by simpa [lexD] using q)
  | x :: xs, [], ns, ms, i, fin, h1, h2, hf, q => by
    cases h1; cases h2
    subst hf
    exact W.kat_nil (by simpa [lexD] using q)
  | x :: xs, y :: ys, ns, ms, i, fin, h1, h2, hf, q => by
    cases h1 with
    | cons n t h1 =>
    cases h2 with
    | cons m u h2 =>
    rename_i ns ms
    refine W.kat_cons (wpAny_eqBool_int ?_)
    refine W.kat_go (fun e => W.kat_yes ?_) (fun e => W.kat_no (TS.oneLt_ints _ ?_))
    · have e' : n = m := by simpa using e
      subst e'
      refine lex_k (i + 1) fin h1 h2 (by rw [hf]; simp) ?_
      have : lexD (n :: ns) (n :: ms) = lexD ns ms := by show (if n = n then lexD ns ms else _) = _; rw [if_pos rfl]
      rw [← this]; exact q
    · have e' : ¬ n = m := by simpa using e
      have : lexD (n :: ns) (m :: ms) = decide (n < m) := by show (if n = m then _ else _) = _; rw [if_neg e']
      rw [← this]; exact q
theorem ti_cmp {vs : List Value} {k : Value → List Int} (h : ∀ v ∈ vs, TS.TupInts s.heap v (k v)) : SrtO.Cmp prog w A s (PyProof.Rows.tuples' true) (fun p => p.1 ∈ vs) (SrtO.lt2 fun v u => lexD (k v) (k u)) := by
  intro p q hp hq
  obtain ⟨a, xs, e1, t1, i1⟩ := h _ hp
  obtain ⟨b, ys, e2, t2, i2⟩ := h _ hq
  rw [e1, e2]
  obtain ⟨o1, g1, _, n1, d1⟩ := t1
  obtain ⟨o2, g2, _, n2, d2⟩ := t2
  refine W.kat_lt g1 d1 g2 d2 (lex_k 0 _ i1 i2 ?_ ⟨rfl, ?_⟩)
  · simp
  · show lexD (k p.1) (k q.1) = lexD (k p.1) (k q.1)
    rfl
theorem ti_firsts {h : Heap} {k : Value → List Int} : ∀ {vs : List Value}, (∀ v ∈ vs, TS.TupInts h v (k v) ∧ k v ≠ []) → ∃ fs, W.KatTups h vs fs ∧ fs.length = vs.length ∧ ∀ f ∈ fs, ∃ n t, f = Value.int n t
  | [], _ => ⟨[], W.KatTups.nil, rfl, fun _ z => (by cases z)⟩
  | v :: vs, hv => by
    obtain ⟨fs, q1, q2, q3⟩ := ti_firsts (fun v hv' => hv v (List.mem_cons_of_mem _ hv'))
    obtain ⟨⟨a, xs, e, ⟨o, g, c, n, d⟩, i⟩, ne⟩ := hv v (List.mem_cons_self ..)
    subst e
    generalize k (.ref a) = ns at *
    cases ns with
    | nil => exact absurd rfl ne
    | cons m ms =>
      generalize hx : xs.toList = l at i
      cases i with
      | cons _ t i =>
        rename_i vs'
        refine ⟨Value.int m t :: fs, W.KatTups.cons g c d ?_ q1, by simp [q2], fun f hf => ?_⟩
        · rw [← Array.getElem?_toList, hx]; rfl
        · rcases List.mem_cons.mp hf with z | z
          · exact ⟨m, t, z⟩
          · exact q3 f z
theorem ti_keep {h h' : Heap} {a : Addr} {v : Value} {ns : List Int} (t : TS.TupInts h v ns) (ha : ∀ o, h.get? a = some o → o.cls ≠ Value.type "tuple") (hk : ∀ b o, b ≠ a → h.get? b = some o → h'.get? b = some o) : TS.TupInts h' v ns := by
  obtain ⟨b, xs, e, ⟨o, g, c, n, d⟩, i⟩ := t
  exact ⟨b, xs, e, ⟨o, hk b o (fun z => by subst z; exact ha o g c) g, c, n, d⟩, i⟩
theorem ti_sortable {a : Addr} {vs : List Value} {k : Value → List Int} (h0 : 0 < vs.length) (h : ∀ v ∈ vs, TS.TupInts s.heap v (k v) ∧ k v ≠ []) (ha : ∀ o, s.heap.get? a = some o → o.cls ≠ Value.type "tuple") : SrtO.SortableO prog w A s a vs fun v u => lexD (k v) (k u) := by
  intro h' hk
  have h2 : ∀ v ∈ vs, TS.TupInts h' v (k v) ∧ k v ≠ [] := fun v hv => ⟨ti_keep (h v hv).1 ha hk, (h v hv).2⟩
  refine ⟨PyProof.Rows.tuples' true, fun Q E q => ?_, ti_cmp (fun v hv => (h2 v hv).1)⟩
  obtain ⟨fs, f1, f2, f3⟩ := ti_firsts h2
  refine W.kat_kind (T := .type "int") f1 (by omega) (fun v hv => ?_) rfl q
  obtain ⟨n, t, rfl⟩ := f3 v hv
  exact fun A Q E s' _ q => wpAny_typeOf (typeIs_int s' n t) q
theorem lexD_asym : ∀ (a b : List Int), lexD a b = true → lexD b a = false
  | [], [], h => by cases h
  | [], _ :: _, _ => rfl
  | _ :: _, [], h => by cases h
  | x :: xs, y :: ys, h => by
    unfold lexD at *
    by_cases z : x = y
    · subst z
      rw [if_pos rfl] at *
      exact lexD_asym xs ys h
    · rw [if_neg z] at h
      rw [if_neg (fun q => z q.symm)]
      simp at h ⊢
      omega
theorem lexD_tr : ∀ (a b c : List Int), lexD b a = false → lexD c b = false → lexD c a = false
  | [], [], c, _, h => h
  | [], y :: ys, [], _, _ => rfl
  | [], y :: ys, z :: zs, _, _ => rfl
  | x :: xs, [], _, h, _ => by cases h
  | x :: xs, y :: ys, [], _, h => by cases h
  | x :: xs, y :: ys, z :: zs, h1, h2 => by
    unfold lexD at *
    by_cases e1 : y = x
    · subst e1
      rw [if_pos rfl] at h1
      by_cases e2 : z = y
      · subst e2
        rw [if_pos rfl] at h2 ⊢
        exact lexD_tr xs ys zs h1 h2
      · rw [if_neg e2] at h2 ⊢
        exact h2
    · rw [if_neg e1] at h1
      by_cases e2 : z = y
      · subst e2
        rw [if_neg e1]; exact h1
      · rw [if_neg e2] at h2
        simp at h1 h2
        rw [if_neg (by omega)]
        simp; omega
theorem lexD_swo {α : Type} (k : α → List Int) : SrtO.Swo (fun v u : α => lexD (k v) (k u)) := ⟨fun x y h => lexD_asym _ _ h, fun x y z h1 h2 => lexD_tr _ _ _ h1 h2⟩
theorem lexD_anti : ∀ (a b : List Int), lexD a b = false → lexD b a = false → a = b
  | [], [], _, _ => rfl
  | [], _ :: _, h, _ => by cases h
  | _ :: _, [], _, h => by cases h
  | x :: xs, y :: ys, h1, h2 => by
    unfold lexD at *
    by_cases e : x = y
    · subst e
      rw [if_pos rfl] at h1 h2
      rw [lexD_anti xs ys h1 h2]
    · rw [if_neg e] at h1
      rw [if_neg (fun z => e z.symm)] at h2
      simp at h1 h2
      omega
end
section
variable {X : Cx}
/-- sorted(a list of tuples of ints) -/
def rSortTI (K : Fg) : List V → Hp → VK → Prop := fun vs H Q => ∃ (a : Addr) (xs : List V), vs = [V.ref a] ∧ SqL K H a xs ∧ (∀ x ∈ xs, ∃ ns, ns ≠ [] ∧ TupI K H x ns) ∧
  ∀ (k : V → List Int) (ys : List V) (p : Addr), (∀ x ∈ xs, ∀ ns, TupI K H x ns → k x = ns) → ys.Perm xs → ys.Pairwise (fun x y => lexD (k y) (k x) = false) → H p = none → Q (.ref p) (upd H p (.lst ys))
theorem intsOf_at {h : Heap} {v : Value} {ns : List Int} (t : TS.TupInts h v ns) : TS.intsOf h v = ns := TS.TupInts.ints t
def toV : Value → V
  | .ref t => .ref t
  | _ => .non
theorem vals_mem {xs : List V} {us : List Value} (h : Vals xs us) : ∀ u ∈ us, ∃ x ∈ xs, RelV x u := by
  induction h with
  | nil => intro u hu; cases hu
  | cons r h ih =>
    intro u hu
    rcases List.mem_cons.mp hu with z | z
    · exact ⟨_, List.mem_cons_self .., by rw [z]; exact r⟩
    · obtain ⟨x, h1, h2⟩ := ih u z
      exact ⟨x, List.mem_cons_of_mem _ h1, h2⟩
theorem vals_toV {xs : List V} {us : List Value} (h : Vals xs us) (hr : ∀ x ∈ xs, ∃ t, x = V.ref t) : us.map toV = xs := by
  induction h with
  | nil => rfl
  | cons r h ih =>
    rw [List.map_cons, ih (fun x hx => hr x (List.mem_cons_of_mem _ hx))]
    obtain ⟨t, rfl⟩ := hr _ (List.mem_cons_self ..)
    cases r
    rfl
theorem vals_of {us : List Value} (h : ∀ u ∈ us, ∃ t, u = Value.ref t) : Vals (us.map toV) us := by
  induction us with
  | nil => exact .nil
  | cons u us ih =>
    obtain ⟨t, rfl⟩ := h u (List.mem_cons_self ..)
    exact .cons rfl (ih fun u hu => h u (List.mem_cons_of_mem _ hu))
theorem cr_sortTI (hc : X.calm = true) : CallR X (.builtin "sorted") (rSortTI X.K) := by
  intro pins s σ H vs us Q I r h
  obtain ⟨a, xs, rfl, hs, ht, q⟩ := h
  obtain ⟨its, rv, hl, hz⟩ := I.list hs
  rw [Vals.ref1 r]
  have rf : ∀ x ∈ xs, ∃ t, x = V.ref t := fun x hx => by
    obtain ⟨ns, _, t, e, _⟩ := ht x hx
    exact ⟨t, e⟩
  have ti : ∀ x ns, TupI X.K H x ns → ∃ t, x = V.ref t ∧ TS.TupInts s.heap (.ref t) ns := fun x ns ⟨t, e, hq⟩ => by
    obtain ⟨its', rv', hp, _⟩ := I.tuple hq
    exact ⟨t, e, t, its'.toArray, rfl, hp, by simpa using rv'.ints⟩
  have tu : ∀ u ∈ its, TS.TupInts s.heap u (TS.intsOf s.heap u) ∧ TS.intsOf s.heap u ≠ [] := fun u hu => by
    obtain ⟨x, hx, rxu⟩ := vals_mem rv u hu
    obtain ⟨ns, n0, hT⟩ := ht x hx
    obtain ⟨t, e, T⟩ := ti x ns hT
    subst e
    cases rxu
    rw [intsOf_at T]
    exact ⟨T, n0⟩
  have rfu : ∀ u ∈ its, ∃ t, u = Value.ref t := fun u hu => by
    obtain ⟨⟨t, _, e, _⟩, _⟩ := tu u hu
    exact ⟨t, e⟩
  refine SrtO.sorted_ord (ltv := fun v u => lexD (TS.intsOf s.heap v) (TS.intsOf s.heap u)) (lexD_swo _) hl.isList (by rw [← rv.length]; exact hz) (fun h2 h₁ b hb hk => ?_) (fun out hs hst => ?_)
  · refine ti_sortable (by omega) (fun v hv => ?_) (fun o e => ?_)
    · obtain ⟨T, n0⟩ := tu v hv
      refine ⟨?_, n0⟩
      obtain ⟨c, zs, e, ⟨o, g, k1, k2⟩, i⟩ := T
      exact ⟨c, zs, e, ⟨o, (hk c o g).2, k1, k2⟩, i⟩
    · rw [hb] at e; cases e
      simp [PyProof.Rows.seqObj]
  · have pm := hst.perm
    obtain ⟨ep, he⟩ := PyProof.Rows.sortedAll_at s.heap its out.toArray
    have kp : ∀ b o, s.heap.get? b = some o → (PyProof.Rows.sortedAll s.heap its out.toArray).get? b = some o := fun b o e => PyProof.Rows.sortedAll_old e
    have ro : ∀ u ∈ out, ∃ t, u = Value.ref t := fun u hu => rfu u (pm.mem_iff.mp hu)
    have hfree : H (s.heap.objs.size + 1) = none := I.hok.fresh (Nat.le_succ _)
    have I2 : Inv X pins σ H { s with heap := PyProof.Rows.sortedAll s.heap its out.toArray } := I.kept (t' := s.toks) kp
    have ex : xs = its.map toV := (vals_toV rv rf).symm
    have hlen : out.length ≤ sizeLine := by rw [pm.length_eq, ← rv.length]; exact hz
    have J := I.drained (sc := s) (s' := { s with heap := PyProof.Rows.sortedAll s.heap its out.toArray }) (ex := []) (S := s.heap.objs.size + 1) (acc := out.toArray) (c := ep) (out := out.map toV) (H' := H)
      (Nat.le_succ _) (by rw [List.length_map]; exact hlen) he (by simpa using vals_of ro) (fun b hb => by cases hb) rfl I.bare (Un.kept kp) I2.hok hfree
    refine ⟨.ref (s.heap.objs.size + 1), _, J, rfl, q (fun v => match v with | .ref t => TS.intsOf s.heap (.ref t) | _ => []) _ _ (fun x hx ns hT => ?_) ?_ ?_ hfree⟩
    · obtain ⟨t, e, T⟩ := ti x ns hT
      subst e
      exact intsOf_at T
    · rw [ex]; exact pm.map _
    · refine List.pairwise_map.mpr (hs.imp_of_mem fun {u v} hu hv hl => ?_)
      obtain ⟨t1, rfl⟩ := ro u hu
      obtain ⟨t2, rfl⟩ := ro v hv
      exact hl
end
end Den
set_option autoImplicit false
set_option maxRecDepth 100000
set_option maxHeartbeats 4000000
/-! Den, part D: subscripts, slices, built-in functions. -/
namespace Den
open PySem PySem.Spec PyProof.Rows L2 GxR
section
variable {X : Cx} {T : Addr → Prop}
theorem strOk_one {x : Str} {c : Nat} (h : PyData.strOk x = true) (m : c ∈ x.cps.toList) : PyData.strOk ⟨#[c]⟩ = true := by
  unfold PyData.strOk at h ⊢
  have h2 := Array.all_eq_true'.mp h c (by simpa using m)
  simp at h2 ⊢
  exact h2
theorem atI_mem {α : Type} {xs : List α} {i : Int} {v : α} (h : atI xs i = some v) : v ∈ xs := by
  obtain ⟨j, _, h2, _⟩ := atI_get h
  exact List.mem_of_getElem? h2
theorem rel_at {K : Fg} {H : Hp} {vs : List V} {ds : List D} {i : Int} {d : D} (r : RelL K T H vs ds) (h : atI ds i = some d) : ∃ v, atI vs i = some v ∧ Rel K T H v d := by
  have hl := r.length
  unfold atI at h ⊢
  rw [hl]
  cases e : ixN ds.length i with
  | none => rw [e] at h; cases h
  | some j =>
    rw [e] at h
    exact r.get (i := j) h
theorem _root_.L2.IxR.weak {r r' : R2} (h : IxR X r) (w : ∀ x y H Q, r' x y H Q → r x y H Q) : IxR X r' := fun value slice pins s σ H x y v u Q I rx ry q hs => h value slice pins s σ H x y v u Q I rx ry (w _ _ _ _ q) hs
theorem idx_sound : IxR X (fun x y H Q => ∃ T dx dy r, PRel X.K T H x dx ∧ PRel X.K T H y dy ∧ idxD dx dy = some r ∧ ∀ v, Rel X.K T H v r → Q v H) := by
  refine (ix_seq (X := X)).weak fun x y H Q ⟨T, dx, dy, r, hx, hy, e, q⟩ => ?_
  unfold idxD at e
  split at e
  · cases p_int hy
    obtain ⟨a, vs, rfl, h1, h2⟩ := p_lst hx
    obtain ⟨v, h3, h4⟩ := rel_at h2 e
    exact .inl ⟨a, vs, _, v, rfl, rfl, h1.sq, h3, q v h4⟩
  · cases p_int hy
    obtain ⟨a, vs, rfl, h1, h2⟩ := p_tup hx
    obtain ⟨v, h3, h4⟩ := rel_at h2 e
    exact .inr (.inl ⟨a, vs, _, v, rfl, rfl, h1.sq, h3, q v h4⟩)
  · cases p_int hy
    obtain ⟨rfl, ok⟩ := p_str hx
    split at e
    · rename_i hz
      obtain ⟨c, e2, rfl⟩ := Option.map_eq_some_iff.mp e
      exact .inr (.inr ⟨_, _, c, rfl, rfl, by rw [← line_eq]; exact hz, e2, q _ (rel_str (strOk_one ok (atI_mem e2)))⟩)
    · cases e
  · cases e
theorem strOk_cut {x : Str} {lo hi : Option Int} (h : PyData.strOk x = true) : PyData.strOk (cutS x lo hi) = true := by
  unfold PyData.strOk at h ⊢
  refine Array.all_eq_true'.mpr fun c hc => Array.all_eq_true'.mp h c ?_
  have m : c ∈ ((x.cps.toList.drop (HT.sIx x.length 0 lo)).take (HT.sIx x.length x.length hi - HT.sIx x.length 0 lo)) := by
    have : c ∈ (cutS x lo hi).cps.toList := by simpa using hc
    unfold cutS at this
    simpa using this
  have := List.mem_of_mem_drop (List.mem_of_mem_take m)
  simpa using this
theorem slc_sound : SlR X (fun x lo hi H Q => ∃ T dx r, PRel X.K T H x dx ∧ slcD dx lo hi = some r ∧ Ans X.K T H r Q) := by
  intro pins s σ H x v vl vu lo hi sl Q I rx hs pl pu ⟨T, dx, r, hx, e, A⟩
  unfold slcD at e
  split at e
  · cases e
    obtain ⟨a, vs, rfl, h1, h2⟩ := p_lst hx
    refine sl_list pins s σ H _ v vl vu lo hi sl Q I rx hs pl pu ⟨a, vs, rfl, h1.sq, fun p hp => A.lst p _ _ rfl hp ?_⟩
    unfold cutV cutD
    rw [h2.length]
    exact (h2.drop _).take _
  · cases e
    obtain ⟨a, vs, rfl, h1, h2⟩ := p_tup hx
    have hl := h2.length
    refine sl_tupA pins s σ H _ v vl vu lo hi sl Q I rx hs pl pu ⟨a, vs, rfl, h1.sq, fun q => ?_, fun q p hp => A.tup p _ _ rfl hp ?_⟩
    · refine A.val _ _ rfl (rel_tup h1 ?_)
      unfold cutD
      rw [← hl, q.1, q.2, List.drop_zero, Nat.sub_zero, hl, List.take_length]
      exact h2
    · unfold cutV cutD
      rw [hl]
      exact (h2.drop _).take _
  · obtain ⟨rfl, ok⟩ := p_str hx
    split at e
    · rename_i hz
      cases e
      exact sl_str pins s σ H _ v vl vu lo hi sl Q I rx hs pl pu ⟨_, rfl, by rw [← line_eq]; exact hz, A.val _ _ rfl (rel_str (strOk_cut ok))⟩
    · cases e
  · cases e

/-! ### built-in functions -/
def PRelL (K : Fg) (T : Addr → Prop) (H : Hp) : List V → List D → Prop
  | [], [] => True
  | v :: vs, d :: ds => PRel K T H v d ∧ PRelL K T H vs ds
  | _, _ => False
theorem pl1 {K : Fg} {H : Hp} {vs : List V} {d : D} (h : PRelL K T H vs [d]) : ∃ v, vs = [v] ∧ PRel K T H v d := by
  match vs, h with
  | [v], h => exact ⟨v, rfl, h.1⟩
theorem pl2 {K : Fg} {H : Hp} {vs : List V} {d e : D} (h : PRelL K T H vs [d, e]) : ∃ v w, vs = [v, w] ∧ PRel K T H v d ∧ PRel K T H w e := by
  match vs, h with
  | [v, w], h => exact ⟨v, w, rfl, h.1, h.2.1⟩
def biVal : BI → Value
  | .len => .builtin "len" | .abs => .builtin "abs" | .mn => .builtin "min" | .mx => .builtin "max" | .sum => .builtin "sum" | .sorted => .builtin "sorted"
  | .tuple => .type "tuple" | .list => .type "list" | .int => .type "int" | .gcd => .builtin "math.gcd"
theorem _root_.L2.CallR.weak {f : Value} {r r' : List V → Hp → VK → Prop} (h : CallR X f r) (w : ∀ xs H Q, r' xs H Q → r xs H Q) : CallR X f r' := fun pins s σ H xs us Q I rx q => h pins s σ H xs us Q I rx (w _ _ _ q)
theorem foldl_max : ∀ (ns : List Int) (n : Int), (ns.foldl max n = n ∨ ns.foldl max n ∈ ns) ∧ n ≤ ns.foldl max n ∧ ∀ y ∈ ns, y ≤ ns.foldl max n
  | [], n => ⟨.inl rfl, Int.le_refl _, fun y hy => by cases hy⟩
  | m :: ns, n => by
    obtain ⟨h1, h2, h3⟩ := foldl_max ns (max n m)
    rw [List.foldl_cons]
    refine ⟨?_, by omega, fun y hy => ?_⟩
    · rcases h1 with h1 | h1
      · rcases Int.le_total n m with q | q
        · right; rw [h1]; rw [Int.max_eq_right q]; exact List.mem_cons_self
        · left; rw [h1]; exact Int.max_eq_left q
      · right; exact List.mem_cons_of_mem _ h1
    · rcases List.mem_cons.mp hy with rfl | hy
      · omega
      · exact h3 y hy
theorem foldl_min : ∀ (ns : List Int) (n : Int), (ns.foldl min n = n ∨ ns.foldl min n ∈ ns) ∧ ns.foldl min n ≤ n ∧ ∀ y ∈ ns, ns.foldl min n ≤ y
  | [], n => ⟨.inl rfl, Int.le_refl _, fun y hy => by cases hy⟩
  | m :: ns, n => by
    obtain ⟨h1, h2, h3⟩ := foldl_min ns (min n m)
    rw [List.foldl_cons]
    refine ⟨?_, by omega, fun y hy => ?_⟩
    · rcases h1 with h1 | h1
      · rcases Int.le_total n m with q | q
        · left; rw [h1]; exact Int.min_eq_left q
        · right; rw [h1]; rw [Int.min_eq_right q]; exact List.mem_cons_self
      · right; exact List.mem_cons_of_mem _ h1
    · rcases List.mem_cons.mp hy with rfl | hy
      · omega
      · exact h3 y hy
theorem sortedI_ok (ns : List Int) : (sortedI ns).Perm ns ∧ (sortedI ns).Pairwise (· ≤ ·) := by
  unfold sortedI
  refine ⟨List.mergeSort_perm _ _, ?_⟩
  have h := List.pairwise_mergeSort (le := fun a b : Int => decide (a ≤ b)) (fun a b c h1 h2 => by simp at *; omega) (fun a b => by simp; omega) ns
  exact h.imp fun h => by simpa using h
theorem tupsD_some : ∀ {ds : List D} {nss : List (List Int)}, tupsD ds = some nss → ds = nss.map tD ∧ ∀ ns ∈ nss, ns ≠ []
  | [], nss, h => by cases h; exact ⟨rfl, fun _ z => by cases z⟩
  | .tuple es :: r, nss, h => by
    unfold tupsD at h
    cases e1 : intsD es with
    | none => rw [e1] at h; cases h
    | some ns =>
      rw [e1] at h
      cases ns with
      | nil => cases h
      | cons n ns =>
        cases e2 : tupsD r with
        | none => rw [e2] at h; cases h
        | some rest =>
          rw [e2] at h
          cases h
          obtain ⟨q1, q2⟩ := tupsD_some e2
          refine ⟨by rw [List.map_cons, ← q1, tD, ← intsD_some e1], fun ms hm => ?_⟩
          rcases List.mem_cons.mp hm with z | z
          · rw [z]; simp
          · exact q2 ms z
  | .none :: r, nss, h => by cases h
  | .bool _ :: r, nss, h => by cases h
  | .int _ :: r, nss, h => by cases h
  | .str _ :: r, nss, h => by cases h
  | .list _ :: r, nss, h => by cases h
  | .dict _ :: r, nss, h => by cases h
theorem sortedT_ok (nss : List (List Int)) : (sortedT nss).Perm nss ∧ (sortedT nss).Pairwise (fun a b => lexD b a = false) := by
  unfold sortedT
  refine ⟨List.mergeSort_perm _ _, ?_⟩
  have h := List.pairwise_mergeSort (le := fun a b : List Int => !lexD b a) (fun a b c h1 h2 => by
    simp at *
    exact lexD_tr a b c h1 h2) (fun a b => by
    simp
    cases z : lexD b a with
    | false => exact .inl rfl
    | true => exact .inr (lexD_asym b a z)) nss
  exact h.imp fun h => by simpa using h
theorem sortedT_one {a b : List (List Int)} (p : a.Perm b) (sa : a.Pairwise (fun x y => lexD y x = false)) (sb : b.Pairwise (fun x y => lexD y x = false)) : a = b := p.eq_of_pairwise (fun x y _ _ h1 h2 => lexD_anti x y h2 h1) sa sb
theorem relL_tups {K : Fg} {H : Hp} {nss : List (List Int)} : ∀ {vs : List V}, RelL K T H vs (nss.map tD) → (∀ ns ∈ nss, ns ≠ []) → (∀ x ∈ vs, ∃ ns, ns ≠ [] ∧ TupI K H x ns ∧ Rel K T H x (tD ns)) ∧ ∀ k : V → List Int, (∀ x ∈ vs, ∀ ns, TupI K H x ns → k x = ns) → vs.map k = nss ∧ ∀ x ∈ vs, Rel K T H x (tD (k x)) := by
  induction nss with
  | nil => intro vs h _; unfold RelL at h; subst h; exact ⟨fun _ z => (by cases z), fun k _ => ⟨rfl, fun _ z => (by cases z)⟩⟩
  | cons ns nss ih =>
    intro vs h hn
    rw [List.map_cons] at h
    unfold RelL at h
    obtain ⟨v, us, rfl, h1, h2⟩ := h
    obtain ⟨q1, q2⟩ := ih h2 (fun ms hm => hn ms (List.mem_cons_of_mem _ hm))
    have hT : TupI K H v ns := by
      unfold tD Rel at h1
      obtain ⟨a, ws, e, f, r⟩ := h1
      have e2 := r.ints
      subst e2
      exact ⟨a, e, f.sq⟩
    refine ⟨fun x hx => ?_, fun k hk => ?_⟩
    · rcases List.mem_cons.mp hx with z | z
      · rw [z]; exact ⟨ns, hn ns (List.mem_cons_self ..), hT, h1⟩
      · exact q1 x z
    · obtain ⟨z1, z2⟩ := q2 k (fun x hx => hk x (List.mem_cons_of_mem _ hx))
      have ek := hk v (List.mem_cons_self ..) ns hT
      refine ⟨by rw [List.map_cons, z1, ek], fun x hx => ?_⟩
      rcases List.mem_cons.mp hx with z | z
      · rw [z, ek]; exact h1
      · exact z2 x z
theorem relL_mk {K : Fg} {H : Hp} {f : V → D} : ∀ {vs : List V}, (∀ x ∈ vs, Rel K T H x (f x)) → RelL K T H vs (vs.map f)
  | [], _ => RelL.nil
  | v :: vs, h => RelL.cons (h v (List.mem_cons_self ..)) (relL_mk fun x hx => h x (List.mem_cons_of_mem _ hx))
theorem sorted_one {a b : List Int} (p : a.Perm b) (sa : a.Pairwise (· ≤ ·)) (sb : b.Pairwise (· ≤ ·)) : a = b := p.eq_of_pairwise (fun x y _ _ h1 h2 => Int.le_antisymm h1 h2) sa sb
/-- a built-in function that asks nothing of what is handled -/
def biCalm : BI → Bool
  | .len | .abs | .int => true
  | _ => false
theorem bi_sound (b : BI) (hc : biCalm b = false → X.calm = true) (hb : biVal b ≠ .none) : CallR X (biVal b) (fun xs H Q => ∃ T ds r, PRelL X.K T H xs ds ∧ biD b ds = some r ∧ Ans X.K T H r Q) := by
  intro pins s σ H xs us Q I rx ⟨T, ds, r, hx, e, A⟩
  unfold biD at e
  split at e
  · cases e
    obtain ⟨v, rfl, h⟩ := pl1 hx
    obtain ⟨a, vs, rfl, h1, h2⟩ := p_lst h
    exact call_len pins s σ H _ us Q I rx ⟨_, _, rfl, .inl ⟨vs, h1.sq, rfl⟩, A.val _ _ rfl (by rw [h2.length]; exact rel_int)⟩
  · cases e
    obtain ⟨v, rfl, h⟩ := pl1 hx
    obtain ⟨a, vs, rfl, h1, h2⟩ := p_tup h
    exact call_len pins s σ H _ us Q I rx ⟨_, _, rfl, .inr ⟨vs, h1.sq, rfl⟩, A.val _ _ rfl (by rw [h2.length]; exact rel_int)⟩
  · obtain ⟨v, rfl, h⟩ := pl1 hx
    obtain ⟨rfl, ok⟩ := p_str h
    split at e
    · rename_i hz
      cases e
      exact call_len pins s σ H _ us Q I rx ⟨_, _, rfl, ⟨by rw [← line_eq]; exact hz, rfl⟩, A.val _ _ rfl rel_int⟩
    · cases e
  · cases e
    obtain ⟨v, rfl, h⟩ := pl1 hx
    cases p_int h
    exact call_abs pins s σ H _ us Q I rx ⟨_, rfl, A.val _ _ rfl rel_int⟩
  · cases e
    obtain ⟨v, w, rfl, h, h'⟩ := pl2 hx
    cases p_int h; cases p_int h'
    exact call_max2 (hc rfl) pins s σ H _ us Q I rx ⟨_, _, rfl, A.val _ _ rfl rel_int⟩
  · cases e
    obtain ⟨v, w, rfl, h, h'⟩ := pl2 hx
    cases p_int h; cases p_int h'
    exact call_min2 (hc rfl) pins s σ H _ us Q I rx ⟨_, _, rfl, A.val _ _ rfl rel_int⟩
  · obtain ⟨v, rfl, h⟩ := pl1 hx
    obtain ⟨a, vs, rfl, h1, h2⟩ := p_tup h
    rename_i xs
    cases en : intsD xs with
    | none => rw [en] at e; cases e
    | some ns =>
      rw [en] at e
      cases e
      have e1 := intsD_some en
      subst e1
      have e3 := h2.ints
      subst e3
      exact cr_sumT (hc rfl) pins s σ H _ us Q I rx ⟨a, ns, rfl, h1.sq, A.val _ _ rfl rel_int⟩
  · obtain ⟨v, rfl, h⟩ := pl1 hx
    obtain ⟨a, vs, rfl, h1, h2⟩ := p_tup h
    split at e
    · rename_i n ns en
      cases e
      have e1 := intsD_some en
      subst e1
      have e3 := h2.ints
      subst e3
      obtain ⟨m1, m2, m3⟩ := foldl_max ns n
      refine cr_maxT (hc rfl) pins s σ H _ us Q I rx ⟨a, n :: ns, rfl, h1.sq, by simp, fun m hm hle => A.val _ _ rfl ?_⟩
      have : m = ns.foldl max n := by
        refine Int.le_antisymm ?_ (hle _ ?_)
        · rcases List.mem_cons.mp hm with rfl | hm
          · exact m2
          · exact m3 m hm
        · rcases m1 with m1 | m1
          · rw [m1]; exact List.mem_cons_self
          · exact List.mem_cons_of_mem _ m1
      rw [this]; exact rel_int
    · cases e
  · obtain ⟨v, rfl, h⟩ := pl1 hx
    obtain ⟨a, vs, rfl, h1, h2⟩ := p_tup h
    split at e
    · rename_i n ns en
      cases e
      have e1 := intsD_some en
      subst e1
      have e3 := h2.ints
      subst e3
      obtain ⟨m1, m2, m3⟩ := foldl_min ns n
      refine cr_minT (hc rfl) pins s σ H _ us Q I rx ⟨a, n :: ns, rfl, h1.sq, by simp, fun m hm hle => A.val _ _ rfl ?_⟩
      have : m = ns.foldl min n := by
        refine Int.le_antisymm (hle _ ?_) ?_
        · rcases m1 with m1 | m1
          · rw [m1]; exact List.mem_cons_self
          · exact List.mem_cons_of_mem _ m1
        · rcases List.mem_cons.mp hm with rfl | hm
          · exact m2
          · exact m3 m hm
      rw [this]; exact rel_int
    · cases e
  · obtain ⟨v, rfl, h⟩ := pl1 hx
    obtain ⟨a, vs, rfl, h1, h2⟩ := p_lst h
    split at e
    · rename_i n ns en
      cases e
      have e1 := intsD_some en
      subst e1
      have e3 := h2.ints
      subst e3
      obtain ⟨m1, m2, m3⟩ := foldl_max ns n
      refine cr_max (hc rfl) pins s σ H _ us Q I rx ⟨a, n :: ns, rfl, h1.sq, by simp, fun m hm hle => A.val _ _ rfl ?_⟩
      have : m = ns.foldl max n := by
        refine Int.le_antisymm ?_ (hle _ ?_)
        · rcases List.mem_cons.mp hm with rfl | hm
          · exact m2
          · exact m3 m hm
        · rcases m1 with m1 | m1
          · rw [m1]; exact List.mem_cons_self
          · exact List.mem_cons_of_mem _ m1
      rw [this]; exact rel_int
    · cases e
  · obtain ⟨v, rfl, h⟩ := pl1 hx
    obtain ⟨a, vs, rfl, h1, h2⟩ := p_lst h
    split at e
    · rename_i n ns en
      cases e
      have e1 := intsD_some en
      subst e1
      have e3 := h2.ints
      subst e3
      obtain ⟨m1, m2, m3⟩ := foldl_min ns n
      refine cr_min (hc rfl) pins s σ H _ us Q I rx ⟨a, n :: ns, rfl, h1.sq, by simp, fun m hm hle => A.val _ _ rfl ?_⟩
      have : m = ns.foldl min n := by
        refine Int.le_antisymm (hle _ ?_) ?_
        · rcases m1 with m1 | m1
          · rw [m1]; exact List.mem_cons_self
          · exact List.mem_cons_of_mem _ m1
        · rcases List.mem_cons.mp hm with rfl | hm
          · exact m2
          · exact m3 m hm
      rw [this]; exact rel_int
    · cases e
  · obtain ⟨v, rfl, h⟩ := pl1 hx
    obtain ⟨a, vs, rfl, h1, h2⟩ := p_lst h
    rename_i xs
    cases en : intsD xs with
    | none => rw [en] at e; cases e
    | some ns =>
      rw [en] at e
      cases e
      have e1 := intsD_some en
      subst e1
      have e3 := h2.ints
      subst e3
      exact cr_sum (hc rfl) pins s σ H _ us Q I rx ⟨a, ns, rfl, h1.sq, A.val _ _ rfl rel_int⟩
  · obtain ⟨v, rfl, h⟩ := pl1 hx
    obtain ⟨a, vs, rfl, h1, h2⟩ := p_lst h
    rename_i xs
    cases en : intsD xs with
    | none =>
      rw [en] at e
      dsimp only at e
      cases et : tupsD xs with
      | none => rw [et] at e; cases e
      | some nss =>
        rw [et] at e
        cases e
        obtain ⟨e1, n0⟩ := tupsD_some et
        subst e1
        obtain ⟨q1, q2⟩ := relL_tups h2 n0
        refine cr_sortTI (hc rfl) pins s σ H _ us Q I rx ⟨a, vs, rfl, h1.sq, fun x hx => ?_, fun k ys p hk pm sr hp => A.lst p _ _ rfl hp ?_⟩
        · obtain ⟨ns, z0, z1, _⟩ := q1 x hx
          exact ⟨ns, z0, z1⟩
        · obtain ⟨z1, z2⟩ := q2 k hk
          obtain ⟨p1, p2⟩ := sortedT_ok nss
          have e1 : ys.map k = sortedT nss := by
            refine sortedT_one ?_ (List.pairwise_map.mpr sr) p2
            exact ((pm.map k).trans (by rw [z1])).trans p1.symm
          rw [← e1, List.map_map]
          exact relL_mk (f := tD ∘ k) fun x hx => z2 x (pm.mem_iff.mp hx)
    | some ns =>
      rw [en] at e
      cases e
      have e1 := intsD_some en
      subst e1
      have e3 := h2.ints
      subst e3
      refine cr_sortedI pins s σ H _ us Q I rx ⟨a, ns, rfl, h1.sq, fun ns' p pm sr hp => A.lst p _ _ rfl hp ?_⟩
      obtain ⟨p1, p2⟩ := sortedI_ok ns
      rw [sorted_one (pm.trans p1.symm) sr p2]
      exact RelL.ofInts
  · cases e
    obtain ⟨v, rfl, h⟩ := pl1 hx
    obtain ⟨a, vs, rfl, h1, h2⟩ := p_lst h
    exact call_tuple_of pins s σ H _ us Q I rx ⟨a, vs, rfl, .inl ⟨h1.sq, fun l hl => A.tup l _ _ rfl hl h2⟩⟩
  · cases e
    obtain ⟨v, rfl, h⟩ := pl1 hx
    obtain ⟨a, vs, rfl, h1, h2⟩ := p_tup h
    exact call_tuple_of pins s σ H _ us Q I rx ⟨a, vs, rfl, .inr ⟨h1.sq, A.val _ _ rfl (rel_tup h1 h2)⟩⟩
  · cases e
    obtain ⟨v, rfl, h⟩ := pl1 hx
    obtain ⟨a, vs, rfl, h1, h2⟩ := p_lst h
    exact call_list_of pins s σ H _ us Q I rx ⟨a, vs, rfl, .inl h1.sq, fun l hl => A.lst l _ _ rfl hl h2⟩
  · cases e
    obtain ⟨v, rfl, h⟩ := pl1 hx
    obtain ⟨a, vs, rfl, h1, h2⟩ := p_tup h
    exact call_list_of pins s σ H _ us Q I rx ⟨a, vs, rfl, .inr h1.sq, fun l hl => A.lst l _ _ rfl hl h2⟩
  · cases e
    obtain ⟨v, rfl, h⟩ := pl1 hx
    cases p_int h
    exact call_int1 pins s σ H _ us Q I rx (.inl ⟨_, rfl, A.val _ _ rfl rel_int⟩)
  · cases e
    obtain ⟨v, rfl, h⟩ := pl1 hx
    cases p_bl h
    exact call_int1 pins s σ H _ us Q I rx (.inr ⟨_, rfl, A.val _ _ rfl rel_int⟩)
  · cases e
    obtain ⟨v, w, rfl, h, h'⟩ := pl2 hx
    cases p_int h; cases p_int h'
    exact cr_gcd pins s σ H _ us Q I rx ⟨_, _, rfl, A.val _ _ rfl rel_int⟩
  · cases e
end
end Den
set_option autoImplicit false
set_option maxRecDepth 100000
set_option maxHeartbeats 4000000
/-! Den, part E: slots; the rules of expressions. -/
namespace Den
open PySem PySem.Spec PyProof.Rows L2 GxR
section
variable {c : Ct} {g : Gh} {σ : L2.St} {H H' : Hp} {ρ ρ' : Ev}
theorem set_get {α : Type} {l : List α} {i j : Nat} {x y : α} (h : (l.set i x)[j]? = some y) : (i = j ∧ y = x) ∨ (i ≠ j ∧ l[j]? = some y) := by
  by_cases e : i = j
  · subst e
    rw [List.getElem?_set] at h
    simp at h
    exact .inl ⟨rfl, h.2.symm⟩
  · rw [List.getElem?_set_ne e] at h
    exact .inr ⟨e, h⟩
theorem set_err {ρ : Ev} {i j k : Nat} {sl : Sl} (n : ∀ k, sl ≠ .err k) (h : (ρ.set i sl)[j]? = some (.err k)) : i ≠ j ∧ ρ[j]? = some (.err k) := by
  rcases set_get h with ⟨_, e⟩ | e
  · exact absurd e.symm (n k)
  · exact e
theorem Sim.errS {i : Nat} {sl : Sl} (s : Sim c g σ H ρ) (n : ∀ k, sl ≠ .err k) : ∀ (j k : Nat), (ρ.set i sl)[j]? = some (.err k) → ∃ a, c.err = some (a, k) ∧ σ[j]? = some (some (.ref a)) := fun j k e => s.err j k (set_err n e).2
theorem Sim.errS2 {i : Nat} {sl : Sl} {v : Option V} (s : Sim c g σ H ρ) (n : ∀ k, sl ≠ .err k) : ∀ (j k : Nat), (ρ.set i sl)[j]? = some (.err k) → ∃ a, c.err = some (a, k) ∧ (σ.set i v)[j]? = some (some (.ref a)) := fun j k e => by
  obtain ⟨ne, e⟩ := set_err n e
  obtain ⟨a, h1, h2⟩ := s.err j k e
  exact ⟨a, h1, by rw [List.getElem?_set_ne ne]; exact h2⟩
theorem get_set {α : Type} {l : List α} {i : Nat} {x y : α} (h : l[i]? = some y) : (l.set i x)[i]? = some x := by
  have := (List.getElem?_eq_some_iff.mp h).1
  simp [List.getElem?_set, this]
/-- slots' lists are the same, but one is known to others now -/
theorem Sim.freeze {i : Nat} {ds : List D} (s : Sim c g σ H ρ) (h : ρ[i]? = some (.own false false ds)) :
    ∃ a, σ[i]? = some (some (.ref a)) ∧ Sim c g σ H (ρ.set i (.val (.list ds))) ∧ Stp c g σ H ρ (Tt g σ (ρ.set i (.val (.list ds)))) H (ρ.set i (.val (.list ds))) ∧ Rel c.K (Tt g σ (ρ.set i (.val (.list ds)))) H (.ref a) (.list ds) := by
  obtain ⟨a, vs, h1, h2, h3, h4, h5, h6⟩ := s.own i false false ds h
  have sub : ∀ x, Tt g σ (ρ.set i (.val (.list ds))) x → Tt g σ ρ x := by
    rintro x (t | ⟨j, p, l, es, e1, e2⟩)
    · exact .inl t
    · rcases set_get e1 with ⟨_, e⟩ | ⟨_, e⟩
      · cases e
      · exact .inr ⟨j, p, l, es, e, e2⟩
  have nt : ¬ Tt g σ (ρ.set i (.val (.list ds))) a := by
    rintro (t | ⟨j, p, l, es, e1, e2⟩)
    · exact h6 rfl t
    · rcases set_get e1 with ⟨_, e⟩ | ⟨ne, e⟩
      · cases e
      · exact ne (s.inj i j false false ds p l es a h e h1 e2)
  have x : Ext (Tt g σ ρ) H (Tt g σ (ρ.set i (.val (.list ds)))) H := Ext.weak sub
  have ra : Rel c.K (Tt g σ (ρ.set i (.val (.list ds)))) H (.ref a) (.list ds) := by
    unfold Rel
    exact ⟨a, vs, rfl, .inl ⟨.inl h2, nt⟩, h3.ext x⟩
  refine ⟨a, h1, ⟨by rw [List.length_set]; exact s.len, fun j d e => ?_, fun j p l es e => ?_, fun j k p l es p' l' es' b e e' => ?_, s.new, s.tcs, s.tab, s.errS (fun _ z => nomatch z)⟩, ⟨x, fun _ _ _ h _ => h, fun _ h => h, fun j p es e => ?_⟩, ra⟩
  · rcases set_get e with ⟨rfl, e0⟩ | ⟨_, e0⟩
    · cases e0; exact ⟨_, h1, ra⟩
    · obtain ⟨v, q1, q2⟩ := s.val j d e0
      exact ⟨v, q1, q2.ext x⟩
  · rcases set_get e with ⟨rfl, e0⟩ | ⟨_, e0⟩
    · cases e0
    · obtain ⟨b, us, q1, q2, q3, q4⟩ := s.own j p l es e0
      exact ⟨b, us, q1, q2, q3.ext x, q4⟩
  · rcases set_get e with ⟨rfl, e0⟩ | ⟨_, e0⟩
    · cases e0
    · rcases set_get e' with ⟨rfl, e1⟩ | ⟨_, e1⟩
      · cases e1
      · exact s.inj j k p l es p' l' es' b e0 e1
  · by_cases q : i = j
    · subst q; rw [h] at e; cases e
    · rw [List.getElem?_set_ne q]; exact e
/-- as it goes into another thing -/
theorem Good.coe {v : V} {ev : EV} {d : D} {ρ2 : Ev} (G : Good c g σ H ρ v H' ev ρ') (h : Den.coe ev ρ' = .ok d ρ2) : Good c g σ H ρ v H' (.val d) ρ2 := by
  cases ev with
  | val e => cases h; exact G
  | fresh ds => cases h; exact G.settle
  | loc i =>
    have r := G.res
    obtain ⟨s, e1⟩ := r
    simp only [Den.coe] at h
    cases e : ρ'[i]? with
    | none => rw [e] at h; cases h
    | some sl =>
      rw [e] at h
      cases sl with
      | no => cases h
      | err _ => cases h
      | val _ => cases h
      | own p l ds =>
        cases p <;> cases l <;> first | (cases h; done) | skip
        cases h
        obtain ⟨a, h1, s2, st, ra⟩ := s.freeze e
        rw [e1] at h1; cases h1
        exact ⟨⟨s2, ra⟩, G.stp.trans st⟩
theorem coe_not {ev : EV} {k : Nat} {ρ2 : Ev} : Den.coe ev ρ ≠ .exc k ρ2 := by
  cases ev with
  | val _ => intro h; cases h
  | fresh _ => intro h; cases h
  | loc i =>
    simp only [Den.coe]
    intro h
    cases e : ρ[i]? with
    | none => rw [e] at h; cases h
    | some sl =>
      rw [e] at h
      cases sl with
      | no => cases h
      | err _ => cases h
      | val _ => cases h
      | own p l ds => cases p <;> cases l <;> cases h
/-- a slot's list is changed -/
theorem Sim.mutate {i : Nat} {p : Bool} {ds es : List D} {a : Addr} {vs us : List V} (s : Sim c g σ H ρ) (h : ρ[i]? = some (.own p false ds)) (ha : σ[i]? = some (some (.ref a))) (hv : H a = some (.lst vs)) (r : RelL c.K (Tt g σ ρ) H us es) :
    Sim c g σ (upd H a (.lst us)) (ρ.set i (.own p false es)) ∧ Stp c g σ H ρ (Tt g σ (ρ.set i (.own p false es))) (upd H a (.lst us)) (ρ.set i (.own p false es)) := by
  have own_iff : ∀ x, Own σ (ρ.set i (.own p false es)) x ↔ Own σ ρ x := fun x => by
    constructor
    · rintro ⟨j, q, l, fs, e1, e2⟩
      rcases set_get e1 with ⟨rfl, e⟩ | ⟨_, e⟩
      · exact ⟨i, p, false, ds, h, e2⟩
      · exact ⟨j, q, l, fs, e, e2⟩
    · rintro ⟨j, q, l, fs, e1, e2⟩
      by_cases z : i = j
      · subst z; exact ⟨i, p, false, es, get_set h, e2⟩
      · exact ⟨j, q, l, fs, by rw [List.getElem?_set_ne z]; exact e1, e2⟩
  have te : Tt g σ (ρ.set i (.own p false es)) = Tt g σ ρ := by
    funext x
    apply propext
    show (g.Tc x ∨ _) ↔ (g.Tc x ∨ _)
    rw [own_iff]
  have ta : Tt g σ ρ a := .inr ⟨i, p, false, ds, h, ha⟩
  obtain ⟨a', vs', q1, q2, q3, my, pq, nq⟩ := s.own i p false ds h
  rw [ha] at q1; cases q1
  have x : Ext (Tt g σ ρ) H (Tt g σ ρ) (upd H a (.lst us)) := fun b o e _ n => ⟨by rw [upd_ne (fun z => n (by rw [z]; exact ta))]; exact e, n⟩
  have at_ne : ∀ {b : Addr}, b ≠ a → upd H a (.lst us) b = H b := fun z => upd_ne z
  refine ⟨⟨by rw [List.length_set]; exact s.len, fun j d e => ?_, fun j q l fs e => ?_, fun j k q l fs q' l' fs' b e e' e1 e2 => ?_, fun b e => ?_, fun b t z => ?_, fun P t => ?_, s.errS (fun _ z => nomatch z)⟩, ⟨by rw [te]; exact x, fun b o n e _ => ?_, fun b e => ?_, fun j q fs e => ?_⟩⟩
  · rw [te]
    rcases set_get e with ⟨rfl, e0⟩ | ⟨_, e0⟩
    · cases e0
    · obtain ⟨v, z1, z2⟩ := s.val j d e0
      exact ⟨v, z1, z2.ext x⟩
  · rw [te]
    rcases set_get e with ⟨rfl, e0⟩ | ⟨ne, e0⟩
    · cases e0
      exact ⟨a, us, ha, upd_same, r.ext x, my, pq, nq⟩
    · obtain ⟨b, ws, z1, z2, z3, z4⟩ := s.own j q l fs e0
      have hb : b ≠ a := fun z => ne (by subst z; exact s.inj i j p false ds q l fs b h e0 ha z1)
      exact ⟨b, ws, z1, by rw [at_ne hb]; exact z2, z3.ext x, z4⟩
  · have f1 : ∃ fs q l, ρ[j]? = some (.own q l fs) := by
      rcases set_get e with ⟨rfl, e⟩ | ⟨_, e⟩
      · exact ⟨_, _, _, h⟩
      · exact ⟨_, _, _, e⟩
    have f2 : ∃ fs q l, ρ[k]? = some (.own q l fs) := by
      rcases set_get e' with ⟨rfl, e⟩ | ⟨_, e⟩
      · exact ⟨_, _, _, h⟩
      · exact ⟨_, _, _, e⟩
    obtain ⟨_, _, _, f1⟩ := f1
    obtain ⟨_, _, _, f2⟩ := f2
    exact s.inj _ _ _ _ _ _ _ _ b f1 f2 e1 e2
  · by_cases z : b = a
    · subst z; exact my
    · rw [at_ne z] at e; exact s.new b e
  · by_cases q : b = a
    · subst q; rw [upd_same] at z; cases z
    · rw [at_ne q] at z; exact s.tcs b t z
  · obtain ⟨ps, e, tr⟩ := s.tab P t
    refine ⟨ps, ?_, tr⟩
    rw [at_ne (fun z => by rw [z, hv] at e; cases e)]
    exact e
  · rw [at_ne (fun z => n (by rw [z]; exact my))]; exact e
  · by_cases q : b = a
    · subst q; rw [upd_same]; simp
    · rw [at_ne q]; exact e
  · by_cases z : i = j
    · subst z; rw [h] at e; cases e
    · rw [List.getElem?_set_ne z]; exact e
end

/-! ### argument lists -/
def Refs (c : Ct) (g : Gh) (σ : L2.St) (H : Hp) (ρ : Ev) : List V → List EV → Prop
  | [], [] => True
  | v :: vs, e :: es => Ref c g σ H ρ v e ∧ Refs c g σ H ρ vs es
  | _, _ => False
theorem Refs.step {c : Ct} {g : Gh} {σ : L2.St} {H H' : Hp} {ρ ρ' : Ev} (s : Stp c g σ H ρ (Tt g σ ρ') H' ρ') : ∀ {vs : List V} {es : List EV}, Refs c g σ H ρ vs es → Refs c g σ H' ρ' vs es
  | [], [], _ => trivial
  | v :: vs, e :: es, h => ⟨h.1.step s, Refs.step s h.2⟩
  | [], _ :: _, h => h.elim
  | _ :: _, [], h => h.elim
def KontA (c : Ct) (g : Gh) (σ : L2.St) (H : Hp) (ρ : Ev) (r : R (List EV)) (Q : List V → Hp → Prop) : Prop := match r with
  | .ok es ρ' => ∀ vs H', GoodX c g σ H ρ H' ρ' → Refs c g σ H' ρ' vs es → Q vs H'
  | .exc k ρ' => ∀ H', GoodX c g σ H ρ H' ρ' → c.W (c.cls k) none σ H'
  | .bad => False
def tA (c : Ct) (d : M (List EV)) : TA := fun σ H Q => ∃ g ρ, Sim c g σ H ρ ∧ KontA c g σ H ρ (d ρ) Q
def KontL (c : Ct) (g : Gh) (σ : L2.St) (H : Hp) (ρ : Ev) (r : R (List D)) (Q : List V → Hp → Prop) : Prop := match r with
  | .ok ds ρ' => ∀ vs H', GoodX c g σ H ρ H' ρ' → RelL c.K (Tt g σ ρ') H' vs ds → Q vs H'
  | .exc k ρ' => ∀ H', GoodX c g σ H ρ H' ρ' → c.W (c.cls k) none σ H'
  | .bad => False
def tL (c : Ct) (d : M (List D)) : TA := fun σ H Q => ∃ g ρ, Sim c g σ H ρ ∧ KontL c g σ H ρ (d ρ) Q
theorem _root_.L2.PA.weak {X : Cx} {e : List Expr} {t t' : TA} (h : PA X e t) (w : ∀ σ H Q, t' σ H Q → t σ H Q) : PA X e t' := ⟨fun pos pins s σ H Q I q => h.run pos pins s σ H Q I (w σ H Q q)⟩
def isStar : Expr → Bool
  | .Starred _ _ => true
  | _ => false
theorem star_cons {e : Expr} {es : List Expr} {env : Env} (h : isStar e = false) : starEach (e :: es) env = (false, eval e env) :: starEach es env := by
  cases e <;> first | rfl | (cases h; done)
section
variable {X : Cx} {c : Ct} {e : Expr} {es : List Expr}
theorem ra_nil : PA X [] (tA c (ret [])) := (pa_nil (X := X)).weak fun σ H Q ⟨g, ρ, s, k⟩ => k [] H ⟨s, Stp.refl⟩ trivial
theorem ra_cons {d : M EV} {ds : M (List EV)} (he : PE X e (tE c d)) (hr : PA X es (tA c ds)) (ns : isStar e = false) : PA X (e :: es) (tA c (bnd d fun x => bnd ds fun ys => ret (settle x :: ys))) := by
  refine (pa_cons he hr (star_cons ns)).weak fun σ H Q ⟨g, ρ, s, k⟩ => ?_
  show tE c d σ H _
  refine ⟨g, ρ, s, ?_⟩
  unfold bnd at k
  cases e1 : d ρ with
  | bad => rw [e1] at k; exact k
  | exc x ρ' => rw [e1] at k; exact k
  | ok ev ρ1 =>
    rw [e1] at k
    intro v H1 G
    refine ⟨g, ρ1, G.sim, ?_⟩
    dsimp only at k
    cases e2 : ds ρ1 with
    | bad => rw [e2] at k; exact k
    | exc x ρ' => rw [e2] at k; exact fun H2 G2 => k H2 (G2.trans G.step)
    | ok evs ρ2 =>
      rw [e2] at k
      exact fun vs H2 G2 r2 => k (v :: vs) H2 (G2.trans G.step) ⟨G.ref.step G2.stp, r2⟩
theorem rl_nil : PA X [] (tL c (ret [])) := (pa_nil (X := X)).weak fun σ H Q ⟨g, ρ, s, k⟩ => k [] H ⟨s, Stp.refl⟩ RelL.nil
theorem rl_cons {d : M EV} {ds : M (List D)} (he : PE X e (tE c d)) (hr : PA X es (tL c ds)) (ns : isStar e = false) : PA X (e :: es) (tL c (bnd d fun x => bnd (coe x) fun y => bnd ds fun ys => ret (y :: ys))) := by
  refine (pa_cons he hr (star_cons ns)).weak fun σ H Q ⟨g, ρ, s, k⟩ => ?_
  show tE c d σ H _
  refine ⟨g, ρ, s, ?_⟩
  unfold bnd at k
  cases e1 : d ρ with
  | bad => rw [e1] at k; exact k
  | exc x ρ' => rw [e1] at k; exact k
  | ok ev ρ1 =>
    rw [e1] at k
    intro v H1 G
    dsimp only at k
    cases e3 : coe ev ρ1 with
    | bad => rw [e3] at k; exact k.elim
    | exc x ρ' => exact (coe_not e3).elim
    | ok y ρ3 =>
      rw [e3] at k
      have G3 := G.coe e3
      dsimp only at k
      refine ⟨g, ρ3, G3.sim, ?_⟩
      cases e2 : ds ρ3 with
      | bad => rw [e2] at k; exact k
      | exc x ρ' => rw [e2] at k; exact fun H2 G2 => k H2 (G2.trans G3.step)
      | ok evs ρ2 =>
        rw [e2] at k
        exact fun vs H2 G2 r2 => k (v :: vs) H2 (G2.trans G3.step) (RelL.cons (Rel.ext G2.stp.ext G3.res.2) r2)

/-! ### the rules -/
theorem r_var {i : Nat} {x : Str} {pos : Pos} (hN : X.N[i]? = some x) (hv : Vis X.env.scope x) (hd : (x == ("__debug__" : Str)) = false) (hcd : (x == ("__classdict__" : Str)) = false) {Γ : Fns} {C : List D} :
    PE X (.Name x pos) (tE c (evE Γ C (.var i))) := by
  refine (pe_var hN hv hd hcd).weak fun σ H Q ⟨g, ρ, s, k⟩ => ?_
  unfold evE at k
  cases e : ρ[i]? with
  | none => rw [e] at k; exact k.elim
  | some sl =>
    rw [e] at k
    cases sl with
    | no => exact k.elim
    | err _ => exact k.elim
    | val d =>
      obtain ⟨v, h1, h2⟩ := s.val i d e
      exact ⟨v, h1, k v H (Good.of_val s h2)⟩
    | own p l ds =>
      obtain ⟨a, vs, h1, _⟩ := s.own i p l ds e
      exact ⟨.ref a, h1, k _ H (Good.of_loc s h1)⟩
theorem r_ret {v : V} {d : D} {σ : L2.St} {H : Hp} {Q : VK} (h : tE c (ret (.val d)) σ H Q) (r : ∀ T, Rel c.K T H v d) : Q v H := by
  obtain ⟨g, ρ, s, k⟩ := h
  exact k v H (Good.of_val s (r _))
theorem r_bin {a b : Expr} {pos : Pos} {da db : M EV} (hK : X.K = c.K) (o : Op2) (ha : PE X a (tE c da)) (hb : PE X b (tE c db)) : PE X (.BinOp a (opOf o) b pos) (tE c (bnd da fun x => bnd db fun y => binM o x y)) := by
  refine (pe_op (bin_sound o) ha hb).weak fun σ H Q ⟨g, ρ, s, k⟩ => ?_
  show tE c da σ H _
  obtain ⟨g', ρ', s', k'⟩ := k.bnd s
  refine ⟨g', ρ', s', ?_⟩
  revert k'
  cases da ρ' with
  | bad => exact fun k' => k'
  | exc x ρ1 => exact fun k' => k'
  | ok ev ρ1 =>
    intro k' x H1 G1
    obtain ⟨ev', ρ1', G1', k1⟩ := k' x H1 G1
    obtain ⟨g2, ρ2, s2, k2⟩ := k1.bnd G1'.sim
    refine ⟨g2, ρ2, s2, ?_⟩
    revert k2
    cases db ρ2 with
    | bad => exact fun k2 => k2
    | exc x ρ1 => exact fun k2 => k2
    | ok ey ρ3 =>
      intro k2 y H2 G2
      obtain ⟨ey', ρ3', G3, k3⟩ := k2 y H2 G2
      unfold binM at k3
      cases e1 : peek ρ3' (settle ev') with
      | none => rw [e1] at k3; exact k3.elim
      | some dx =>
        cases e2 : peek ρ3' (settle ey') with
        | none => rw [e1, e2] at k3; exact k3.elim
        | some dy =>
          rw [e1, e2] at k3
          dsimp only at k3
          cases e3 : binD o dx dy with
          | none => rw [e3] at k3; exact k3.elim
          | some r =>
            rw [e3] at k3
            have p1 := (G1'.ref.step G3.step).peek G3.sim e1
            have p2 := G3.ref.peek G3.sim e2
            rw [← hK] at p1 p2
            exact ⟨_, dx, dy, r, p1, p2, e3, by rw [hK]; exact k3.ans G3.sim⟩
end
end Den
set_option autoImplicit false
set_option maxRecDepth 100000
set_option maxHeartbeats 4000000
/-! Den, part F: the rules of expressions, further. -/
namespace Den
open PySem PySem.Spec PyProof.Rows L2 GxR
section
variable {X : Cx} {c : Ct} {e a b : Expr} {es : List Expr} {pos : Pos} {da db dc : M EV} {σ : L2.St} {H : Hp} {Q : VK}

/-- one thing first -/
theorem one {f : EV → M EV} (h : tE c (bnd da f) σ H Q) : tE c da σ H fun x H1 => ∃ g ρ ex, Sim c g σ H1 ρ ∧ Ref c g σ H1 ρ x (settle ex) ∧ Kont c g σ H1 ρ (f ex ρ) Q := by
  obtain ⟨g, ρ, s, k⟩ := h
  obtain ⟨g', ρ', s', k'⟩ := k.bnd s
  refine ⟨g', ρ', s', ?_⟩
  revert k'
  cases da ρ' with
  | bad => exact fun k' => k'
  | exc x ρ1 => exact fun k' => k'
  | ok ev ρ1 => exact fun k' x H1 G1 => let ⟨ev', ρ1', G1', k1⟩ := k' x H1 G1; ⟨g, ρ1', ev', G1'.sim, G1'.ref, k1⟩
theorem oneT {f : EV → M Bool} {Q : Bool → Hp → Prop} (h : tT c (bnd da f) σ H Q) : tE c da σ H fun x H1 => ∃ g ρ ex, Sim c g σ H1 ρ ∧ Ref c g σ H1 ρ x (settle ex) ∧ KontT c g σ H1 ρ (f ex ρ) Q := by
  obtain ⟨g, ρ, s, k⟩ := h
  obtain ⟨g', ρ', s', k'⟩ := k.bnd s
  refine ⟨g', ρ', s', ?_⟩
  revert k'
  cases da ρ' with
  | bad => exact fun k' => k'
  | exc x ρ1 => exact fun k' => k'
  | ok ev ρ1 => exact fun k' x H1 G1 => let ⟨ev', ρ1', G1', k1⟩ := k' x H1 G1; ⟨g, ρ1', ev', G1'.sim, G1'.ref, k1⟩
/-- a worth is kept while another is reckoned -/
theorem next {g : Gh} {ρ : Ev} {v : V} {ev : EV} {f : EV → M EV} (s : Sim c g σ H ρ) (r : Ref c g σ H ρ v ev) (k : Kont c g σ H ρ (bnd db f ρ) Q) :
    tE c db σ H fun y H2 => ∃ ρ2 ey, Sim c g σ H2 ρ2 ∧ Ref c g σ H2 ρ2 v ev ∧ Ref c g σ H2 ρ2 y (settle ey) ∧ Kont c g σ H2 ρ2 (f ey ρ2) Q := by
  refine ⟨g, ρ, s, ?_⟩
  unfold bnd at k
  cases e : db ρ with
  | bad => rw [e] at k; exact k
  | exc x ρ1 => rw [e] at k; exact k
  | ok ev ρ1 =>
    rw [e] at k
    exact fun y H2 G => ⟨ρ1, ev, G.sim, r.step G.step, G.ref, k.step G.step⟩
theorem two {f : EV → EV → M EV} (h : tE c (bnd da fun x => bnd db fun y => f x y) σ H Q) :
    tE c da σ H fun x H1 => tE c db σ H1 fun y H2 => ∃ g ρ ex ey, Sim c g σ H2 ρ ∧ Ref c g σ H2 ρ x (settle ex) ∧ Ref c g σ H2 ρ y (settle ey) ∧ Kont c g σ H2 ρ (f ex ey ρ) Q := by
  have h1 := one h
  obtain ⟨g, ρ, s, k⟩ := h1
  refine ⟨g, ρ, s, ?_⟩
  revert k
  cases da ρ with
  | bad => exact fun k' => k'
  | exc x ρ1 => exact fun k' => k'
  | ok ev ρ1 =>
    intro k x H1 G1
    obtain ⟨g2, ρ2, ex, s2, r2, k2⟩ := k x H1 G1
    obtain ⟨g3, ρ3, s3, k3⟩ := next s2 r2 k2
    refine ⟨g3, ρ3, s3, ?_⟩
    revert k3
    cases db ρ3 with
    | bad => exact fun k' => k'
    | exc x ρ1 => exact fun k' => k'
    | ok ev ρ1 => exact fun k3 y H2 G2 => let ⟨ρ4, ey, z1, z2, z3, z4⟩ := k3 y H2 G2; ⟨g2, ρ4, ex, ey, z1, z2, z3, z4⟩
theorem twoT {f : EV → EV → M Bool} {Q : Bool → Hp → Prop} (h : tT c (bnd da fun x => bnd db fun y => f x y) σ H Q) :
    tE c da σ H fun x H1 => tE c db σ H1 fun y H2 => ∃ g ρ ex ey, Sim c g σ H2 ρ ∧ Ref c g σ H2 ρ x (settle ex) ∧ Ref c g σ H2 ρ y (settle ey) ∧ KontT c g σ H2 ρ (f ex ey ρ) Q := by
  obtain ⟨g, ρ, s, k⟩ := oneT h
  refine ⟨g, ρ, s, ?_⟩
  revert k
  cases da ρ with
  | bad => exact fun k' => k'
  | exc x ρ1 => exact fun k' => k'
  | ok ev ρ1 =>
    intro k x H1 G1
    obtain ⟨g2, ρ2, ex, s2, r2, k2⟩ := k x H1 G1
    refine ⟨g2, ρ2, s2, ?_⟩
    unfold bnd at k2
    cases e : db ρ2 with
    | bad => rw [e] at k2; exact k2
    | exc x ρ1 => rw [e] at k2; exact k2
    | ok ev ρ1 =>
      rw [e] at k2
      exact fun y H2 G => ⟨g2, ρ1, ex, ev, G.sim, r2.step G.step, G.ref, k2.step G.step⟩
/-- the reading of a part is weakened where its end is -/
theorem tE.mono {d : M EV} {Q' : VK} (h : tE c d σ H Q) (w : ∀ v H', Q v H' → Q' v H') : tE c d σ H Q' := by
  obtain ⟨g, ρ, s, k⟩ := h
  refine ⟨g, ρ, s, ?_⟩
  revert k
  cases d ρ with
  | bad => exact id
  | exc x ρ1 => exact id
  | ok ev ρ1 => exact fun k v H' G => w v H' (k v H' G)
theorem tT.mono {d : M Bool} {Q Q' : Bool → Hp → Prop} (h : tT c d σ H Q) (w : ∀ v H', Q v H' → Q' v H') : tT c d σ H Q' := by
  obtain ⟨g, ρ, s, k⟩ := h
  refine ⟨g, ρ, s, ?_⟩
  revert k
  cases d ρ with
  | bad => exact id
  | exc x ρ1 => exact id
  | ok ev ρ1 => exact fun k H' G => w ev H' (k H' G)
theorem Kont.val {g : Gh} {ρ : Ev} {v : V} {d : D} (s : Sim c g σ H ρ) (k : Kont c g σ H ρ (ret (.val d) ρ) Q) (r : Rel c.K (Tt g σ ρ) H v d) : Q v H := k v H (Good.of_val s r)
theorem KontT.val {g : Gh} {ρ : Ev} {b : Bool} {Q : Bool → Hp → Prop} (s : Sim c g σ H ρ) (k : KontT c g σ H ρ (.ok b ρ) Q) : Q b H := k H ⟨s, Stp.refl⟩

/-! ### truth, tests -/
theorem truth_inv {g : Gh} {ρ : Ev} {v : V} {ev : EV} {r : R Bool} (s : Sim c g σ H ρ) (rf : Ref c g σ H ρ v (settle ev)) (e : truthM ev ρ = r) : r = .bad ∨ ∃ k d, r = .ok k ρ ∧ peek ρ (settle ev) = some d ∧ truthD d = some k ∧ TruV c.K v H k := by
  subst e
  have pe : peek ρ ev = peek ρ (settle ev) := by cases ev <;> rfl
  unfold truthM bnd peekM
  rw [pe]
  cases e1 : peek ρ (settle ev) with
  | none => exact .inl rfl
  | some d =>
    show ofO (truthD d) ρ = .bad ∨ _
    cases e2 : truthD d with
    | none => exact .inl rfl
    | some k =>
      refine .inr ⟨k, d, ?_, rfl, e2, tru_of (rf.peek s e1) e2⟩
      dsimp only
      rw [e2]
      rfl
theorem t_plain (hK : X.K = c.K) (ha : PE X a (tE c da)) (he : ∀ whole, isTrue a X.env whole = (do let v ← whole; standAt a.pos; holding [v] (truthy v))) : PT X a (tT c (bnd da truthM)) := by
  refine (pt_truth ha he).weak fun σ H Q h => ?_
  refine (oneT h).mono fun x H1 ⟨g, ρ, ex, s, r, k⟩ => ?_
  rcases truth_inv s r rfl with e | ⟨t, d, e, _, _, tv⟩
  · rw [e] at k; exact k.elim
  · rw [e] at k
    exact ⟨t, by rw [hK]; exact tv, k.val s⟩
theorem r_nt (hK : X.K = c.K) (ha : PE X a (tE c da)) : PE X (.UnaryOp .Not a pos) (tE c (bnd da fun x => bnd (truthM x) fun b => ret (.val (.bool (!b))))) := by
  refine (pe_notT ha).weak fun σ H Q h => ?_
  refine (one h).mono fun x H1 ⟨g, ρ, ex, s, r, k⟩ => ?_
  unfold bnd at k
  rcases truth_inv s r rfl with e | ⟨t, d, e, _, _, tv⟩
  · rw [e] at k; exact k.elim
  · rw [e] at k
    exact ⟨t, by rw [hK]; exact tv, Kont.val s k rel_bl⟩
theorem t_nt (ha : PT X a (tT c (bnd da truthM))) : PT X (.UnaryOp .Not a pos) (tT c (bnd (bnd da fun x => bnd (truthM x) fun b => ret (.val (.bool (!b)))) truthM)) := by
  refine (pt_not ha).weak fun σ H Q ⟨g, ρ, s, k⟩ => ?_
  refine ⟨g, ρ, s, ?_⟩
  unfold bnd at k ⊢
  revert k
  cases da ρ with
  | bad => exact fun k => k
  | exc x ρ1 => exact fun k => k
  | ok ev ρ1 =>
    dsimp only
    cases truthM ev ρ1 with
    | bad => exact fun k => k
    | exc x ρ1 => exact fun k => k
    | ok t ρ2 => exact fun k => k
theorem r_neg (ha : PE X a (tE c da)) : PE X (.UnaryOp .USub a pos) (tE c (bnd da fun x => bnd (intM x) fun i => ret (.val (.int (-i))))) := by
  refine (pe_un un_neg ha).weak fun σ H Q h => ?_
  refine (one h).mono fun x H1 ⟨g, ρ, ex, s, r, k⟩ => ?_
  unfold bnd intM at k
  have pe : peek ρ ex = peek ρ (settle ex) := by cases ex <;> rfl
  unfold bnd peekM at k
  rw [pe] at k
  cases e1 : peek ρ (settle ex) with
  | none => rw [e1] at k; exact k.elim
  | some d =>
    rw [e1] at k
    cases d <;> first | exact k.elim | skip
    rename_i i
    have p := r.peek s e1
    exact ⟨i, p_int p, Kont.val s k rel_int⟩

/-! ### comparisons -/
theorem cmp_inv {g : Gh} {ρ : Ev} {o : Cmp} {x y : V} {ex ey : EV} {r : R EV} (hK : X.K = c.K) (s : Sim c g σ H ρ) (rx : Ref c g σ H ρ x (settle ex)) (ry : Ref c g σ H ρ y (settle ey)) (e : cmpM o ex ey ρ = r) :
    r = .bad ∨ ∃ k, r = .ok (.val (.bool k)) ρ ∧ ∃ T dx dy, PRel X.K T H x dx ∧ PRel X.K T H y dy ∧ cmpD o dx dy = some k := by
  subst e
  unfold cmpM
  cases e1 : peek ρ (settle ex) with
  | none => exact .inl rfl
  | some dx =>
    cases e2 : peek ρ (settle ey) with
    | none => exact .inl rfl
    | some dy =>
      dsimp only
      cases e3 : cmpD o dx dy with
      | none => exact .inl rfl
      | some k =>
        refine .inr ⟨k, rfl, Tt g σ ρ, dx, dy, ?_, ?_, e3⟩
        · rw [hK]; exact rx.peek s e1
        · rw [hK]; exact ry.peek s e2
theorem r_cmp {o : Cmp} (hK : X.K = c.K) (hu : X.A.units + 100 < cLine) (ha : PE X a (tE c da)) (hb : PE X b (tE c db)) (hm : behindInMarks (cmpOf o) b = false) :
    PE X (.Compare a [cmpOf o] [b] pos) (tE c (bnd da fun x => bnd db fun y => cmpM o x y)) := by
  refine (pe_cmpR (cmp_sound hu o) ha hb hm).weak fun σ H Q h => ?_
  refine (two h).mono fun x H1 h1 => h1.mono fun y H2 ⟨g, ρ, ex, ey, s, rx, ry, k⟩ => ?_
  rcases cmp_inv (X := X) hK s rx ry rfl with e | ⟨t, e, T, dx, dy, p1, p2, p3⟩
  · rw [e] at k; exact k.elim
  · rw [e] at k
    exact ⟨T, dx, dy, t, p1, p2, p3, Kont.val s k rel_bl⟩
theorem t_cmp {o : Cmp} (hK : X.K = c.K) (hu : X.A.units + 100 < cLine) (ha : PE X a (tE c da)) (hb : PE X b (tE c db)) (hm : behindInMarks (cmpOf o) b = false) :
    PT X (.Compare a [cmpOf o] [b] pos) (tT c (bnd (bnd da fun x => bnd db fun y => cmpM o x y) truthM)) := by
  refine (pt_cmpR (cmp_sound hu o) ha hb hm).weak fun σ H Q h => ?_
  rw [bnd_assoc] at h
  have h' : tT c (bnd da fun x => bnd db fun y => bnd (cmpM o x y) truthM) σ H Q := by
    have e : (fun a => bnd (bnd db fun y => cmpM o a y) truthM) = fun x => bnd db fun y => bnd (cmpM o x y) truthM := funext fun x => bnd_assoc _ _ _
    rw [e] at h; exact h
  refine (twoT h').mono fun x H1 h1 => h1.mono fun y H2 ⟨g, ρ, ex, ey, s, rx, ry, k⟩ => ?_
  unfold bnd at k
  rcases cmp_inv (X := X) hK s rx ry rfl with e | ⟨t, e, T, dx, dy, p1, p2, p3⟩
  · rw [e] at k; exact k.elim
  · rw [e] at k
    exact ⟨T, dx, dy, t, p1, p2, p3, t, rfl, k.val s⟩
def cmp2M (o p : Cmp) (dc : M EV) (x y : EV) : M EV := bnd (cmpM o x y) fun r => match r with
    | .val (.bool true) => bnd dc fun z => cmpM p y z
    | .val (.bool false) => ret (.val (.bool false))
    | _ => fail
theorem r_cmp2 {o p : Cmp} {cc : Expr} (hK : X.K = c.K) (hu : X.A.units + 100 < cLine) (ha : PE X a (tE c da)) (hb : PE X b (tE c db)) (hc : PE X cc (tE c dc)) (hm : lastMarks [cmpOf o, cmpOf p] [b, cc] = false) :
    PE X (.Compare a [cmpOf o, cmpOf p] [b, cc] pos) (tE c (bnd da fun x => bnd db fun y => cmp2M o p dc x y)) := by
  refine (pe_chain (cmp_sound hu o) (cmp_sound hu p) ha hb hc hm).weak fun σ H Q h => ?_
  refine (two h).mono fun x H1 h1 => h1.mono fun y H2 ⟨g, ρ, ex, ey, s, rx, ry, k⟩ => ?_
  unfold cmp2M at k
  unfold bnd at k
  rcases cmp_inv (X := X) hK s rx ry rfl with e | ⟨t, e, T, dx, dy, p1, p2, p3⟩
  · rw [e] at k; exact k.elim
  · rw [e] at k
    refine ⟨T, dx, dy, t, p1, p2, p3, t, rfl, ?_⟩
    cases t with
    | false => exact Kont.val s k rel_bl
    | true =>
      refine (next s ry k).mono fun z H3 ⟨ρ3, ez, s3, ry3, rz3, k3⟩ => ?_
      have ry4 : Ref c g σ H3 ρ3 y (settle ey) := ry3
      rcases cmp_inv (X := X) hK s3 ry4 rz3 rfl with e | ⟨t, e, T, dx, dy, p1, p2, p3⟩
      · rw [e] at k3; exact k3.elim
      · rw [e] at k3
        exact ⟨T, dx, dy, t, p1, p2, p3, Kont.val s3 k3 rel_bl⟩
theorem t_cmp2 {o p : Cmp} {cc : Expr} (hK : X.K = c.K) (hu : X.A.units + 100 < cLine) (ha : PE X a (tE c da)) (hb : PE X b (tE c db)) (hc : PE X cc (tE c dc)) (hm : lastMarks [cmpOf o, cmpOf p] [b, cc] = false) :
    PT X (.Compare a [cmpOf o, cmpOf p] [b, cc] pos) (tT c (bnd (bnd da fun x => bnd db fun y => cmp2M o p dc x y) truthM)) := by
  refine (pt_chain (cmp_sound hu o) (cmp_sound hu p) ha hb hc hm).weak fun σ H Q h => ?_
  rw [bnd_assoc] at h
  have h' : tT c (bnd da fun x => bnd db fun y => bnd (cmp2M o p dc x y) truthM) σ H Q := by
    have e : (fun a => bnd (bnd db fun y => cmp2M o p dc a y) truthM) = fun x => bnd db fun y => bnd (cmp2M o p dc x y) truthM := funext fun x => bnd_assoc _ _ _
    rw [e] at h; exact h
  refine (twoT h').mono fun x H1 h1 => h1.mono fun y H2 ⟨g, ρ, ex, ey, s, rx, ry, k⟩ => ?_
  unfold cmp2M at k
  rw [bnd_assoc] at k
  unfold bnd at k
  rcases cmp_inv (X := X) hK s rx ry rfl with e | ⟨t, e, T, dx, dy, p1, p2, p3⟩
  · rw [e] at k; exact k.elim
  · rw [e] at k
    refine ⟨T, dx, dy, t, p1, p2, p3, t, rfl, ?_⟩
    cases t with
    | false => exact ⟨false, rfl, k.val s⟩
    | true =>
      dsimp only at k
      refine ⟨g, ρ, s, ?_⟩
      revert k
      cases dc ρ with
      | bad => exact fun k => k
      | exc x ρ1 => exact fun k => k
      | ok ev ρ1 =>
        intro k z H3 G3
        dsimp only at k
        rcases cmp_inv (X := X) hK G3.sim (ry.step G3.step) G3.ref rfl with e | ⟨t, e, T, dx, dy, p1, p2, p3⟩
        · rw [e] at k; exact k.elim
        · rw [e] at k
          exact ⟨T, dx, dy, t, p1, p2, p3, t, rfl, (k.step G3.step).val G3.sim⟩
end
end Den
set_option autoImplicit false
set_option maxRecDepth 100000
set_option maxHeartbeats 4000000
/-! Den, part G: the rules of expressions: and, or, displays, subscripts, built-in functions. -/
namespace Den
open PySem PySem.Spec PyProof.Rows L2 GxR
section
variable {X : Cx} {c : Ct} {e a b : Expr} {es : List Expr} {pos : Pos} {da db dc : M EV} {σ : L2.St} {H : Hp} {Q : VK}

/-! ### and, or -/
theorem coe_inv {g : Gh} {ρ : Ev} {v : V} {ev : EV} {r : R D} (s : Sim c g σ H ρ) (rf : Ref c g σ H ρ v (settle ev)) (e : coe ev ρ = r) :
    r = .bad ∨ ∃ d ρ', r = .ok d ρ' ∧ Good c g σ H ρ v H (.val d) ρ' := by
  have G : Good c g σ H ρ v H (settle ev) ρ := by
    cases ev with
    | val d => exact Good.of_val s rf
    | loc i => exact Good.of_loc s rf
    | fresh ds => exact Good.of_val s rf
  have ce : coe ev ρ = coe (settle ev) ρ := by cases ev <;> rfl
  rw [ce] at e
  cases r with
  | bad => exact .inl rfl
  | exc x ρ' => exact (coe_not e).elim
  | ok d ρ' => exact .inr ⟨d, ρ', rfl, G.coe e⟩
theorem coe_truth {ρ ρ' : Ev} {ev : EV} {d d' : D} (h : coe ev ρ = .ok d ρ') (p : peek ρ (settle ev) = some d') : d = d' := by
  cases ev with
  | val _ => cases h; cases p; rfl
  | fresh _ => cases h; cases p; rfl
  | loc i =>
    simp only [coe] at h
    have p' : (match ρ[i]? with | some (Sl.own _ _ ds) => some (PyData.list ds) | _ => none) = some d' := p
    cases e : ρ[i]? with
    | none => rw [e] at h; cases h
    | some sl =>
      rw [e] at h p'
      cases sl with
      | no => cases h
      | err _ => cases h
      | val _ => cases h
      | own p l ds => cases p <;> cases l <;> first | (cases h; done) | (cases h; cases p'; rfl)
theorem r_and {rest : List Expr} (hK : X.K = c.K) (ha : PE X a (tE c da)) (hb : PE X (.BoolOp .And (b :: rest) pos) (tE c db)) :
    PE X (.BoolOp .And (a :: b :: rest) pos) (tE c (bnd da fun x => bnd (truthM x) fun t => if t then db else bnd (coe x) fun d => ret (.val d))) := by
  refine (pe_andT ha hb).weak fun σ H Q h => ?_
  refine (one h).mono fun x H1 ⟨g, ρ, ex, s, r, k⟩ => ?_
  unfold bnd at k
  rcases truth_inv s r rfl with e | ⟨t, d, e, _, _, tv⟩
  · rw [e] at k; exact k.elim
  · rw [e] at k
    refine ⟨t, by rw [hK]; exact tv, ?_⟩
    cases t with
    | true => exact ⟨g, ρ, s, k⟩
    | false =>
      dsimp only at k
      rw [if_neg Bool.false_ne_true] at k ⊢
      rcases coe_inv s r rfl with e | ⟨d', ρ', e, G⟩
      · rw [e] at k; exact k.elim
      · rw [e] at k; exact k x H1 G
theorem r_or {rest : List Expr} (hK : X.K = c.K) (ha : PE X a (tE c da)) (hb : PE X (.BoolOp .Or (b :: rest) pos) (tE c db)) :
    PE X (.BoolOp .Or (a :: b :: rest) pos) (tE c (bnd da fun x => bnd (truthM x) fun t => if t then bnd (coe x) fun d => ret (.val d) else db)) := by
  refine (pe_orT ha hb).weak fun σ H Q h => ?_
  refine (one h).mono fun x H1 ⟨g, ρ, ex, s, r, k⟩ => ?_
  unfold bnd at k
  rcases truth_inv s r rfl with e | ⟨t, d, e, _, _, tv⟩
  · rw [e] at k; exact k.elim
  · rw [e] at k
    refine ⟨t, by rw [hK]; exact tv, ?_⟩
    cases t with
    | false => exact ⟨g, ρ, s, k⟩
    | true =>
      dsimp only at k
      rw [if_pos rfl] at k ⊢
      rcases coe_inv s r rfl with e | ⟨d', ρ', e, G⟩
      · rw [e] at k; exact k.elim
      · rw [e] at k; exact k x H1 G
theorem coe_sim {g : Gh} {ρ ρ' : Ev} {ev : EV} {d : D} (s : Sim c g σ H ρ) (h : coe ev ρ = .ok d ρ') : GoodX c g σ H ρ H ρ' := by
  cases ev with
  | val _ => cases h; exact ⟨s, Stp.refl⟩
  | fresh _ => cases h; exact ⟨s, Stp.refl⟩
  | loc i =>
    simp only [coe] at h
    cases e : ρ[i]? with
    | none => rw [e] at h; cases h
    | some sl =>
      rw [e] at h
      cases sl with
      | no => cases h
      | err _ => cases h
      | val _ => cases h
      | own p l ds =>
        cases p <;> cases l <;> first | (cases h; done) | skip
        cases h
        obtain ⟨a, _, s2, st, _⟩ := s.freeze e
        exact ⟨s2, st⟩
theorem truthM_inv {ρ ρ' : Ev} {ev : EV} {t : Bool} (h : truthM ev ρ = .ok t ρ') : ρ' = ρ ∧ ∃ d, peek ρ (settle ev) = some d ∧ truthD d = some t := by
  have pe : peek ρ ev = peek ρ (settle ev) := by cases ev <;> rfl
  unfold truthM bnd peekM at h
  rw [pe] at h
  cases e1 : peek ρ (settle ev) with
  | none => rw [e1] at h; cases h
  | some d =>
    rw [e1] at h
    have h' : ofO (truthD d) ρ = .ok t ρ' := h
    cases e2 : truthD d with
    | none => rw [e2] at h'; cases h'
    | some k => rw [e2] at h'; cases h'; exact ⟨rfl, d, rfl, e2⟩
/-- behind a test whose value is handed on: the value is as true as the test told -/
theorem test_last {g : Gh} {H' : Hp} {ρ ρ1 : Ev} {ev : EV} {t : Bool} {Q : Bool → Hp → Prop} (G : GoodX c g σ H ρ H' ρ1) (e : truthM ev ρ1 = .ok t ρ1)
    (k : KontT c g σ H ρ (bnd (bnd (coe ev) fun d => ret (.val d)) truthM ρ1) Q) : Q t H' := by
  obtain ⟨_, d, p, td⟩ := truthM_inv e
  rw [bnd_assoc] at k
  unfold bnd at k
  cases ec : coe ev ρ1 with
  | bad => rw [ec] at k; exact k.elim
  | exc x ρ' => exact (coe_not ec).elim
  | ok d' ρ' =>
    have ed := coe_truth ec p
    subst ed
    rw [ec] at k
    have k' : KontT c g σ H ρ (ofO (truthD d') ρ') Q := k
    rw [td] at k'
    exact k' H' ((coe_sim G.sim ec).trans G.stp)
theorem w_and1 (ha : PT X a (tT c (bnd da truthM))) : PW X (.BoolOp .And [a] pos) (tT c (bnd da truthM)) := pw_and1 ha
theorem w_or1 (ha : PT X a (tT c (bnd da truthM))) : PW X (.BoolOp .Or [a] pos) (tT c (bnd da truthM)) := pw_or1 ha
theorem _root_.L2.PW.weak {X : Cx} {e : Expr} {t t' : TT} (h : PW X e t) (w : ∀ σ H Q, t' σ H Q → t σ H Q) : PW X e t' := ⟨fun wh pins s σ H Q I q => h.run wh pins s σ H Q I (w σ H Q q)⟩
theorem w_and {rest : List Expr} (ha : PT X a (tT c (bnd da truthM))) (hb : PW X (.BoolOp .And (b :: rest) pos) (tT c (bnd db truthM))) :
    PW X (.BoolOp .And (a :: b :: rest) pos) (tT c (bnd (bnd da fun x => bnd (truthM x) fun t => if t then db else bnd (coe x) fun d => ret (.val d)) truthM)) := by
  refine (pw_and ha hb).weak fun σ H Q ⟨g, ρ, s, k⟩ => ?_
  rw [bnd_assoc] at k
  refine ⟨g, ρ, s, ?_⟩
  show KontT c g σ H ρ ((bnd da truthM) ρ) _
  unfold bnd at k
  unfold bnd
  cases e1 : da ρ with
  | bad => rw [e1] at k; exact k
  | exc x ρ1 => rw [e1] at k; exact k
  | ok ev ρ1 =>
    rw [e1] at k
    dsimp only at k ⊢
    cases e2 : truthM ev ρ1 with
    | bad => rw [e2] at k; exact k.elim
    | exc x ρ2 => rw [e2] at k; exact k
    | ok t ρ2 =>
      obtain ⟨rfl, _⟩ := truthM_inv e2
      rw [e2] at k
      dsimp only at k
      intro H' G
      cases t with
      | true =>
        rw [if_pos rfl] at k ⊢
        exact ⟨g, ρ2, G.sim, KontT.step G.stp k⟩
      | false =>
        rw [if_neg Bool.false_ne_true] at k ⊢
        exact test_last G e2 k
theorem w_or {rest : List Expr} (ha : PT X a (tT c (bnd da truthM))) (hb : PW X (.BoolOp .Or (b :: rest) pos) (tT c (bnd db truthM))) :
    PW X (.BoolOp .Or (a :: b :: rest) pos) (tT c (bnd (bnd da fun x => bnd (truthM x) fun t => if t then bnd (coe x) fun d => ret (.val d) else db) truthM)) := by
  refine (pw_or ha hb).weak fun σ H Q ⟨g, ρ, s, k⟩ => ?_
  rw [bnd_assoc] at k
  refine ⟨g, ρ, s, ?_⟩
  show KontT c g σ H ρ ((bnd da truthM) ρ) _
  unfold bnd at k
  unfold bnd
  cases e1 : da ρ with
  | bad => rw [e1] at k; exact k
  | exc x ρ1 => rw [e1] at k; exact k
  | ok ev ρ1 =>
    rw [e1] at k
    dsimp only at k ⊢
    cases e2 : truthM ev ρ1 with
    | bad => rw [e2] at k; exact k.elim
    | exc x ρ2 => rw [e2] at k; exact k
    | ok t ρ2 =>
      obtain ⟨rfl, _⟩ := truthM_inv e2
      rw [e2] at k
      dsimp only at k
      intro H' G
      cases t with
      | false =>
        rw [if_neg Bool.false_ne_true] at k ⊢
        exact ⟨g, ρ2, G.sim, KontT.step G.stp k⟩
      | true =>
        rw [if_pos rfl] at k ⊢
        exact test_last G e2 k
/-- a if t else b -/
theorem r_ite {cc : Expr} (hc : PT X cc (tT c (bnd dc truthM))) (ha : PE X a (tE c da)) (hb : PE X b (tE c db)) :
    PE X (.IfExp cc a b pos) (tE c (bnd dc fun x => bnd (truthM x) fun t => if t then da else db)) := by
  refine (pe_ifExp hc ha hb).weak fun σ H Q ⟨g, ρ, s, k⟩ => ?_
  rw [← bnd_assoc] at k
  obtain ⟨g', ρ', s', k'⟩ := k.bndT s
  refine tT.mono ⟨g', ρ', s', k'⟩ fun t H1 ⟨ρ1, G, k1⟩ => ?_
  cases t with
  | true => rw [if_pos rfl] at k1 ⊢; exact ⟨g, ρ1, G.sim, k1⟩
  | false => rw [if_neg Bool.false_ne_true] at k1 ⊢; exact ⟨g, ρ1, G.sim, k1⟩
theorem pt_ifExp {tc : TT} {ta tb : TT} {cc : Expr} (hc : PT X cc tc) (ha : PT X a ta) (hb : PT X b tb) : PT X (.IfExp cc a b pos) (fun σ H Q => tc σ H fun t H1 => if t = true then ta σ H1 Q else tb σ H1 Q) := by
  refine ⟨fun pins s σ H Q I h => ?_⟩
  refine isTrue_IfExp (thn (hc.run pins s σ H _ I h) fun d s1 ⟨H1, I1, q1⟩ => ?_)
  cases d with
  | true => exact ha.run pins s1 σ H1 Q I1 q1
  | false => exact hb.run pins s1 σ H1 Q I1 q1
theorem t_ite {cc : Expr} (hc : PT X cc (tT c (bnd dc truthM))) (ha : PT X a (tT c (bnd da truthM))) (hb : PT X b (tT c (bnd db truthM))) :
    PT X (.IfExp cc a b pos) (tT c (bnd (bnd dc fun x => bnd (truthM x) fun t => if t then da else db) truthM)) := by
  refine (pt_ifExp hc ha hb).weak fun σ H Q ⟨g, ρ, s, k⟩ => ?_
  rw [bnd_assoc] at k
  have e : (fun x => bnd (bnd (truthM x) fun t => if t then da else db) truthM) = fun x => bnd (truthM x) fun t => bnd (if t then da else db) truthM := funext fun x => bnd_assoc _ _ _
  rw [e, ← bnd_assoc] at k
  obtain ⟨g', ρ', s', k'⟩ := KontT.bndT s k
  refine tT.mono ⟨g', ρ', s', k'⟩ fun t H1 ⟨ρ1, G, k1⟩ => ?_
  cases t with
  | true => exact ⟨g, ρ1, G.sim, k1⟩
  | false => exact ⟨g, ρ1, G.sim, k1⟩

/-! ### displays -/
theorem r_tup {dl : M (List D)} {x1 : Nat} (h : PA X es (tL c dl)) : PE X (.Tuple es x1 pos) (tE c (bnd dl fun ds => if ds.length ≤ line then ret (.val (.tuple ds)) else fail)) := by
  refine (pe_tup h).weak fun σ H Q ⟨g, ρ, s, k⟩ => ?_
  refine ⟨g, ρ, s, ?_⟩
  unfold bnd at k
  cases e1 : dl ρ with
  | bad => rw [e1] at k; exact k
  | exc x ρ1 => rw [e1] at k; exact k
  | ok ds ρ1 =>
    rw [e1] at k
    intro vs H1 G r
    dsimp only at k
    by_cases hz : ds.length ≤ line
    · rw [if_pos hz] at k
      exact ⟨by rw [r.length, ← line_eq]; exact hz, fun p hp => k _ _ ((Good.tup G.sim hp r).trans G.stp)⟩
    · rw [if_neg hz] at k; exact k.elim
theorem r_lst {dl : M (List D)} (h : PA X es (tL c dl)) : PE X (.List es pos) (tE c (bnd dl fun ds => if ds.length ≤ line then ret (.fresh ds) else fail)) := by
  refine (pe_lst h).weak fun σ H Q ⟨g, ρ, s, k⟩ => ?_
  refine ⟨g, ρ, s, ?_⟩
  unfold bnd at k
  cases e1 : dl ρ with
  | bad => rw [e1] at k; exact k
  | exc x ρ1 => rw [e1] at k; exact k
  | ok ds ρ1 =>
    rw [e1] at k
    intro vs H1 G r
    dsimp only at k
    by_cases hz : ds.length ≤ line
    · rw [if_pos hz] at k
      exact ⟨by rw [r.length, ← line_eq]; exact hz, fun p hp => k _ _ ((Good.lst G.sim hp r).trans G.stp)⟩
    · rw [if_neg hz] at k; exact k.elim

/-! ### isinstance -/
def tyName : Ty → String
  | .int => "int" | .bool => "bool" | .str => "str" | .tuple => "tuple" | .list => "list" | .dict => "dict"
def tyK : String → Ty → Bool
  | "bool", .int | "bool", .bool | "int", .int | "str", .str | "list", .list | "tuple", .tuple => true
  | _, _ => false
theorem kb_all (t : Ty) : kitB "bool" (tyName t) = some (tyK "bool" t) ∧ kitB "int" (tyName t) = some (tyK "int" t) ∧ kitB "str" (tyName t) = some (tyK "str" t) ∧ kitB "list" (tyName t) = some (tyK "list" t) ∧ kitB "tuple" (tyName t) = some (tyK "tuple" t) := by
  cases t <;> decide +kernel
theorem kb_bool (t : Ty) (b : Bool) : kitB "bool" (tyName t) = some (isTyD t (.bool b)) := (kb_all t).1.trans (by cases t <;> rfl)
theorem kb_int (t : Ty) (b : Int) : kitB "int" (tyName t) = some (isTyD t (.int b)) := (kb_all t).2.1.trans (by cases t <;> rfl)
theorem kb_str (t : Ty) (b : Str) : kitB "str" (tyName t) = some (isTyD t (.str b)) := (kb_all t).2.2.1.trans (by cases t <;> rfl)
theorem kb_list (t : Ty) (b : List D) : kitB "list" (tyName t) = some (isTyD t (.list b)) := (kb_all t).2.2.2.1.trans (by cases t <;> rfl)
theorem kb_tuple (t : Ty) (b : List D) : kitB "tuple" (tyName t) = some (isTyD t (.tuple b)) := (kb_all t).2.2.2.2.trans (by cases t <;> rfl)
theorem ty_of {K : Fg} {T : Addr → Prop} {v : V} {d : D} (h : PRel K T H v d) (t : Ty) : ∃ u : String, TyX K H v (.type u) ∧ kitB u (tyName t) = some (isTyD t d) := by
  cases d with
  | none => cases p_non h; exact ⟨"NoneType", .base .non, (by cases t <;> decide +kernel : kitB "NoneType" (tyName t) = some (isTyD t .none))⟩
  | bool b => cases p_bl h; exact ⟨"bool", .base (.bl b), kb_bool t b⟩
  | int i => cases p_int h; exact ⟨"int", .base (.int i), kb_int t i⟩
  | str x => obtain ⟨rfl, _⟩ := p_str h; exact ⟨"str", .base (.str x), kb_str t x⟩
  | list ds =>
    obtain ⟨a, vs, rfl, h1, _⟩ := p_lst h
    refine ⟨"list", ?_, kb_list t ds⟩
    rcases h1 with (h1 | ⟨o, h1⟩) | ⟨its, n, sl, h1, _⟩
    · exact .base (.lst h1)
    · exact .base (.frz h1)
    · exact .kList h1 rfl
  | tuple ds =>
    obtain ⟨a, vs, rfl, h1, _⟩ := p_tup h
    refine ⟨"tuple", ?_, kb_tuple t ds⟩
    rcases h1 with ⟨h1 | ⟨o, h1⟩, _⟩ | ⟨o, its, n, h1, h2, _⟩
    · exact .base (.tup h1)
    · exact .fTuple h1
    · exact .kTuple h1 h2
  | dict kvs => have h' : Rel K T H v (.dict kvs) := h; unfold Rel at h'; exact h'.elim
theorem bt_int : bootBuiltins "int" = some (.type "int") := by decide +kernel
theorem bt_bool : bootBuiltins "bool" = some (.type "bool") := by decide +kernel
theorem bt_str : bootBuiltins "str" = some (.type "str") := by decide +kernel
theorem bt_tuple : bootBuiltins "tuple" = some (.type "tuple") := by decide +kernel
theorem bt_list : bootBuiltins "list" = some (.type "list") := by decide +kernel
theorem bt_dict : bootBuiltins "dict" = some (.type "dict") := by decide +kernel
theorem r_isi {p p2 : Pos} (hK : X.K = c.K) (t : Ty) (hg : Gl X "isinstance") (hm : X.mg "isinstance" = none) (hg2 : Gl X (Str.ofString (tyName t))) (hm2 : X.mg (Str.ofString (tyName t)) = none) (ha : PE X a (tE c da)) (ns : isStar a = false) :
    PE X (.Call (.Name "isinstance" p) [a, .Name (Str.ofString (tyName t)) p2] [] pos) (tE c (bnd da fun x => bnd (peekM x) fun d => ret (.val (.bool (isTyD t d))))) := by
  have hb : PE X (.Name (Str.ofString (tyName t)) p2) (tC (.ty (tyName t))) := by
    cases t
    · exact pe_bltn (u := .type "int") hg2 hm2 bt_int rfl
    · exact pe_bltn (u := .type "bool") hg2 hm2 bt_bool rfl
    · exact pe_bltn (u := .type "str") hg2 hm2 bt_str rfl
    · exact pe_bltn (u := .type "tuple") hg2 hm2 bt_tuple rfl
    · exact pe_bltn (u := .type "list") hg2 hm2 bt_list rfl
    · exact pe_bltn (u := .type "dict") hg2 hm2 bt_dict rfl
  refine (pe_callB call_isi hg hm PyProof.Rows.boot_isinstance (pa_cons ha (pa_cons hb pa_nil (by rfl)) (star_cons ns)) (by decide) (by decide) (star_cons ns) (by rfl)).weak fun σ H Q h => ?_
  refine (one h).mono fun x H1 ⟨g, ρ, ex, s, r, k⟩ => ?_
  have pe : peek ρ ex = peek ρ (settle ex) := by cases ex <;> rfl
  unfold bnd peekM at k
  rw [pe] at k
  cases e1 : peek ρ (settle ex) with
  | none => rw [e1] at k; exact k.elim
  | some d =>
    rw [e1] at k
    have pr := r.peek s e1
    rw [← hK] at pr
    obtain ⟨u, h1, h2⟩ := ty_of pr t
    exact ⟨x, _, _, _, _, rfl, .ty _, h1, kit_ty h2, Kont.val s k rel_bl⟩

/-! ### subscripts -/
def isSlice : Expr → Bool
  | .Slice _ _ _ _ => true
  | _ => false
theorem plainIx {b : Expr} (h : isSlice b = false) : PlainIx b := fun o i => by cases b <;> first | rfl | (cases h; done)
theorem r_idx (hK : X.K = c.K) (ha : PE X a (tE c da)) (hb : PE X b (tE c db)) (hs : isSlice b = false) : PE X (.Subscript a b pos) (tE c (bnd da fun x => bnd db fun y => idxM x y)) := by
  refine (pe_ix idx_sound ha hb (plainIx hs)).weak fun σ H Q h => ?_
  refine (two h).mono fun x H1 h1 => h1.mono fun y H2 ⟨g, ρ, ex, ey, s, rx, ry, k⟩ => ?_
  unfold idxM at k
  cases e1 : peek ρ (settle ex) with
  | none => rw [e1] at k; exact k.elim
  | some dx =>
    cases e2 : peek ρ (settle ey) with
    | none => rw [e1, e2] at k; exact k.elim
    | some dy =>
      rw [e1, e2] at k
      dsimp only at k
      cases e3 : idxD dx dy with
      | none => rw [e3] at k; exact k.elim
      | some r =>
        rw [e3] at k
        have p1 := rx.peek s e1
        have p2 := ry.peek s e2
        rw [← hK] at p1 p2
        exact ⟨_, dx, dy, r, p1, p2, e3, fun v hv => Kont.val s k (by rw [← hK]; exact hv)⟩
def KontO (c : Ct) (g : Gh) (σ : L2.St) (H : Hp) (ρ : Ev) (r : R (Option Int)) (Q : Option Int → Hp → Prop) : Prop := match r with
  | .ok o ρ' => ∀ H', GoodX c g σ H ρ H' ρ' → Q o H'
  | .exc k ρ' => ∀ H', GoodX c g σ H ρ H' ρ' → c.W (c.cls k) none σ H'
  | .bad => False
def tOp (c : Ct) (d : M (Option Int)) : TO := fun σ H Q => ∃ g ρ, Sim c g σ H ρ ∧ KontO c g σ H ρ (d ρ) Q
theorem _root_.L2.PO.weak {X : Cx} {e : Option Expr} {t t' : TO} (h : PO X e t) (w : ∀ σ H Q, t' σ H Q → t σ H Q) : PO X e t' := ⟨fun pins s σ H Q I q => h.run pins s σ H Q I (w σ H Q q)⟩
theorem o_none : PO X none (tOp c (ret none)) := (po_none (X := X)).weak fun σ H Q ⟨g, ρ, s, k⟩ => k H ⟨s, Stp.refl⟩
theorem o_some (ha : PE X a (tE c da)) : PO X (some a) (tOp c (bnd da fun x => bnd (intM x) fun i => ret (some i))) := by
  refine (po_some ha).weak fun σ H Q ⟨g, ρ, s, k⟩ => ?_
  refine ⟨g, ρ, s, ?_⟩
  unfold bnd at k
  cases e1 : da ρ with
  | bad => rw [e1] at k; exact k
  | exc x ρ1 => rw [e1] at k; exact k
  | ok ex ρ1 =>
    rw [e1] at k
    intro v H1 G
    dsimp only at k
    unfold intM bnd peekM at k
    have pe : peek ρ1 ex = peek ρ1 (settle ex) := by cases ex <;> rfl
    rw [pe] at k
    cases e2 : peek ρ1 (settle ex) with
    | none => rw [e2] at k; exact k.elim
    | some d =>
      rw [e2] at k
      cases d <;> first | exact k.elim | skip
      rename_i i
      exact ⟨i, p_int (G.ref.peek G.sim e2), k H1 ⟨G.sim, G.step⟩⟩
theorem r_slc {lo hi : Option Expr} {dl dh : M (Option Int)} {p2 : Pos} (hK : X.K = c.K) (ha : PE X a (tE c da)) (hl : PO X lo (tOp c dl)) (hh : PO X hi (tOp c dh)) :
    PE X (.Subscript a (.Slice lo hi none p2) pos) (tE c (bnd da fun x => bnd dl fun l => bnd dh fun h => slcM x l h)) := by
  refine (pe_slice slc_sound ha hl hh).weak fun σ H Q h => ?_
  refine (one h).mono fun x H1 ⟨g, ρ, ex, s, rx, k⟩ => ?_
  refine ⟨g, ρ, s, ?_⟩
  unfold bnd at k
  cases e1 : dl ρ with
  | bad => rw [e1] at k; exact k
  | exc x ρ1 => rw [e1] at k; exact k
  | ok l ρ1 =>
    rw [e1] at k
    intro H2 G2
    refine ⟨g, ρ1, G2.sim, ?_⟩
    dsimp only at k
    cases e2 : dh ρ1 with
    | bad => rw [e2] at k; exact k
    | exc x ρ2 => rw [e2] at k; exact fun H3 G3 => k H3 (G3.trans G2.stp)
    | ok h ρ2 =>
      rw [e2] at k
      intro H3 G3
      dsimp only at k
      have st := G2.stp.trans G3.stp
      have k' := Kont.step st k
      unfold slcM at k'
      cases e3 : peek ρ2 (settle ex) with
      | none => rw [e3] at k'; exact k'.elim
      | some dx =>
        rw [e3] at k'
        dsimp only at k'
        cases e4 : slcD dx l h with
        | none => rw [e4] at k'; exact k'.elim
        | some r =>
          rw [e4] at k'
          have p1 := (rx.step st).peek G3.sim e3
          rw [← hK] at p1
          exact ⟨_, dx, r, p1, e4, by rw [hK]; exact k'.ans G3.sim⟩

/-! ### built-in functions -/
theorem peeks_rel {g : Gh} {ρ : Ev} : ∀ {vs : List V} {es : List EV} {ds : List D}, Sim c g σ H ρ → Refs c g σ H ρ vs es → peeks ρ es = some ds → PRelL c.K (Tt g σ ρ) H vs ds
  | [], [], ds, _, _, h => by cases h; trivial
  | v :: vs, e :: es, ds, s, r, h => by
    unfold peeks at h
    cases e1 : peek ρ e with
    | none => rw [e1] at h; cases h
    | some d =>
      cases e2 : peeks ρ es with
      | none => rw [e1, e2] at h; cases h
      | some ds' =>
        rw [e1, e2] at h
        cases h
        exact ⟨r.1.peek s e1, peeks_rel s r.2 e2⟩
  | [], _ :: _, _, _, r, _ => r.elim
  | _ :: _, [], _, _, r, _ => r.elim
theorem tA.bi {d : M (List EV)} {b : BI} (hK : X.K = c.K) (h : tE c (bnd d fun vs => biM b vs) σ H Q) :
    tA c d σ H fun vs H1 => ∃ T ds r, PRelL X.K T H1 vs ds ∧ biD b ds = some r ∧ Ans X.K T H1 r Q := by
  obtain ⟨g, ρ, s, k⟩ := h
  refine ⟨g, ρ, s, ?_⟩
  unfold bnd at k
  cases e1 : d ρ with
  | bad => rw [e1] at k; exact k
  | exc x ρ1 => rw [e1] at k; exact k
  | ok evs ρ1 =>
    rw [e1] at k
    intro vs H1 G r
    dsimp only at k
    unfold biM at k
    cases e2 : peeks ρ1 evs with
    | none => rw [e2] at k; exact k.elim
    | some ds =>
      rw [e2] at k
      dsimp only at k
      cases e3 : biD b ds with
      | none => rw [e3] at k; exact k.elim
      | some r' =>
        rw [e3] at k
        have p := peeks_rel G.sim r e2
        rw [← hK] at p
        exact ⟨_, ds, r', p, e3, by rw [hK]; exact (Kont.step G.stp k).ans G.sim⟩
def biName : BI → String
  | .len => "len" | .abs => "abs" | .mn => "min" | .mx => "max" | .sum => "sum" | .sorted => "sorted" | .tuple => "tuple" | .list => "list" | .int => "int" | .gcd => "gcd"
theorem boot_sum' : bootBuiltins "sum" = some (.builtin "sum") := by decide +kernel
theorem boot_min' : bootBuiltins "min" = some (.builtin "min") := by decide +kernel
theorem r_bi {p : Pos} {dl : M (List EV)} {b : BI} (hK : X.K = c.K) (hc : biCalm b = false → X.calm = true) (hb : biVal b ≠ .none) (hn : b ≠ .gcd) (hg : Gl X (Str.ofString (biName b))) (hm : X.mg (Str.ofString (biName b)) = none) (h : PA X (e :: es) (tA c dl)) (ns : isStar e = false)
    (hpl : (backTo pos (starEach es X.env)).any (·.1) = false) :
    PE X (.Call (.Name (Str.ofString (biName b)) p) (e :: es) [] pos) (tE c (bnd dl fun vs => biM b vs)) := by
  have hs := bi_sound (X := X) b hc hb
  cases b <;> first | exact absurd rfl hb | exact absurd rfl hn | skip
  · exact (pe_callB hs hg hm PySem.boot_len h (by decide) (by decide) (star_cons ns) hpl).weak fun σ H Q q => tA.bi hK q
  · exact (pe_callB hs hg hm PyProof.Rows.boot_abs h (by decide) (by decide) (star_cons ns) hpl).weak fun σ H Q q => tA.bi hK q
  · exact (pe_callB hs hg hm boot_min' h (by decide) (by decide) (star_cons ns) hpl).weak fun σ H Q q => tA.bi hK q
  · exact (pe_callB hs hg hm PyProof.Rows.boot_max h (by decide) (by decide) (star_cons ns) hpl).weak fun σ H Q q => tA.bi hK q
  · exact (pe_callB hs hg hm boot_sum' h (by decide) (by decide) (star_cons ns) hpl).weak fun σ H Q q => tA.bi hK q
  · exact (pe_callB hs hg hm PyProof.Rows.boot_sorted h (by decide) (by decide) (star_cons ns) hpl).weak fun σ H Q q => tA.bi hK q
  · exact (pe_callTy hs hg hm bt_tuple h (by decide) (by decide) (star_cons ns) hpl).weak fun σ H Q q => tA.bi hK q
  · exact (pe_callTy hs hg hm bt_list h (by decide) (by decide) (star_cons ns) hpl).weak fun σ H Q q => tA.bi hK q
  · exact (pe_callTy hs hg hm bt_int h (by decide) (by decide) (star_cons ns) hpl).weak fun σ H Q q => tA.bi hK q
theorem r_gcd {p : Pos} {dl : M (List EV)} (hK : X.K = c.K) (hc : X.calm = true) (hg : Gl X "gcd") (hm : X.mg "gcd" = some (.builtin "math.gcd")) (h : PA X (e :: es) (tA c dl)) (ns : isStar e = false)
    (hpl : (backTo pos (starEach es X.env)).any (·.1) = false) : PE X (.Call (.Name "gcd" p) (e :: es) [] pos) (tE c (bnd dl fun vs => biM .gcd vs)) :=
  (pe_callBfun (bi_sound (X := X) .gcd (fun _ => hc) (by decide)) hg hm h (by decide) (star_cons ns) hpl).weak fun σ H Q q => tA.bi hK q

/-! ### a list of one's own changed -/
theorem locM_inv {g : Gh} {ρ : Ev} {v : V} {ex : EV} {r : R EV} (s : Sim c g σ H ρ) (rf : Ref c g σ H ρ v (settle ex)) (e : locM ex ρ = r) :
    r = .bad ∨ ∃ i a vs, ex = .loc i ∧ r = .ok ex ρ ∧ v = .ref a ∧ H a = some (.lst vs) := by
  subst e
  cases ex with
  | val _ => exact .inl rfl
  | fresh _ => exact .inl rfl
  | loc i =>
    unfold locM
    cases e : ρ[i]? with
    | none => simp only [e]; exact .inl trivial
    | some sl =>
      cases sl with
      | no => simp only [e]; exact .inl trivial
      | err _ => simp only [e]; exact .inl trivial
      | val _ => simp only [e]; exact .inl trivial
      | own p l ds =>
        obtain ⟨a, vs, h1, h2, _⟩ := s.own i p l ds e
        have rf' : σ[i]? = some (some v) := rf
        rw [rf'] at h1; cases h1
        simp only [e]
        exact .inr ⟨i, a, vs, rfl, trivial, rfl, h2⟩
theorem r_app {p2 : Pos} {o : Expr} (ho : PE X o (tE c da)) (hb : PE X b (tE c db)) (hbase : attributeBase o "append" X.env (eval o X.env) = eval o X.env) (hline : (p2.endLine == pos.line) = true) (ns : isStar b = false)
    (hfew : ((backTo pos (starEach [b] X.env)).all (fun x => !x.1) && (backToKw pos (keywordEach [] X.env)).all (fun x => x.1.isSome)
      && decide ([b].length + ([] : List Keyword).length + (if ([] : List Keyword).isEmpty then 0 else 1) < 30)) = true) :
    PE X (.Call (.Attribute o "append" p2) [b] [] pos) (tE c (bnd da fun x => bnd (locM x) fun _ => bnd db fun y => bnd (coe y) fun d => appM x d)) := by
  refine (pe_bm PySem.F.plainAttrs_list PySem.F.slot_list_append PySem.F.type_list_append mt_append ho (pa_cons hb pa_nil (star_cons ns)) hbase hfew hline (star_cons ns) (by rfl)).weak fun σ H Q h => ?_
  refine (one h).mono fun x H1 ⟨g, ρ, ex, s, r, k⟩ => ?_
  unfold bnd at k
  rcases locM_inv s r rfl with e | ⟨i, a, vs, rfl, e, rfl, ha⟩
  · rw [e] at k; exact k.elim
  · rw [e] at k
    refine ⟨.inl ⟨rfl, vs, SqL.of ha⟩, ?_⟩
    show tE c db σ H1 _
    refine (next s r k).mono fun y H2 ⟨ρ2, ey, s2, rx2, ry2, k2⟩ => ?_
    rcases coe_inv s2 ry2 rfl with e | ⟨d', ρ', e, G⟩
    · rw [e] at k2; exact k2.elim
    · rw [e] at k2
      have k3 := Kont.step G.stp k2
      have rx3 := rx2.step G.stp
      unfold appM at k3
      dsimp only at k3
      cases e4 : ρ'[i]? with
      | none => rw [e4] at k3; exact k3.elim
      | some sl =>
        rw [e4] at k3
        cases sl with
        | no => exact k3.elim
        | err _ => exact k3.elim
        | val _ => exact k3.elim
        | own p l ds =>
          cases l
          · dsimp only at k3
            obtain ⟨b1, us, q1, q2, q3, _⟩ := G.sim.own i p false ds e4
            have rx4 : σ[i]? = some (some (.ref a)) := rx3
            rw [rx4] at q1; cases q1
            by_cases hz : ds.length < line
            · rw [if_pos hz] at k3
              have hl := q3.length
              obtain ⟨s5, t5⟩ := G.sim.mutate e4 rx4 q2 (q3.snoc G.res.2)
              exact ⟨a, us, y, rfl, rfl, q2, by rw [hl, ← line_eq]; exact hz, k3 .non _ ⟨⟨s5, rel_non⟩, t5⟩⟩
            · rw [if_neg hz] at k3; exact k3.elim
          · exact k3.elim
theorem RelL.dropLast {K : Fg} {T : Addr → Prop} {vs : List V} {ds : List D} (h : RelL K T H vs ds) : RelL K T H vs.dropLast ds.dropLast := by
  rw [List.dropLast_eq_take, List.dropLast_eq_take, h.length]
  exact h.take _
theorem r_pop {p2 : Pos} {o : Expr} (hK : X.K = c.K) (ho : PE X o (tE c da)) (hbase : attributeBase o "pop" X.env (eval o X.env) = eval o X.env) (hline : (p2.endLine == pos.line) = true) :
    PE X (.Call (.Attribute o "pop" p2) [] [] pos) (tE c (bnd da fun x => popM x)) := by
  refine (pe_bm0 PySem.F.plainAttrs_list PySem.F.slot_list_pop PySem.F.type_list_pop mt_pop ho hbase hline).weak fun σ H Q h => ?_
  refine (one h).mono fun x H1 ⟨g, ρ, ex, s, r, k⟩ => ?_
  unfold popM at k
  cases ex with
  | val _ => exact k.elim
  | fresh _ => exact k.elim
  | loc i =>
    dsimp only at k
    cases e4 : ρ[i]? with
    | none => rw [e4] at k; exact k.elim
    | some sl =>
      rw [e4] at k
      cases sl with
      | no => exact k.elim
      | err _ => exact k.elim
      | val _ => exact k.elim
      | own p l ds =>
        cases l
        · dsimp only at k
          obtain ⟨a, us, q1, q2, q3, _⟩ := s.own i p false ds e4
          have rx4 : σ[i]? = some (some x) := r
          rw [rx4] at q1; cases q1
          cases e5 : ds.getLast? with
          | none => rw [e5] at k; exact k.elim
          | some d =>
            rw [e5] at k
            rw [List.getLast?_eq_getElem?] at e5
            obtain ⟨y, hy, ry⟩ := q3.get e5
            obtain ⟨s5, t5⟩ := s.mutate e4 rx4 q2 q3.dropLast
            refine ⟨.inl ⟨rfl, us, SqL.of q2⟩, a, us, y, rfl, rfl, q2, by rw [q3.length]; exact hy, k y _ ⟨⟨s5, Rel.ext t5.ext ry⟩, t5⟩⟩
        · exact k.elim
/-- list(reversed(a)) -/
theorem r_rev {p p2 pos2 : Pos} (hK : X.K = c.K) (hc : X.calm = true) (hg : Gl X "list") (hm : X.mg "list" = none) (hg2 : Gl X "reversed") (hm2 : X.mg "reversed" = none) (ha : PE X a (tE c da)) (ns : isStar a = false) :
    PE X (.Call (.Name "list" p) [.Call (.Name "reversed" p2) [a] [] pos2] [] pos) (tE c (bnd da revM)) := by
  refine (pe_lstRev hc hg hm hg2 hm2 ha (star_cons ns)).weak fun σ H Q h => ?_
  refine (one h).mono fun x H1 ⟨g, ρ, ex, s, r, k⟩ => ?_
  have pe : peek ρ ex = peek ρ (settle ex) := by cases ex <;> rfl
  unfold revM bnd peekM at k
  rw [pe] at k
  cases e1 : peek ρ (settle ex) with
  | none => rw [e1] at k; exact k.elim
  | some d =>
    rw [e1] at k
    cases d <;> first | exact k.elim | skip
    rename_i ds
    obtain ⟨a', vs, rfl, h1, h2⟩ := p_lst (r.peek s e1)
    have hq := h1.sq
    rw [← hK] at hq
    exact ⟨a', vs, rfl, hq, fun q hq' => k _ _ (Good.lst s hq' h2.reverse)⟩
end
end Den
set_option autoImplicit false
set_option maxRecDepth 100000
set_option maxHeartbeats 4000000
/-! Den, part H: calls. -/
namespace Den
open PySem PySem.Spec PyProof.Rows L2 GxR
def Gh.ex (g : Gh) (E : Addr → Prop) : Gh := { g with Tc := fun x => g.Tc x ∨ E x }
theorem Gh.ex_plus {g : Gh} {a : Addr} : g.plus a = g.ex fun x => x = a := rfl
theorem Gh.ex_no {g : Gh} : g.ex (fun _ => False) = g := by
  unfold Gh.ex
  cases g
  simp
/-- what a call's callee knows: its caller's lists but those handed over; these it may change -/
def gCall (g : Gh) (σ : L2.St) (H : Hp) (ρ : Ev) (vs : List V) (as : List Sl) : Gh :=
  { Tc := fun a => Tt g σ ρ a ∧ ¬ Own (vs.map some) as a, My := fun a => H a = none ∨ Own (vs.map some) as a, pa := fun i => match vs[i]? with | some (.ref a) => a | _ => 0 }
section
variable {c : Ct} {g : Gh} {σ : L2.St} {H H' : Hp} {ρ ρ' : Ev} {vs : List V} {es : List EV} {as as' : List Sl}
/-- arguments, one by one -/
theorem args_at : ∀ {es : List EV} {vs : List V} {as : List Sl}, Refs c g σ H ρ vs es → argsOf ρ es = some as → vs.length = es.length ∧ as.length = es.length ∧
    (∀ (k : Nat) (v : V) (ev : EV) (sl : Sl), vs[k]? = some v → es[k]? = some ev → as[k]? = some sl →
      (∃ d, ev = .val d ∧ sl = .val d ∧ Rel c.K (Tt g σ ρ) H v d) ∨ ∃ i p ds, ev = .loc i ∧ sl = .own true false ds ∧ ρ[i]? = some (.own p false ds) ∧ σ[i]? = some (some v))
  | [], [], as, _, h => by cases h; exact ⟨rfl, rfl, fun k v ev sl h => by cases k <;> cases h⟩
  | e :: es, v :: vs, as, r, h => by
    unfold argsOf at h
    cases e1 : argOf ρ e with
    | none => rw [e1] at h; cases h
    | some a =>
      cases e2 : argsOf ρ es with
      | none => rw [e1, e2] at h; cases h
      | some as2 =>
        rw [e1, e2] at h
        cases h
        obtain ⟨l1, l2, ih⟩ := args_at r.2 e2
        refine ⟨by simp [l1], by simp [l2], fun k u ev sl h1 h2 h3 => ?_⟩
        cases k with
        | succ k => exact ih k u ev sl h1 h2 h3
        | zero =>
          cases h1; cases h2; cases h3
          cases e with
          | val d => cases e1; exact .inl ⟨d, rfl, rfl, r.1⟩
          | fresh ds => exact (show False from r.1).elim
          | loc i =>
            simp only [argOf] at e1
            cases e3 : ρ[i]? with
            | none => rw [e3] at e1; cases e1
            | some s3 =>
              rw [e3] at e1
              cases s3 with
              | no => cases e1
              | err _ => cases e1
              | val _ => cases e1
              | own p l ds =>
                cases l
                · cases e1; exact .inr ⟨i, p, ds, rfl, rfl, e3, r.1⟩
                · cases e1
  | [], _ :: _, _, r, _ => r.elim
  | _ :: _, [], _, r, _ => r.elim
theorem mem_locs : ∀ {es : List EV} {i : Nat}, i ∈ locs es ↔ ∃ k : Nat, es[k]? = some (.loc i)
  | [], i => by simp [locs]
  | .val d :: es, i => by
    show i ∈ locs es ↔ _
    rw [mem_locs]
    constructor
    · rintro ⟨k, h⟩; exact ⟨k + 1, h⟩
    · rintro ⟨k, h⟩
      cases k with
      | zero => cases h
      | succ k => exact ⟨k, h⟩
  | .fresh d :: es, i => by
    show i ∈ locs es ↔ _
    rw [mem_locs]
    constructor
    · rintro ⟨k, h⟩; exact ⟨k + 1, h⟩
    · rintro ⟨k, h⟩
      cases k with
      | zero => cases h
      | succ k => exact ⟨k, h⟩
  | .loc j :: es, i => by
    show i ∈ j :: locs es ↔ _
    rw [List.mem_cons, mem_locs]
    constructor
    · rintro (rfl | ⟨k, h⟩)
      · exact ⟨0, rfl⟩
      · exact ⟨k + 1, h⟩
    · rintro ⟨k, h⟩
      cases k with
      | zero => cases h; exact .inl rfl
      | succ k => exact .inr ⟨k, h⟩
theorem locs_inj : ∀ {es : List EV} {i k j : Nat}, (locs es).Nodup → es[k]? = some (.loc i) → es[j]? = some (.loc i) → k = j
  | [], i, k, j, _, h, _ => by cases h
  | e :: es, i, 0, 0, _, _, _ => rfl
  | e :: es, i, 0, j + 1, n, h, h' => by
    cases h
    have n' : (i :: locs es).Nodup := n
    exact absurd (mem_locs.mpr ⟨j, h'⟩) (List.nodup_cons.mp n').1
  | e :: es, i, k + 1, 0, n, h, h' => by
    cases h'
    have n' : (i :: locs es).Nodup := n
    exact absurd (mem_locs.mpr ⟨k, h⟩) (List.nodup_cons.mp n').1
  | e :: es, i, k + 1, j + 1, n, h, h' => by
    have n' : (locs es).Nodup := by
      cases e
      · exact n
      · exact (List.nodup_cons.mp (show (_ :: locs es).Nodup from n)).2
      · exact n
    rw [locs_inj (es := es) n' h h']
theorem back_at : ∀ {es : List EV} {as' : List Sl} {ρ ρ' : Ev}, (locs es).Nodup → backOf ρ es as' = some ρ' → ρ'.length = ρ.length ∧
    (∀ j, j ∉ locs es → ρ'[j]? = ρ[j]?) ∧ ∀ (k i : Nat), es[k]? = some (.loc i) → ∃ p l ds0 q r ds, ρ[i]? = some (.own p l ds0) ∧ as'[k]? = some (.own q r ds) ∧ ρ'[i]? = some (.own p l ds)
  | [], [], ρ, ρ', _, h => by cases h; exact ⟨rfl, fun _ _ => rfl, fun k i h => by cases h⟩
  | [], _ :: _, ρ, ρ', _, h => by simp [backOf] at h
  | .val d :: es, [], ρ, ρ', _, h => by simp [backOf] at h
  | .fresh d :: es, [], ρ, ρ', _, h => by simp [backOf] at h
  | .loc d :: es, [], ρ, ρ', _, h => by simp [backOf] at h
  | .val d :: es, a :: as, ρ, ρ', n, h => by
    simp only [backOf] at h
    obtain ⟨h1, h2, h3⟩ := back_at (es := es) n h
    refine ⟨h1, h2, fun k i e => ?_⟩
    cases k with
    | zero => cases e
    | succ k => exact h3 k i e
  | .fresh d :: es, a :: as, ρ, ρ', n, h => by
    simp only [backOf] at h
    obtain ⟨h1, h2, h3⟩ := back_at (es := es) n h
    refine ⟨h1, h2, fun k i e => ?_⟩
    cases k with
    | zero => cases e
    | succ k => exact h3 k i e
  | .loc i :: es, .no :: as, ρ, ρ', n, h => by simp [backOf] at h
  | .loc i :: es, .val _ :: as, ρ, ρ', n, h => by simp [backOf] at h
  | .loc i :: es, .own q r ds :: as, ρ, ρ', n, h => by
    simp only [backOf] at h
    have n' : (i :: locs es).Nodup := n
    cases e1 : ρ[i]? with
    | none => rw [e1] at h; cases h
    | some sl =>
      rw [e1] at h
      cases sl with
      | no => cases h
      | err _ => cases h
      | val _ => cases h
      | own p l ds0 =>
        dsimp only at h
        obtain ⟨h1, h2, h3⟩ := back_at (es := es) (List.nodup_cons.mp n').2 h
        refine ⟨by rw [h1, List.length_set], fun j hj => ?_, fun k j e => ?_⟩
        · have hj' : ¬ (j = i ∨ j ∈ locs es) := fun z => hj (List.mem_cons.mpr z)
          rw [h2 j (fun z => hj' (.inr z)), List.getElem?_set_ne (fun z => hj' (.inl z.symm))]
        · cases k with
          | zero =>
            cases e
            exact ⟨p, l, ds0, q, r, ds, e1, rfl, by rw [h2 i (List.nodup_cons.mp n').1]; exact get_set e1⟩
          | succ k =>
            obtain ⟨p', l', d', q', r', ds', z1, z2, z3⟩ := h3 k j e
            have hne : i ≠ j := fun z => by subst z; exact (List.nodup_cons.mp n').1 (mem_locs.mpr ⟨k, e⟩)
            rw [List.getElem?_set_ne hne] at z1
            exact ⟨p', l', d', q', r', ds', z1, z2, z3⟩
theorem lt_get {α : Type} {l : List α} {i : Nat} (h : i < l.length) : ∃ x, l[i]? = some x := ⟨l[i], List.getElem?_eq_getElem h⟩
theorem get_lt {α : Type} {l : List α} {i : Nat} {x : α} (h : l[i]? = some x) : i < l.length := (List.getElem?_eq_some_iff.mp h).1
theorem some_map {vs : List V} {k : Nat} {v : V} : (vs.map some)[k]? = some (some v) ↔ vs[k]? = some v := by
  rw [List.getElem?_map]
  cases vs[k]? with
  | none => simp
  | some u => simp
/-- the lists handed over -/
theorem own_args (r : Refs c g σ H ρ vs es) (h : argsOf ρ es = some as) (a : Addr) : Own (vs.map some) as a ↔ ∃ (k i : Nat) (p : Bool) (ds : List D), es[k]? = some (.loc i) ∧ vs[k]? = some (.ref a) ∧ as[k]? = some (.own true false ds) ∧ ρ[i]? = some (.own p false ds) ∧ σ[i]? = some (some (.ref a)) := by
  obtain ⟨l1, l2, at1⟩ := args_at r h
  constructor
  · rintro ⟨k, p, l, ds, e1, e2⟩
    have e2' := some_map.mp e2
    obtain ⟨ev, e3⟩ := lt_get (l := es) (i := k) (by have := get_lt e1; omega)
    rcases at1 k _ ev _ e2' e3 e1 with ⟨d, _, z, _⟩ | ⟨i, p', ds', rfl, z, z2, z3⟩
    · cases z
    · cases z
      exact ⟨k, i, p', ds, e3, e2', e1, z2, z3⟩
  · rintro ⟨k, i, p, ds, e1, e2, e3, e4, e5⟩
    exact ⟨k, true, false, ds, e3, some_map.mpr e2⟩
theorem own_sub (r : Refs c g σ H ρ vs es) (h : argsOf ρ es = some as) {a : Addr} (o : Own (vs.map some) as a) : Own σ ρ a := by
  obtain ⟨k, i, p, ds, e1, e2, e3, e4, e5⟩ := (own_args r h a).mp o
  exact ⟨i, p, false, ds, e4, e5⟩
theorem tt_call (r : Refs c g σ H ρ vs es) (h : argsOf ρ es = some as) : Tt (gCall g σ H ρ vs as) (vs.map some) as = Tt g σ ρ := by
  funext a
  apply propext
  constructor
  · rintro (⟨t, _⟩ | t)
    · exact t
    · exact .inr (own_sub r h t)
  · intro t
    by_cases o : Own (vs.map some) as a
    · exact .inr o
    · exact .inl ⟨t, o⟩
theorem call_in (s : Sim c g σ H ρ) (r : Refs c g σ H ρ vs es) (h : argsOf ρ es = some as) (n : (locs es).Nodup) : Sim c (gCall g σ H ρ vs as) (vs.map some) H as := by
  obtain ⟨l1, l2, at1⟩ := args_at r h
  have te := tt_call (H := H) r h
  refine ⟨by rw [List.length_map]; omega, fun k d e => ?_, fun k p l ds e => ?_, fun k j p l ds p' l' ds' a e e' e1 e2 => ?_, fun a e => .inl e, fun a t => ?_, s.tab, fun k j e => ?_⟩
  · rw [te]
    obtain ⟨v, e2⟩ := lt_get (l := vs) (i := k) (by have := get_lt e; omega)
    obtain ⟨ev, e3⟩ := lt_get (l := es) (i := k) (by have := get_lt e; omega)
    rcases at1 k _ ev _ e2 e3 e with ⟨d', _, z, z2⟩ | ⟨i, p', ds', _, z, _⟩
    · cases z; exact ⟨v, some_map.mpr e2, z2⟩
    · cases z
  · rw [te]
    obtain ⟨v, e2⟩ := lt_get (l := vs) (i := k) (by have := get_lt e; omega)
    obtain ⟨ev, e3⟩ := lt_get (l := es) (i := k) (by have := get_lt e; omega)
    rcases at1 k _ ev _ e2 e3 e with ⟨d', _, z, z2⟩ | ⟨i, p', ds', _, z, z2, z3⟩
    · cases z
    · cases z
      obtain ⟨a, us, h1, h2, h3, _⟩ := s.own i p' false ds z2
      rw [z3] at h1; cases h1
      refine ⟨a, us, some_map.mpr e2, h2, h3, .inr ⟨k, true, false, ds, e, some_map.mpr e2⟩, fun _ => ?_, fun z => by cases z⟩
      show a = (match vs[k]? with | some (.ref a) => a | _ => 0)
      rw [e2]
  · have e1' := some_map.mp e1
    have e2' := some_map.mp e2
    obtain ⟨ev, e3⟩ := lt_get (l := es) (i := k) (by have := get_lt e; omega)
    obtain ⟨ev', e3'⟩ := lt_get (l := es) (i := j) (by have := get_lt e'; omega)
    rcases at1 k _ ev _ e1' e3 e with ⟨d', _, z, z2⟩ | ⟨i, q, ds', rfl, z, z2, z3⟩
    · cases z
    · rcases at1 j _ ev' _ e2' e3' e' with ⟨d', _, z', _⟩ | ⟨i', q', ds'', rfl, z', z2', z3'⟩
      · cases z'
      · have hi := s.inj i i' q false ds' q' false ds'' a z2 z2' z3 z3'
        subst hi
        exact locs_inj n e3 e3'
  · rcases t.1 with t | ⟨i, p, l, ds, e1, e2⟩
    · exact s.tcs a t
    · obtain ⟨b, us, h1, h2, _⟩ := s.own i p l ds e1
      rw [e2] at h1; cases h1
      rw [h2]; simp
  · obtain ⟨v, e2⟩ := lt_get (l := vs) (i := k) (by have := get_lt e; omega)
    obtain ⟨ev, e3⟩ := lt_get (l := es) (i := k) (by have := get_lt e; omega)
    rcases at1 k _ ev _ e2 e3 e with ⟨d', _, z, z2⟩ | ⟨i, p', ds', _, z, _⟩
    · cases z
    · cases z
/-- the same lists are one's own behind the call -/
theorem own_back (s : Sim c g σ H ρ) (r : Refs c g σ H ρ vs es) (h : argsOf ρ es = some as) (n : (locs es).Nodup) (b : backOf ρ es as' = some ρ') (a : Addr) : Own σ ρ' a ↔ Own σ ρ a := by
  obtain ⟨lb, b1, b2⟩ := back_at n b
  constructor
  · rintro ⟨j, p, l, ds, e1, e2⟩
    by_cases hj : j ∈ locs es
    · obtain ⟨k, hk⟩ := mem_locs.mp hj
      obtain ⟨p', l', d', q', r', ds', z1, _⟩ := b2 k j hk
      exact ⟨j, p', l', d', z1, e2⟩
    · rw [b1 j hj] at e1
      exact ⟨j, p, l, ds, e1, e2⟩
  · rintro ⟨j, p, l, ds, e1, e2⟩
    by_cases hj : j ∈ locs es
    · obtain ⟨k, hk⟩ := mem_locs.mp hj
      obtain ⟨p', l', d', q', r', ds', _, _, z3⟩ := b2 k j hk
      exact ⟨j, p', l', ds', z3, e2⟩
    · rw [← b1 j hj] at e1
      exact ⟨j, p, l, ds, e1, e2⟩
theorem own_same {E : Addr → Prop} (s' : Sim c ((gCall g σ H ρ vs as).ex E) (vs.map some) H' as') (r : Refs c g σ H ρ vs es) (h : argsOf ρ es = some as) (n : (locs es).Nodup) (b : backOf ρ es as' = some ρ')
    (nw : ∀ (k : Nat) (p l : Bool) (ds : List D), as'[k]? = some (.own p l ds) → ∃ ds0, as[k]? = some (.own p l ds0)) (a : Addr) : Own (vs.map some) as' a ↔ Own (vs.map some) as a := by
  obtain ⟨lb, b1, b2⟩ := back_at n b
  constructor
  · rintro ⟨k, p, l, ds, e1, e2⟩
    obtain ⟨ds0, e3⟩ := nw k p l ds e1
    exact ⟨k, p, l, ds0, e3, e2⟩
  · intro o
    obtain ⟨k, i, p, ds, e1, e2, e3, e4, e5⟩ := (own_args r h a).mp o
    obtain ⟨p', l', d', q', r', ds', _, z2, z3⟩ := b2 k i e1
    exact ⟨k, q', r', ds', z2, some_map.mpr e2⟩
theorem call_out {E T' : Addr → Prop} (s : Sim c g σ H ρ) (r : Refs c g σ H ρ vs es) (h : argsOf ρ es = some as) (n : (locs es).Nodup) (b : backOf ρ es as' = some ρ')
    (nw : ∀ (k : Nat) (p l : Bool) (ds : List D), as'[k]? = some (.own p l ds) → ∃ ds0, as[k]? = some (.own p l ds0))
    (hE : ∀ x, E x → H x = none) (s' : Sim c ((gCall g σ H ρ vs as).ex E) (vs.map some) H' as') (st : Stp c (gCall g σ H ρ vs as) (vs.map some) H as T' H' as') (hT : T' = Tt ((gCall g σ H ρ vs as).ex E) (vs.map some) as') :
    T' = Tt (g.ex E) σ ρ' ∧ Sim c (g.ex E) σ H' ρ' ∧ Stp c g σ H ρ T' H' ρ' := by
  obtain ⟨l1, l2, at1⟩ := args_at r h
  obtain ⟨lb, b1, b2⟩ := back_at n b
  have te := tt_call (H := H) r h
  have ob := own_back s r h n b
  have os := own_same s' r h n b nw
  have tE : T' = Tt (g.ex E) σ ρ' := by
    rw [hT]
    funext a
    apply propext
    show (((Tt g σ ρ a ∧ ¬ Own (vs.map some) as a) ∨ E a) ∨ Own (vs.map some) as' a) ↔ ((g.Tc a ∨ E a) ∨ Own σ ρ' a)
    rw [os, ob]
    constructor
    · rintro ((⟨t | t, _⟩ | t) | t)
      · exact .inl (.inl t)
      · exact .inr t
      · exact .inl (.inr t)
      · exact .inr (own_sub r h t)
    · intro t
      by_cases o : Own (vs.map some) as a
      · exact .inr o
      · rcases t with (t | t) | t
        · exact .inl (.inl ⟨.inl t, o⟩)
        · exact .inl (.inr t)
        · exact .inl (.inl ⟨.inr t, o⟩)
  have ext : Ext (Tt g σ ρ) H T' H' := by
    have := st.ext
    rw [te] at this
    exact this
  have nm : ∀ a, H a ≠ none → ¬ Own (vs.map some) as a → ¬ (gCall g σ H ρ vs as).My a := fun a ha ho z => z.elim (fun z => ha z) ho
  refine ⟨tE, ⟨by rw [lb]; exact s.len, fun j d e => ?_, fun j p l ds e => ?_, fun i j p l ds p' l' ds' a e e' e1 e2 => ?_, fun a e => ?_, fun a t => ?_, s'.tab, fun j k e => ?_⟩, ⟨ext, fun a o na e nt => ?_, st.dom, fun j p ds e => ?_⟩⟩
  · have hj : j ∉ locs es := fun hj => by
      obtain ⟨k, hk⟩ := mem_locs.mp hj
      obtain ⟨p', l', d', q', r', ds', _, _, z3⟩ := b2 k j hk
      rw [e] at z3; cases z3
    rw [b1 j hj] at e
    obtain ⟨v, z1, z2⟩ := s.val j d e
    rw [← tE]
    exact ⟨v, z1, z2.ext ext⟩
  · rw [← tE]
    by_cases hj : j ∈ locs es
    · obtain ⟨k, hk⟩ := mem_locs.mp hj
      obtain ⟨p', l', d', q', r', ds', z1, z2, z3⟩ := b2 k j hk
      rw [e] at z3; cases z3
      obtain ⟨a, us, h1, h2, h3, h4, h5, h6⟩ := s.own j p l d' z1
      obtain ⟨a', us', h1', h2', h3', h4', _⟩ := s'.own k q' r' ds z2
      obtain ⟨v, e2⟩ := lt_get (l := vs) (i := k) (by have := get_lt hk; omega)
      obtain ⟨sl, e4⟩ := lt_get (l := as) (i := k) (by have := get_lt hk; omega)
      rcases at1 k _ _ _ e2 hk e4 with ⟨_, z, _⟩ | ⟨i', q, ds'', z, _, w2, w3⟩
      · cases z
      · cases z
        have h1'' := some_map.mp h1'
        rw [e2] at h1''; cases h1''
        rw [w3] at h1; cases h1
        refine ⟨_, us', w3, h2', by rw [hT]; exact h3', ?_⟩
        refine ⟨h4, h5, fun z t => t.elim (h6 z) fun t => ?_⟩
        have := hE _ t
        rw [h2] at this; cases this
    · rw [b1 j hj] at e
      obtain ⟨a, us, h1, h2, h3, h4, h5, h6⟩ := s.own j p l ds e
      have ho : ¬ Own (vs.map some) as a := fun o => by
        obtain ⟨k, i, p', ds', e1, e2, e3, e4, e5⟩ := (own_args r h a).mp o
        have := s.inj i j p' false ds' p l ds a e4 e e5 h1
        subst this
        exact hj (mem_locs.mpr ⟨k, e1⟩)
      refine ⟨a, us, h1, st.fr a _ (nm a (by rw [h2]; simp) ho) h2 (fun _ z => by cases z), h3.ext ext, h4, h5, fun z t => t.elim (h6 z) fun t => ?_⟩
      have := hE _ t
      rw [h2] at this; cases this
  · have f1 : ∀ {j : Nat} {q l : Bool} {fs : List D}, ρ'[j]? = some (.own q l fs) → ∃ fs q l, ρ[j]? = some (.own q l fs) := fun {j q l fs} e => by
      by_cases hj : j ∈ locs es
      · obtain ⟨k, hk⟩ := mem_locs.mp hj
        obtain ⟨p', l', d', q', r', ds', z1, z2, z3⟩ := b2 k j hk
        exact ⟨_, _, _, z1⟩
      · rw [b1 j hj] at e
        exact ⟨_, _, _, e⟩
    obtain ⟨_, _, _, f⟩ := f1 e
    obtain ⟨_, _, _, f'⟩ := f1 e'
    exact s.inj i j _ _ _ _ _ _ a f f' e1 e2
  · cases q : H a with
    | none => exact s.new a q
    | some o => exact absurd e (st.dom a (by rw [q]; simp))
  · rcases t with t | t
    · exact st.dom a (s.tcs a t)
    · exact s'.tcs a (.inr t)
  · have hj : j ∉ locs es := fun hj => by
      obtain ⟨k', hk⟩ := mem_locs.mp hj
      obtain ⟨p', l', d', q', r', ds', _, _, z3⟩ := b2 k' j hk
      rw [e] at z3; cases z3
    rw [b1 j hj] at e
    exact s.err j k e
  · refine st.fr a o (fun z => ?_) e nt
    rcases z with z | z
    · rw [e] at z; cases z
    · obtain ⟨k, i, p', ds', e1, e2, e3, e4, e5⟩ := (own_args r h a).mp z
      obtain ⟨a', us, h1, h2, h3, h4, h5⟩ := s.own i p' false ds' e4
      rw [e5] at h1; cases h1
      exact na h4
  · have hj : j ∉ locs es := fun hj => by
      obtain ⟨k, hk⟩ := mem_locs.mp hj
      obtain ⟨v, e2⟩ := lt_get (l := vs) (i := k) (by have := get_lt hk; omega)
      obtain ⟨sl, e4⟩ := lt_get (l := as) (i := k) (by have := get_lt hk; omega)
      rcases at1 k _ _ _ e2 hk e4 with ⟨_, z, _⟩ | ⟨i', q, ds'', z, _, w2, w3⟩
      · cases z
      · cases z
        rw [e] at w2; cases w2
    rw [b1 j hj]; exact e
end

/-! ### what a def promises -/
def NwO (as as' : List Sl) : Prop := ∀ (k : Nat) (p l : Bool) (ds : List D), as'[k]? = some (.own p l ds) → ∃ ds0, as[k]? = some (.own p l ds0)
def KontF (c : Ct) (g : Gh) (σ : L2.St) (H : Hp) (as : List Sl) (r : FR) (Q : VK) (E : XK) : Prop := match r with
  | .ok ev as' => (∀ i, ev ≠ .loc i) ∧ NwO as as' ∧ ∀ v H', Good c g σ H as v H' ev as' → Q v H'
  | .exc k as' => NwO as as' ∧ ∀ H', GoodX c g σ H as H' as' → E (c.cls k) none H'
  | .bad => False
/-- lists as they are handed over -/
def Av (as : List Sl) : Prop := ∀ (k : Nat) (p l : Bool) (ds : List D), as[k]? = some (.own p l ds) → p = true ∧ l = false
/-- what a function of the evaluator does with its arguments' slots -/
structure WfF (np : Nat) (F : List Sl → FR) : Prop where
  len : ∀ as, F as ≠ .bad → as.length = np
  ok : ∀ as ev as', Av as → F as = .ok ev as' → (∀ i, ev ≠ .loc i) ∧ NwO as as'
  exc : ∀ as k as', Av as → F as = .exc k as' → NwO as as'
def spF (c : Ct) (np : Nat) (F : List Sl → FR) : Sp := fun vs H Q E => vs.length = np ∧ ∃ (g : Gh) (as : List Sl), Av as ∧ Sim c g (vs.map some) H as ∧ KontF c g (vs.map some) H as (F as) Q E
section
variable {X : Cx} {c : Ct} {e : Expr} {es : List Expr} {pos : Pos} {σ : L2.St} {H : Hp} {Q : VK} {Γ : Fns} {f np : Nat}
/-- the call, from behind the arguments -/
theorem call_go {g : Gh} {ρ : Ev} {vs : List V} {evs : List EV} (wf : WfF np (Γ f))
    (s : Sim c g σ H ρ) (r : Refs c g σ H ρ vs evs) (k : Kont c g σ H ρ (callM Γ f evs ρ) Q) : spF c np (Γ f) vs H Q fun cls d H' => c.W cls d σ H' := by
  unfold callM at k
  cases e1 : argsOf ρ evs with
  | none => rw [e1] at k; exact k.elim
  | some as =>
    rw [e1] at k
    dsimp only at k
    by_cases n : (locs evs).Nodup
    · rw [if_pos n] at k
      obtain ⟨l1, l2, at1⟩ := args_at r e1
      have ci := call_in s r e1 n
      have av : Av as := fun k p l ds e => by
        obtain ⟨v, e2⟩ := lt_get (l := vs) (i := k) (by have := get_lt e; omega)
        obtain ⟨ev, e3⟩ := lt_get (l := evs) (i := k) (by have := get_lt e; omega)
        rcases at1 k _ ev _ e2 e3 e with ⟨d', _, z, z2⟩ | ⟨i, p', ds', _, z, _⟩
        · cases z
        · cases z; exact ⟨rfl, rfl⟩
      cases e2 : Γ f as with
      | bad => rw [e2] at k; exact k.elim
      | exc x as' =>
        rw [e2] at k
        refine ⟨by rw [l1, ← l2]; exact wf.len as (by rw [e2]; simp), _, as, av, ci, ?_⟩
        rw [e2]
        have hw := wf.exc as x as' av e2
        refine ⟨hw, fun H' G => ?_⟩
        dsimp only at k
        cases e3 : backOf ρ evs as' with
        | none => rw [e3] at k; exact k.elim
        | some ρ' =>
          rw [e3] at k
          have z := call_out (E := fun _ => False) s r e1 n e3 hw (fun _ z => z.elim) (by rw [Gh.ex_no]; exact G.sim) G.stp (by rw [Gh.ex_no])
          rw [Gh.ex_no] at z
          obtain ⟨z1, z2, z3⟩ := z
          exact k H' ⟨z2, z1 ▸ z3⟩
      | ok ev as' =>
        rw [e2] at k
        refine ⟨by rw [l1, ← l2]; exact wf.len as (by rw [e2]; simp), _, as, av, ci, ?_⟩
        rw [e2]
        obtain ⟨hl, hw⟩ := wf.ok as ev as' av e2
        refine ⟨hl, hw, fun v H' G => ?_⟩
        dsimp only at k
        cases e3 : backOf ρ evs as' with
        | none => rw [e3] at k; exact k.elim
        | some ρ' =>
          rw [e3] at k
          refine k v H' ?_
          cases ev with
          | loc i => exact (hl i rfl).elim
          | val d =>
            have z := call_out (E := fun _ => False) s r e1 n e3 hw (fun _ z => z.elim) (by rw [Gh.ex_no]; exact G.res.1) G.stp (by rw [Gh.ex_no]; rfl)
            rw [Gh.ex_no] at z
            obtain ⟨z1, z2, z3⟩ := z
            refine ⟨⟨z2, ?_⟩, ?_⟩
            · rw [← z1]; exact G.res.2
            · show Stp c g σ H ρ (Tt g σ ρ') H' ρ'
              exact z1 ▸ z3
          | fresh ds =>
            obtain ⟨a, us, rfl, s', ha, hr, nt, my⟩ := G.res
            have st := G.stp
            rw [tr_fresh] at st
            have hE : ∀ x, x = a → H x = none := fun x hx => by
              subst hx
              rcases my with z | z
              · exact z
              · exact absurd (.inr ((own_same (E := fun y => y = x) s' r e1 n e3 hw x).mpr z)) nt
            obtain ⟨z1, z2, z3⟩ := call_out (E := fun x => x = a) s r e1 n e3 hw hE s' st rfl
            have na : ¬ Tt g σ ρ' a := by
              rintro (t | o)
              · exact s.tcs a t (hE a rfl)
              · obtain ⟨i, p, l, ds', o1, o2⟩ := (own_back s r e1 n e3 a).mp o
                obtain ⟨b, us', h1, h2, _⟩ := s.own i p l ds' o1
                rw [o2] at h1; cases h1
                rw [hE a rfl] at h2; cases h2
            refine ⟨⟨a, us, rfl, z2, ha, ?_, na, s.new a (hE a rfl)⟩, ?_⟩
            · show RelL c.K (Tt (g.ex fun x => x = a) σ ρ') H' us ds
              rw [← z1]; exact hr
            · rw [tr_fresh]
              exact z1 ▸ z3
    · rw [if_neg n] at k; exact k.elim
/-- the same promise, whatever is wished of an exception -/
theorem r_call {kk : Nat} {fa : Addr} {fd : FuncData} {ps : List Str} {x : Str} {p : Pos} {dl : M (List EV)} (wf : WfF np (Γ f))
    (F : FnOk X.prog X.w X.K X.mg X.base (L2N.CX X.prog X.w) kk fa fd ps (spF c np (Γ f))) (hr : Room kk X.A) (hg : Gl X x) (hm : X.mg x = some (.ref fa)) (hk : PySem.W.keepIn X.K (.ref fa) = true) (hb : Binds X.K fd ps []) (tk : L2N.Takes X c.W)
    (ha : PA X (e :: es) (tA c dl)) (hdb : (x == ("__debug__" : Str)) = false) (ns : isStar e = false) (hpl : (backTo pos (starEach es X.env)).any (·.1) = false) :
    PE X (.Call (.Name x p) (e :: es) [] pos) (tE c (bnd dl fun vs => callM Γ f vs)) := by
  refine (pe_callS (E := WE c.W) F hr hg hm hk hb (fun σ => L2N.passAt tk σ) ha hdb (star_cons ns) hpl).weak fun σ H Q ⟨g, ρ, s, k⟩ => ?_
  refine ⟨g, ρ, s, ?_⟩
  unfold bnd at k
  cases e1 : dl ρ with
  | bad => rw [e1] at k; exact k
  | exc x ρ1 => rw [e1] at k; exact k
  | ok evs ρ1 =>
    rw [e1] at k
    exact fun vs H1 G r => call_go wf G.sim r (Kont.step G.stp k)
end
end Den
set_option autoImplicit false
set_option maxRecDepth 100000
set_option maxHeartbeats 4000000
/-! Den, part I: statements. -/
namespace Den
open PySem PySem.Spec PyProof.Rows L2 GxR
section
variable {c : Ct} {g : Gh} {σ σ1 σ2 : L2.St} {H H1 H2 : Hp} {ρ ρ1 ρ2 : Ev} {T2 : Addr → Prop}
theorem Stp.trans2 (x : Stp c g σ H ρ (Tt g σ1 ρ1) H1 ρ1) (y : Stp c g σ1 H1 ρ1 T2 H2 ρ2) : Stp c g σ H ρ T2 H2 ρ2 :=
  ⟨x.ext.trans y.ext, fun a o n h t => y.fr a o n (x.fr a o n h t) t, fun a h => y.dom a (x.dom a h), fun i p ds h => y.lk i p ds (x.lk i p ds h)⟩
/-- a slot that is walked stays where it is -/
def AtL (σ : L2.St) (ρ : Ev) (σ1 : L2.St) : Prop := ∀ (i : Nat) (p : Bool) (ds : List D), ρ[i]? = some (.own p true ds) → σ1[i]? = σ[i]?
theorem AtL.refl : AtL σ ρ σ := fun _ _ _ _ => rfl
theorem AtL.trans (x : AtL σ ρ σ1) (y : AtL σ1 ρ1 σ2) (s : Stp c g σ H ρ T2 H1 ρ1) : AtL σ ρ σ2 := fun i p ds h => (y i p ds (s.lk i p ds h)).trans (x i p ds h)
structure GoodS (c : Ct) (g : Gh) (σ : L2.St) (H : Hp) (ρ : Ev) (σ1 : L2.St) (H1 : Hp) (ρ1 : Ev) : Prop where
  sim : Sim c g σ1 H1 ρ1
  stp : Stp c g σ H ρ (Tt g σ1 ρ1) H1 ρ1
  at_ : AtL σ ρ σ1
structure GoodR (c : Ct) (g : Gh) (σ : L2.St) (H : Hp) (ρ : Ev) (σ1 : L2.St) (v : V) (H1 : Hp) (ev : EV) (ρ1 : Ev) : Prop where
  res : Res c g σ1 H1 ρ1 v ev
  stp : Stp c g σ H ρ (Tr g σ1 ρ1 v ev) H1 ρ1
  at_ : AtL σ ρ σ1
theorem GoodS.refl (s : Sim c g σ H ρ) : GoodS c g σ H ρ σ H ρ := ⟨s, Stp.refl, AtL.refl⟩
theorem GoodS.trans (x : GoodS c g σ H ρ σ1 H1 ρ1) (y : GoodS c g σ1 H1 ρ1 σ2 H2 ρ2) : GoodS c g σ H ρ σ2 H2 ρ2 := ⟨y.sim, x.stp.trans2 y.stp, x.at_.trans y.at_ x.stp⟩
theorem GoodS.transR {v : V} {ev : EV} (x : GoodS c g σ H ρ σ1 H1 ρ1) (y : GoodR c g σ1 H1 ρ1 σ2 v H2 ev ρ2) : GoodR c g σ H ρ σ2 v H2 ev ρ2 := ⟨y.res, x.stp.trans2 y.stp, x.at_.trans y.at_ x.stp⟩
theorem GoodX.s (x : GoodX c g σ H ρ H1 ρ1) : GoodS c g σ H ρ σ H1 ρ1 := ⟨x.sim, x.stp, AtL.refl⟩
theorem Good.s {v : V} {ev : EV} (x : Good c g σ H ρ v H1 ev ρ1) : GoodS c g σ H ρ σ H1 ρ1 := ⟨x.sim, x.step, AtL.refl⟩
theorem Good.r {v : V} {ev : EV} (x : Good c g σ H ρ v H1 ev ρ1) : GoodR c g σ H ρ σ v H1 ev ρ1 := ⟨x.res, x.stp, AtL.refl⟩
def KontS (c : Ct) (g : Gh) (σ : L2.St) (H : Hp) (ρ : Ev) (r : SR) (D : Ends) : Prop := match r with
  | .nx ρ1 => ∀ σ1 H1, GoodS c g σ H ρ σ1 H1 ρ1 → D.nx σ1 H1
  | .bk ρ1 => ∀ σ1 H1, GoodS c g σ H ρ σ1 H1 ρ1 → D.bk σ1 H1
  | .ct ρ1 => ∀ σ1 H1, GoodS c g σ H ρ σ1 H1 ρ1 → D.ct σ1 H1
  | .rt ev ρ1 => ∀ σ1 v H1, GoodR c g σ H ρ σ1 v H1 ev ρ1 → D.rt v H1
  | .ex k ρ1 => ∀ σ1 H1, GoodS c g σ H ρ σ1 H1 ρ1 → c.W (c.cls k) none σ1 H1
  | .bad => False
def tS (c : Ct) (d : Ev → SR) : TS := fun D σ H => ∃ g ρ, Sim c g σ H ρ ∧ KontS c g σ H ρ (d ρ) D
theorem KontS.step {r : SR} {D : Ends} (x : GoodS c g σ H ρ σ1 H1 ρ1) (k : KontS c g σ H ρ r D) : KontS c g σ1 H1 ρ1 r D := by
  cases r with
  | nx ρ2 => exact fun σ2 H2 y => k σ2 H2 (x.trans y)
  | bk ρ2 => exact fun σ2 H2 y => k σ2 H2 (x.trans y)
  | ct ρ2 => exact fun σ2 H2 y => k σ2 H2 (x.trans y)
  | ex e ρ2 => exact fun σ2 H2 y => k σ2 H2 (x.trans y)
  | rt ev ρ2 => exact fun σ2 v H2 y => k σ2 v H2 (x.transR y)
  | bad => exact k
/-- an expression first -/
theorem KontS.bnd {d : M EV} {f : EV → Ev → SR} {D : Ends} (s : Sim c g σ H ρ) (k : KontS c g σ H ρ (sE d f ρ) D) :
    tE c d σ H fun v H1 => ∃ ev ρ1, Good c g σ H ρ v H1 ev ρ1 ∧ KontS c g σ H1 ρ1 (f ev ρ1) D := by
  refine ⟨g, ρ, s, ?_⟩
  unfold sE at k
  cases e : d ρ with
  | bad => rw [e] at k; exact k
  | exc x ρ' => rw [e] at k; exact fun H' G => k σ H' G.s
  | ok ev ρ' =>
    rw [e] at k
    exact fun v H' G => ⟨ev, ρ', G, k.step G.s⟩
theorem KontS.bndT {d : M Bool} {f : Bool → Ev → SR} {D : Ends} (s : Sim c g σ H ρ) (k : KontS c g σ H ρ (sE d f ρ) D) :
    tT c d σ H fun b H1 => ∃ ρ1, GoodX c g σ H ρ H1 ρ1 ∧ KontS c g σ H1 ρ1 (f b ρ1) D := by
  refine ⟨g, ρ, s, ?_⟩
  unfold sE at k
  cases e : d ρ with
  | bad => rw [e] at k; exact k
  | exc x ρ' => rw [e] at k; exact fun H' G => k σ H' G.s
  | ok ev ρ' =>
    rw [e] at k
    exact fun H' G => ⟨ρ', G, k.step G.s⟩
theorem sE_assoc {α β : Type} (m : M α) (f : α → M β) (h : β → Ev → SR) : sE (Den.bnd m f) h = sE m fun a => sE (f a) h := by
  funext ρ
  unfold sE Den.bnd
  cases m ρ <;> rfl
/-- one thing first -/
theorem oneS {d : M EV} {f : EV → Ev → SR} {D : Ends} (h : tS c (sE d f) D σ H) : tE c d σ H fun x H1 => ∃ g ρ ex, Sim c g σ H1 ρ ∧ Ref c g σ H1 ρ x (settle ex) ∧ KontS c g σ H1 ρ (f ex ρ) D := by
  obtain ⟨g, ρ, s, k⟩ := h
  exact (k.bnd s).mono fun x H1 ⟨ev, ρ1, G, k1⟩ => ⟨g, ρ1, ev, G.sim, G.ref, k1⟩
theorem nextS {db : M EV} {v : V} {ev : EV} {f : EV → Ev → SR} {D : Ends} (s : Sim c g σ H ρ) (r : Ref c g σ H ρ v ev) (k : KontS c g σ H ρ (sE db f ρ) D) :
    tE c db σ H fun y H2 => ∃ ρ2 ey, Sim c g σ H2 ρ2 ∧ GoodX c g σ H ρ H2 ρ2 ∧ Ref c g σ H2 ρ2 v ev ∧ Ref c g σ H2 ρ2 y (settle ey) ∧ KontS c g σ H2 ρ2 (f ey ρ2) D := by
  refine ⟨g, ρ, s, ?_⟩
  unfold sE at k
  cases e : db ρ with
  | bad => rw [e] at k; exact k
  | exc x ρ1 => rw [e] at k; exact fun H' G => k σ H' G.s
  | ok ev ρ1 =>
    rw [e] at k
    exact fun y H2 G => ⟨ρ1, ev, G.sim, ⟨G.sim, G.step⟩, r.step G.step, G.ref, k.step G.s⟩

/-! ### slots set -/
theorem Own.set_iff {i : Nat} {v : Option V} {sl sl' : Sl} {a : Addr} (h : ρ[i]? = some sl) (n : ∀ p l ds, sl ≠ .own p l ds) (n' : ∀ p l ds, sl' ≠ .own p l ds) : Own (σ.set i v) (ρ.set i sl') a ↔ Own σ ρ a := by
  constructor
  · rintro ⟨j, p, l, ds, e1, e2⟩
    rcases set_get e1 with ⟨_, e⟩ | ⟨ne, e⟩
    · exact absurd e.symm (n' p l ds)
    · rw [List.getElem?_set_ne ne] at e2
      exact ⟨j, p, l, ds, e, e2⟩
  · rintro ⟨j, p, l, ds, e1, e2⟩
    by_cases q : i = j
    · subst q
      rw [h] at e1
      exact absurd (Option.some.inj e1) (n p l ds)
    · exact ⟨j, p, l, ds, by rw [List.getElem?_set_ne q]; exact e1, by rw [List.getElem?_set_ne q]; exact e2⟩
theorem Sim.put {i : Nat} {v : V} {d : D} {sl : Sl} (s : Sim c g σ H ρ) (h : ρ[i]? = some sl) (n : ∀ p l ds, sl ≠ .own p l ds) (r : Rel c.K (Tt g σ ρ) H v d) :
    Tt g (σ.set i (some v)) (ρ.set i (.val d)) = Tt g σ ρ ∧ Sim c g (σ.set i (some v)) H (ρ.set i (.val d)) ∧ AtL σ ρ (σ.set i (some v)) := by
  have te : Tt g (σ.set i (some v)) (ρ.set i (.val d)) = Tt g σ ρ := by
    funext a
    apply propext
    show (g.Tc a ∨ _) ↔ (g.Tc a ∨ _)
    rw [Own.set_iff h n (fun _ _ _ z => by cases z)]
  have li : i < σ.length := by rw [s.len]; exact get_lt h
  refine ⟨te, ⟨by rw [List.length_set, List.length_set]; exact s.len, fun j d' e => ?_, fun j p l ds e => ?_, fun j k p l ds p' l' ds' a e e' e1 e2 => ?_, s.new, s.tcs, s.tab, s.errS2 (fun _ z => nomatch z)⟩, fun j p ds e => ?_⟩
  · rw [te]
    rcases set_get e with ⟨rfl, e0⟩ | ⟨ne, e0⟩
    · cases e0
      exact ⟨v, by rw [List.getElem?_set]; simp [li], r⟩
    · obtain ⟨u, h1, h2⟩ := s.val j d' e0
      exact ⟨u, by rw [List.getElem?_set_ne ne]; exact h1, h2⟩
  · rw [te]
    rcases set_get e with ⟨rfl, e0⟩ | ⟨ne, e0⟩
    · cases e0
    · obtain ⟨u, vs, h1, h2⟩ := s.own j p l ds e0
      exact ⟨u, vs, by rw [List.getElem?_set_ne ne]; exact h1, h2⟩
  · rcases set_get e with ⟨rfl, e0⟩ | ⟨ne, e0⟩
    · cases e0
    · rcases set_get e' with ⟨rfl, e0'⟩ | ⟨ne', e0'⟩
      · cases e0'
      · rw [List.getElem?_set_ne ne] at e1
        rw [List.getElem?_set_ne ne'] at e2
        exact s.inj j k p l ds p' l' ds' a e0 e0' e1 e2
  · by_cases q : i = j
    · subst q
      rw [h] at e
      exact absurd (Option.some.inj e) (n p true ds)
    · rw [List.getElem?_set_ne q]
theorem Sim.forget {E E' : Addr → Prop} (hE : ∀ x, E' x → E x) (s : Sim c (g.ex E) σ H ρ) : Sim c (g.ex E') σ H ρ := by
  have x : Ext (Tt (g.ex E) σ ρ) H (Tt (g.ex E') σ ρ) H := Ext.weak fun b h => by
    rcases h with (h | h) | h
    · exact .inl (.inl h)
    · exact .inl (.inr (hE b h))
    · exact .inr h
  refine ⟨s.len, fun i d h => ?_, fun i p l ds h => ?_, s.inj, s.new, fun b h => s.tcs b (h.elim .inl fun z => .inr (hE b z)), s.tab, s.err⟩
  · obtain ⟨v, h1, h2⟩ := s.val i d h
    exact ⟨v, h1, h2.ext x⟩
  · obtain ⟨a, vs, h1, h2, h3, h4, h5, h6⟩ := s.own i p l ds h
    exact ⟨a, vs, h1, h2, h3.ext x, h4, h5, fun z t => h6 z (t.elim .inl fun z => .inr (hE _ z))⟩
theorem Sim.putOwn {E E' : Addr → Prop} {i : Nat} {a : Addr} {us : List V} {ds : List D} {sl : Sl} (s : Sim c (g.ex E) σ H ρ) (hE : ∀ x, E x ↔ E' x ∨ x = a) (h : ρ[i]? = some sl) (n : ∀ p l ds, sl ≠ .own p l ds)
    (ha : H a = some (.lst us)) (r : RelL c.K (Tt (g.ex E) σ ρ) H us ds) (nt : ¬ Tt g σ ρ a) (ne' : ¬ E' a) (my : g.My a) :
    Tt (g.ex E') (σ.set i (some (.ref a))) (ρ.set i (.own false false ds)) = Tt (g.ex E) σ ρ ∧ Sim c (g.ex E') (σ.set i (some (.ref a))) H (ρ.set i (.own false false ds)) ∧ AtL σ ρ (σ.set i (some (.ref a))) := by
  have li : i < σ.length := by rw [s.len]; exact get_lt h
  have lk : (σ.set i (some (V.ref a)))[i]? = some (some (.ref a)) := by rw [List.getElem?_set]; simp [li]
  have oe : ∀ x, Own (σ.set i (some (.ref a))) (ρ.set i (.own false false ds)) x ↔ Own σ ρ x ∨ x = a := fun x => by
    constructor
    · rintro ⟨j, p, l, ds', e1, e2⟩
      by_cases q : i = j
      · subst q
        rw [lk] at e2; cases e2
        exact .inr rfl
      · rw [List.getElem?_set_ne q] at e1 e2
        exact .inl ⟨j, p, l, ds', e1, e2⟩
    · rintro (⟨j, p, l, ds', e1, e2⟩ | rfl)
      · by_cases q : i = j
        · subst q
          rw [h] at e1
          exact absurd (Option.some.inj e1) (n p l ds')
        · exact ⟨j, p, l, ds', by rw [List.getElem?_set_ne q]; exact e1, by rw [List.getElem?_set_ne q]; exact e2⟩
      · exact ⟨i, false, false, ds, get_set h, lk⟩
  have te : Tt (g.ex E') (σ.set i (some (.ref a))) (ρ.set i (.own false false ds)) = Tt (g.ex E) σ ρ := by
    funext x
    apply propext
    show ((g.Tc x ∨ E' x) ∨ _) ↔ ((g.Tc x ∨ E x) ∨ _)
    rw [oe, hE]
    constructor
    · rintro ((t | t) | (t | t))
      · exact .inl (.inl t)
      · exact .inl (.inr (.inl t))
      · exact .inr t
      · exact .inl (.inr (.inr t))
    · rintro ((t | (t | t)) | t)
      · exact .inl (.inl t)
      · exact .inl (.inr t)
      · exact .inr (.inr t)
      · exact .inr (.inl t)
  refine ⟨te, ⟨by rw [List.length_set, List.length_set]; exact s.len, fun j d' e => ?_, fun j p l ds' e => ?_, fun j k p l ds1 p' l' ds' b e e' e1 e2 => ?_, s.new, fun b t => ?_, s.tab, s.errS2 (fun _ z => nomatch z)⟩, fun j p ds e => ?_⟩
  · rw [te]
    rcases set_get e with ⟨rfl, e0⟩ | ⟨ne, e0⟩
    · cases e0
    · obtain ⟨u, h1, h2⟩ := s.val j d' e0
      exact ⟨u, by rw [List.getElem?_set_ne ne]; exact h1, h2⟩
  · rw [te]
    rcases set_get e with ⟨rfl, e0⟩ | ⟨ne, e0⟩
    · cases e0
      exact ⟨a, us, lk, ha, r, my, fun z => (Bool.false_ne_true z).elim, fun _ (t : g.Tc a ∨ E' a) => t.elim (fun t => nt (.inl t)) ne'⟩
    · obtain ⟨u, vs, h1, h2, h3, h4, h5, h6⟩ := s.own j p l ds' e0
      exact ⟨u, vs, by rw [List.getElem?_set_ne ne]; exact h1, h2, h3, h4, h5, fun z t => h6 z (t.elim .inl fun t => .inr ((hE u).mpr (.inl t)))⟩
  · have own_a : ∀ {j : Nat} {p l : Bool} {ds : List D}, ρ[j]? = some (.own p l ds) → σ[j]? = some (some (.ref a)) → False := fun {j p l ds} z1 z2 => nt (.inr ⟨j, p, l, ds, z1, z2⟩)
    by_cases q : i = j
    · by_cases q' : i = k
      · rw [← q, ← q']
      · subst q
        rw [lk] at e1; cases e1
        rw [List.getElem?_set_ne q'] at e' e2
        exact (own_a e' e2).elim
    · by_cases q' : i = k
      · subst q'
        rw [lk] at e2; cases e2
        rw [List.getElem?_set_ne q] at e e1
        exact (own_a e e1).elim
      · rw [List.getElem?_set_ne q] at e e1
        rw [List.getElem?_set_ne q'] at e' e2
        exact s.inj j k _ _ _ _ _ _ b e e' e1 e2
  · rcases t with t | t
    · exact s.tcs b (.inl t)
    · exact s.tcs b (.inr ((hE b).mpr (.inl t)))
  · by_cases q : i = j
    · subst q
      rw [h] at e
      exact absurd (Option.some.inj e) (n p true ds)
    · rw [List.getElem?_set_ne q]
/-- slots forgotten -/
theorem Sim.kill {i : Nat} {sl : Sl} (s : Sim c g σ H ρ) (h : ρ[i]? = some sl) (n : ∀ l ds, sl ≠ .own true l ds) (n2 : ∀ p ds, sl ≠ .own p true ds) : GoodS c g σ H ρ σ H (ρ.set i .no) := by
  have sub : ∀ x, Tt g σ (ρ.set i .no) x → Tt g σ ρ x := by
    rintro x (t | ⟨j, p, l, es, e1, e2⟩)
    · exact .inl t
    · rcases set_get e1 with ⟨_, e⟩ | ⟨_, e⟩
      · cases e
      · exact .inr ⟨j, p, l, es, e, e2⟩
  have x : Ext (Tt g σ ρ) H (Tt g σ (ρ.set i .no)) H := Ext.weak sub
  refine ⟨⟨by rw [List.length_set]; exact s.len, fun j d e => ?_, fun j p l es e => ?_, fun j k p l es p' l' es' b e e' => ?_, s.new, s.tcs, s.tab, s.errS (fun _ z => nomatch z)⟩, ⟨x, fun _ _ _ h _ => h, fun _ h => h, fun j p es e => ?_⟩, AtL.refl⟩
  · rcases set_get e with ⟨rfl, e0⟩ | ⟨_, e0⟩
    · cases e0
    · obtain ⟨v, q1, q2⟩ := s.val j d e0
      exact ⟨v, q1, q2.ext x⟩
  · rcases set_get e with ⟨rfl, e0⟩ | ⟨_, e0⟩
    · cases e0
    · obtain ⟨b, us, q1, q2, q3, q4⟩ := s.own j p l es e0
      exact ⟨b, us, q1, q2, q3.ext x, q4⟩
  · rcases set_get e with ⟨rfl, e0⟩ | ⟨_, e0⟩
    · cases e0
    · rcases set_get e' with ⟨rfl, e1⟩ | ⟨_, e1⟩
      · cases e1
      · exact s.inj j k p l es p' l' es' b e0 e1
  · by_cases q : i = j
    · subst q
      rw [h] at e
      exact absurd (Option.some.inj e) (n2 p es)
    · rw [List.getElem?_set_ne q]; exact e
theorem kills_good : ∀ {is : List Nat} {ρ ρ' : Ev}, Sim c g σ H ρ → kills ρ is = some ρ' → GoodS c g σ H ρ σ H ρ'
  | [], ρ, ρ', s, h => by cases h; exact GoodS.refl s
  | i :: is, ρ, ρ', s, h => by
    unfold kills at h
    cases e : ρ[i]? with
    | none => rw [e] at h; cases h
    | some sl =>
      rw [e] at h
      cases sl with
      | no =>
        have G := s.kill e (fun _ _ z => by cases z) (fun _ _ z => by cases z)
        exact G.trans (kills_good G.sim h)
      | val d =>
        have G := s.kill e (fun _ _ z => by cases z) (fun _ _ z => by cases z)
        exact G.trans (kills_good G.sim h)
      | err d =>
        have G := s.kill e (fun _ _ z => by cases z) (fun _ _ z => by cases z)
        exact G.trans (kills_good G.sim h)
      | own p l ds =>
        cases p
        · cases l
          · have G := s.kill e (fun _ _ z => by cases z) (fun _ _ z => by cases z)
            exact G.trans (kills_good G.sim h)
          · cases h
        · cases h
end

/-! ### several worths on their way into slots -/
def Gh.hold (g : Gh) (a : Addr) : Gh := { Tc := fun x => g.Tc x ∨ x = a, My := fun x => g.My x ∧ x ≠ a, pa := g.pa }
def PR (c : Ct) (g : Gh) (E : Addr → Prop) (σ : L2.St) (H : Hp) (ρ : Ev) : List V → List EV → Prop
  | [], [] => ∀ x, ¬ E x
  | v :: vs, .val d :: es => Rel c.K (Tt (g.ex E) σ ρ) H v d ∧ PR c g E σ H ρ vs es
  | v :: vs, .fresh ds :: es => ∃ a us, ∃ E' : Addr → Prop, v = .ref a ∧ (∀ x, E x ↔ E' x ∨ x = a) ∧ H a = some (.lst us) ∧ RelL c.K (Tt (g.ex E) σ ρ) H us ds ∧ ¬ Tt g σ ρ a ∧ g.My a ∧ PR c (g.hold a) E' σ H ρ vs es
  | _, _ => False
section
variable {c : Ct} {H : Hp}
theorem PR.mono : ∀ {vs : List V} {es : List EV} {g1 g2 : Gh} {E : Addr → Prop} {σ1 σ2 : L2.St} {ρ1 ρ2 : Ev}, PR c g1 E σ1 H ρ1 vs es → (∀ x, Tt g2 σ2 ρ2 x → Tt g1 σ1 ρ1 x) → (∀ x, g1.My x → g2.My x) → PR c g2 E σ2 H ρ2 vs es
  | [], [], _, _, _, _, _, _, _, h, _, _ => h
  | v :: vs, .val d :: es, g1, g2, E, σ1, σ2, ρ1, ρ2, h, t, m => by
    refine ⟨h.1.ext (Ext.weak fun x z => ?_), PR.mono h.2 t m⟩
    rcases z with (z | z) | z
    · exact (t x (.inl z)).elim (fun z => .inl (.inl z)) .inr
    · exact .inl (.inr z)
    · exact (t x (.inr z)).elim (fun z => .inl (.inl z)) .inr
  | v :: vs, .fresh ds :: es, g1, g2, E, σ1, σ2, ρ1, ρ2, h, t, m => by
    obtain ⟨a, us, E', e, hE, ha, hr, nt, my, r⟩ := h
    refine ⟨a, us, E', e, hE, ha, hr.ext (Ext.weak fun x z => ?_), fun z => nt (t a z), m a my, PR.mono r (fun x z => ?_) fun x z => ⟨m x z.1, z.2⟩⟩
    · rcases z with (z | z) | z
      · exact (t x (.inl z)).elim (fun z => .inl (.inl z)) .inr
      · exact .inl (.inr z)
      · exact (t x (.inr z)).elim (fun z => .inl (.inl z)) .inr
    · rcases z with (z | z) | z
      · exact (t x (.inl z)).elim (fun z => .inl (.inl z)) .inr
      · exact .inl (.inr z)
      · exact (t x (.inr z)).elim (fun z => .inl (.inl z)) .inr
  | v :: vs, .loc i :: es, _, _, _, _, _, _, _, h, _, _ => h.elim
  | [], _ :: _, _, _, _, _, _, _, _, h, _, _ => h.elim
  | _ :: _, [], _, _, _, _, _, _, _, h, _, _ => h.elim
theorem PR.apart : ∀ {vs : List V} {es : List EV} {g : Gh} {E : Addr → Prop} {σ : L2.St} {ρ : Ev}, PR c g E σ H ρ vs es → ∀ x, E x → ¬ Tt g σ ρ x
  | [], [], _, _, _, _, h, x, z => (h x z).elim
  | v :: vs, .val d :: es, g, E, σ, ρ, h, x, z => PR.apart h.2 x z
  | v :: vs, .fresh ds :: es, g, E, σ, ρ, h, x, z => by
    obtain ⟨a, us, E', e, hE, ha, hr, nt, my, r⟩ := h
    rcases (hE x).mp z with z | z
    · exact fun t => PR.apart r x z (t.elim (fun t => .inl (.inl t)) .inr)
    · rw [z]; exact nt
  | v :: vs, .loc i :: es, _, _, _, _, h, _, _ => h.elim
  | [], _ :: _, _, _, _, _, h, _, _ => h.elim
  | _ :: _, [], _, _, _, _, h, _, _ => h.elim
/-- σ with the slots set, from the left -/
def setS : L2.St → List Nat → List V → L2.St
  | σ, i :: is, v :: vs => setS (σ.set i (some v)) is vs
  | σ, _, _ => σ
theorem putL_cons {i : Nat} {is : List Nat} {o : Bool} {os : List Bool} {v : V} {vs : List V} {ev : EV} {es : List EV} {g : Gh} {E : Addr → Prop} {σ : L2.St} {ρ ρ' : Ev} {sl : Sl}
    (ih : ∀ {g : Gh} {E : Addr → Prop} {σ : L2.St} {ρ : Ev}, Sim c (g.ex E) σ H ρ → PR c g E σ H ρ vs es → putL ρ is os es = some ρ' →
      Sim c g (setS σ is vs) H ρ' ∧ (∀ x, Tt g (setS σ is vs) ρ' x → Tt (g.ex E) σ ρ x) ∧ AtL σ ρ (setS σ is vs) ∧ ∀ (i : Nat) (p : Bool) (ds : List D), ρ[i]? = some (.own p true ds) → ρ'[i]? = some (.own p true ds))
    (s : Sim c (g.ex E) σ H ρ) (r : PR c g E σ H ρ (v :: vs) (ev :: es)) (e : ρ[i]? = some sl) (hcp : canPut sl = true)
    (h : (match (generalizing := false) ev with
        | .val d => putL (ρ.set i (.val d)) is os es
        | .fresh ds => putL (ρ.set i (if o then .own false false ds else .val (.list ds))) is os es
        | .loc _ => none) = some ρ') :
    Sim c g (setS σ (i :: is) (v :: vs)) H ρ' ∧ (∀ x, Tt g (setS σ (i :: is) (v :: vs)) ρ' x → Tt (g.ex E) σ ρ x) ∧ AtL σ ρ (setS σ (i :: is) (v :: vs)) ∧ ∀ (j : Nat) (p : Bool) (ds : List D), ρ[j]? = some (.own p true ds) → ρ'[j]? = some (.own p true ds) := by
      have nk1 : ∀ (l : Bool) (ds : List D), sl ≠ .own true l ds := fun l ds z => by subst z; cases hcp
      have nk2 : ∀ (p : Bool) (ds : List D), sl ≠ .own p true ds := fun p ds z => by subst z; cases p <;> cases hcp
      have h' : (match (generalizing := false) ev with
        | .val d => putL ((ρ.set i .no).set i (.val d)) is os es
        | .fresh ds => putL ((ρ.set i .no).set i (if o then .own false false ds else .val (.list ds))) is os es
        | .loc _ => none) = some ρ' := by
        cases ev with
        | val d => dsimp only; rw [List.set_set]; exact h
        | fresh ds => dsimp only; rw [List.set_set]; exact h
        | loc j => exact h
      have K := s.kill e nk1 nk2
      have subO : ∀ x, Own σ (ρ.set i .no) x → Own σ ρ x := by
        rintro x ⟨j, p, l, fs, e1, e2⟩
        rcases set_get e1 with ⟨_, e3⟩ | ⟨_, e3⟩
        · cases e3
        · exact ⟨j, p, l, fs, e3, e2⟩
      have sub0 : ∀ x, Tt (g.ex E) σ (ρ.set i .no) x → Tt (g.ex E) σ ρ x := fun x z => z.elim .inl fun z => .inr (subO x z)
      have r0 : PR c g E σ H (ρ.set i .no) (v :: vs) (ev :: es) := r.mono (fun x z => z.elim .inl fun z => .inr (subO x z)) fun _ z => z
      -- from the slot without anything
      suffices q : Sim c g (setS σ (i :: is) (v :: vs)) H ρ' ∧ (∀ x, Tt g (setS σ (i :: is) (v :: vs)) ρ' x → Tt (g.ex E) σ (ρ.set i .no) x) ∧ AtL σ (ρ.set i .no) (setS σ (i :: is) (v :: vs)) ∧ ∀ (j : Nat) (p : Bool) (ds : List D), (ρ.set i .no)[j]? = some (.own p true ds) → ρ'[j]? = some (.own p true ds) from
        ⟨q.1, fun x z => sub0 x (q.2.1 x z), fun j p ds z => q.2.2.1 j p ds (K.stp.lk j p ds z), fun j p ds z => q.2.2.2 j p ds (K.stp.lk j p ds z)⟩
      have e := get_set (x := Sl.no) e
      have s := K.sim
      generalize hρ : ρ.set i Sl.no = ρ at *
      have r := r0
      have nn : ∀ (p l : Bool) (ds : List D), Sl.no ≠ .own p l ds := fun _ _ _ z => nomatch z
      have keepL : ∀ {sl' : Sl} (j : Nat) (p : Bool) (ds : List D), ρ[j]? = some (.own p true ds) → (ρ.set i sl')[j]? = some (.own p true ds) := fun {sl'} j p ds z => by
        by_cases q : i = j
        · subst q
          rw [e] at z
          exact absurd (Option.some.inj z) (nn p true ds)
        · rw [List.getElem?_set_ne q]; exact z
      cases ev with
      | loc j => cases h'
      | val d =>
        obtain ⟨te, s1, at1⟩ := s.put e nn r.1
        have te' : Tt g (σ.set i (some v)) (ρ.set i (.val d)) = Tt g σ ρ := by
          funext a
          apply propext
          show (g.Tc a ∨ _) ↔ (g.Tc a ∨ _)
          rw [Own.set_iff e nn (fun _ _ _ z => by cases z)]
        obtain ⟨z1, z2, z3, z4⟩ := ih s1 (r.2.mono (fun x z => by rw [te'] at z; exact z) fun _ z => z) h'
        refine ⟨z1, fun x z => by rw [← te]; exact z2 x z, fun j p ds z => ?_, fun j p ds z => z4 j p ds (keepL j p ds z)⟩
        exact (z3 j p ds (keepL j p ds z)).trans (at1 j p ds z)
      | fresh ds =>
        obtain ⟨a, us, E', rfl, hE, ha, hr, nt, my, r'⟩ := r
        have nE : ¬ E' a := fun z => r'.apart a z (.inl (.inr rfl))
        cases o with
        | true =>
          obtain ⟨te, s1, at1⟩ := s.putOwn hE e nn ha hr nt nE my
          have sub : ∀ x, Tt g (σ.set i (some (.ref a))) (ρ.set i (.own false false ds)) x → Tt (g.hold a) σ ρ x := by
            rintro x (z | ⟨j, p, l, ds', e1, e2⟩)
            · exact .inl (.inl z)
            · rcases set_get e1 with ⟨rfl, q⟩ | ⟨ne, q⟩
              · have li : i < σ.length := by rw [s.len]; exact get_lt e
                rw [List.getElem?_set] at e2
                simp [li] at e2
                exact .inl (.inr e2.symm)
              · rw [List.getElem?_set_ne ne] at e2
                exact .inr ⟨j, p, l, ds', q, e2⟩
          obtain ⟨z1, z2, z3, z4⟩ := ih s1 (r'.mono sub fun _ z => z.1) h'
          refine ⟨z1, fun x z => by rw [← te]; exact z2 x z, fun j p ds z => ?_, fun j p ds z => z4 j p ds (keepL j p ds z)⟩
          exact (z3 j p ds (keepL j p ds z)).trans (at1 j p ds z)
        | false =>
          have s0 := s.forget (E' := E') fun x z => (hE x).mpr (.inl z)
          have xw : Ext (Tt (g.ex E) σ ρ) H (Tt (g.ex E') σ ρ) H := Ext.weak fun b z => by
            rcases z with (z | z) | z
            · exact .inl (.inl z)
            · exact .inl (.inr ((hE b).mpr (.inl z)))
            · exact .inr z
          have rl : Rel c.K (Tt (g.ex E') σ ρ) H (.ref a) (.list ds) := by
            unfold Rel
            refine ⟨a, us, rfl, .inl ⟨.inl ha, ?_⟩, hr.ext xw⟩
            rintro ((z | z) | z)
            · exact nt (.inl z)
            · exact nE z
            · exact nt (.inr z)
          obtain ⟨te, s1, at1⟩ := s0.put e nn rl
          have te' : Tt g (σ.set i (some (.ref a))) (ρ.set i (.val (.list ds))) = Tt g σ ρ := by
            funext a
            apply propext
            show (g.Tc a ∨ _) ↔ (g.Tc a ∨ _)
            rw [Own.set_iff e nn (fun _ _ _ z => by cases z)]
          obtain ⟨z1, z2, z3, z4⟩ := ih s1 (r'.mono (fun x z => by rw [te'] at z; exact z.elim (fun z => .inl (.inl z)) .inr) fun _ z => z.1) h'
          refine ⟨z1, fun x z => ?_, fun j p ds z => ?_, fun j p ds z => z4 j p ds (keepL j p ds z)⟩
          · have := z2 x z
            rw [te] at this
            rcases this with (t | t) | t
            · exact .inl (.inl t)
            · exact .inl (.inr ((hE x).mpr (.inl t)))
            · exact .inr t
          · exact (z3 j p ds (keepL j p ds z)).trans (at1 j p ds z)
theorem putL_good : ∀ {is : List Nat} {os : List Bool} {vs : List V} {es : List EV} {g : Gh} {E : Addr → Prop} {σ : L2.St} {ρ ρ' : Ev}, Sim c (g.ex E) σ H ρ → PR c g E σ H ρ vs es → putL ρ is os es = some ρ' →
    Sim c g (setS σ is vs) H ρ' ∧ (∀ x, Tt g (setS σ is vs) ρ' x → Tt (g.ex E) σ ρ x) ∧ AtL σ ρ (setS σ is vs) ∧ ∀ (i : Nat) (p : Bool) (ds : List D), ρ[i]? = some (.own p true ds) → ρ'[i]? = some (.own p true ds)
  | [], [], [], [], g, E, σ, ρ, ρ', s, r, h => by
    cases h
    have s' := s.forget (E' := fun _ => False) (fun x z => z.elim)
    rw [Gh.ex_no] at s'
    exact ⟨s', fun x z => z.elim (fun z => .inl (.inl z)) .inr, AtL.refl, fun _ _ _ h => h⟩
  | i :: is, o :: os, v :: vs, ev :: es, g, E, σ, ρ, ρ', s, r, h => by
    unfold putL at h
    cases e : ρ[i]? with
    | none => rw [e] at h; cases h
    | some sl =>
      rw [e] at h
      dsimp only at h
      by_cases hcp : canPut sl = true
      · rw [if_pos hcp] at h
        exact putL_cons (ih := fun s r h => putL_good s r h) s r e hcp h
      · rw [if_neg hcp] at h; cases h
  | [], [], _ :: _, _ :: _, _, _, _, _, _, _, _, h => by simp [putL] at h
  | [], [], [], _ :: _, _, _, _, _, _, _, r, _ => r.elim
  | [], [], _ :: _, [], _, _, _, _, _, _, r, _ => r.elim
  | _ :: _, _, [], _ :: _, _, _, _, _, _, _, r, _ => r.elim
  | _ :: _, _, _ :: _, [], _, _, _, _, _, _, r, _ => r.elim
  | _ :: _, [], _ :: _, _ :: _, _, _, _, _, _, _, _, h => by simp [putL] at h
  | _ :: _, _ :: _, [], [], _, _, _, _, _, _, _, h => by simp [putL] at h
  | _ :: _, [], [], [], _, _, _, _, _, _, _, h => by simp [putL] at h
  | [], _ :: _, [], [], _, _, _, _, _, _, _, h => by simp [putL] at h
  | [], _ :: _, _ :: _, _ :: _, _, _, _, _, _, _, _, h => by simp [putL] at h
  | [], _ :: _, [], _ :: _, _, _, _, _, _, _, r, _ => r.elim
  | [], _ :: _, _ :: _, [], _, _, _, _, _, _, r, _ => r.elim
end
/-- the worths, and the lists among them that nobody else knows -/
def KontP (c : Ct) (g : Gh) (σ : L2.St) (H : Hp) (ρ : Ev) (r : R (List EV)) (Q : List V → Hp → Prop) : Prop := match r with
  | .ok es ρ' => ∀ (E : Addr → Prop) vs H', Sim c (g.ex E) σ H' ρ' → Stp c g σ H ρ (Tt (g.ex E) σ ρ') H' ρ' → PR c g E σ H' ρ' vs es → Q vs H'
  | .exc k ρ' => ∀ H', GoodX c g σ H ρ H' ρ' → c.W (c.cls k) none σ H'
  | .bad => False
def tP (c : Ct) (d : M (List EV)) : TA := fun σ H Q => ∃ g ρ, Sim c g σ H ρ ∧ KontP c g σ H ρ (d ρ) Q
section
variable {X : Cx} {c : Ct} {g : Gh} {e : Expr} {es : List Expr} {σ : L2.St} {H H1 H2 : Hp} {ρ ρ1 ρ2 : Ev}
theorem soft_inv {v : V} {ev : EV} {r : R EV} (G : Good c g σ H ρ v H1 ev ρ1) (e : soft ev ρ1 = r) : r = .bad ∨ ∃ ev' ρ2, r = .ok ev' ρ2 ∧ Good c g σ H ρ v H1 ev' ρ2 ∧ ∀ i, ev' ≠ .loc i := by
  subst e
  cases ev with
  | val d => exact .inr ⟨_, _, rfl, G, fun _ z => by cases z⟩
  | fresh ds => exact .inr ⟨_, _, rfl, G, fun _ z => by cases z⟩
  | loc i =>
    show bnd (coe (.loc i)) (fun d => ret (EV.val d)) ρ1 = R.bad ∨ _
    cases e : coe (.loc i) ρ1 with
    | bad => exact .inl (by show bnd _ _ _ = _; unfold bnd; rw [e])
    | exc x ρ' => exact (coe_not e).elim
    | ok d ρ2 => exact .inr ⟨.val d, ρ2, (by show bnd (coe (.loc i)) (fun d => ret (EV.val d)) ρ1 = _; unfold bnd; rw [e]; rfl), G.coe e, fun _ z => by cases z⟩
/-- the ghost while one holds a new list -/
theorem Sim.hold {a : Addr} {us : List V} {ds : List D} (s : Sim c (g.plus a) σ H ρ) (ha : H a = some (.lst us)) (nt : ¬ Tt g σ ρ a) : Sim c (g.hold a) σ H ρ := by
  have te : Tt (g.hold a) σ ρ = Tt (g.plus a) σ ρ := rfl
  refine ⟨s.len, s.val, fun i p l ds e => ?_, s.inj, fun b e => ⟨s.new b e, fun z => by rw [z, ha] at e; cases e⟩, s.tcs, s.tab, s.err⟩
  obtain ⟨b, vs, h1, h2, h3, h4, h5, h6⟩ := s.own i p l ds e
  exact ⟨b, vs, h1, h2, h3, ⟨h4, fun z => nt (.inr ⟨i, p, l, ds, e, by rw [← z]; exact h1⟩)⟩, h5, h6⟩
theorem rp_nil : PA X [] (tP c (ret [])) := (pa_nil (X := X)).weak fun σ H Q ⟨g, ρ, s, k⟩ => k (fun _ => False) [] H (by rw [Gh.ex_no]; exact s) (by rw [Gh.ex_no]; exact Stp.refl) (fun _ z => z)
theorem rp_cons {d : M EV} {ds : M (List EV)} (he : PE X e (tE c d)) (hr : PA X es (tP c ds)) (ns : isStar e = false) : PA X (e :: es) (tP c (bnd d fun x => bnd (soft x) fun y => bnd ds fun ys => ret (y :: ys))) := by
  refine (pa_cons he hr (star_cons ns)).weak fun σ H Q ⟨g, ρ, s, k⟩ => ?_
  show tE c d σ H _
  refine ⟨g, ρ, s, ?_⟩
  unfold bnd at k
  cases e1 : d ρ with
  | bad => rw [e1] at k; exact k
  | exc x ρ' => rw [e1] at k; exact k
  | ok ev ρ1 =>
    rw [e1] at k
    intro v H1 G
    dsimp only at k
    rcases soft_inv G rfl with e3 | ⟨ev', ρ3, e3, G3, nl⟩
    · rw [e3] at k; exact k.elim
    · rw [e3] at k
      dsimp only at k
      cases ev' with
      | loc i => exact (nl i rfl).elim
      | val d1 =>
        refine ⟨g, ρ3, G3.sim, ?_⟩
        cases e2 : ds ρ3 with
        | bad => rw [e2] at k; exact k
        | exc x ρ' => rw [e2] at k; exact fun H2 G2 => k H2 (G2.trans G3.step)
        | ok evs ρ2 =>
          rw [e2] at k
          exact fun E vs H2 s2 st2 r2 => k E (v :: vs) H2 s2 (G3.step.trans st2) ⟨Rel.ext st2.ext G3.res.2, r2⟩
      | fresh ds1 =>
        obtain ⟨a, us, rfl, s1, ha, hr1, nt, my⟩ := G3.res
        have st1 := G3.stp
        rw [tr_fresh] at st1
        have sh := s1.hold (ds := ds1) ha nt
        refine ⟨g.hold a, ρ3, sh, ?_⟩
        have fr2 : ∀ {T' : Addr → Prop} {H' : Hp} {ρ' : Ev}, Stp c (g.hold a) σ H1 ρ3 T' H' ρ' → Stp c g σ H ρ T' H' ρ' := fun st =>
          ⟨st1.ext.trans st.ext, fun b o n h t => st.fr b o (fun z => n z.1) (st1.fr b o n h t) t, fun b h => st.dom b (st1.dom b h), fun i p ds h => st.lk i p ds (st1.lk i p ds h)⟩
        cases e2 : ds ρ3 with
        | bad => rw [e2] at k; exact k
        | exc x ρ' =>
          rw [e2] at k
          intro H2 G2
          refine k H2 ⟨?_, ?_⟩
          · have s3 := G2.sim
            have : Sim c (g.plus a) σ H2 ρ' := ⟨s3.len, s3.val, fun i p l ds e => by
              obtain ⟨b, vs, h1, h2, h3, h4, h5⟩ := s3.own i p l ds e
              exact ⟨b, vs, h1, h2, h3, h4.1, h5⟩, s3.inj, fun b e => (s3.new b e).1, s3.tcs, s3.tab, s3.err⟩
            exact this.minus
          · have st := fr2 G2.stp
            refine ⟨st.ext.trans (Ext.weak fun b z => ?_), st.fr, st.dom, st.lk⟩
            exact z.elim (fun z => .inl (.inl z)) .inr
        | ok evs ρ2 =>
          rw [e2] at k
          intro E vs H2 s2 st2 r2
          have ha2 : H2 a = some (.lst us) := st2.fr a _ (fun z => z.2 rfl) ha (fun _ z => by cases z)
          have tE : Tt ((g.hold a).ex E) σ ρ2 = Tt (g.ex fun x => E x ∨ x = a) σ ρ2 := by
            funext x
            apply propext
            show (((g.Tc x ∨ x = a) ∨ E x) ∨ _) ↔ ((g.Tc x ∨ (E x ∨ x = a)) ∨ _)
            constructor
            · rintro (((z | z) | z) | z)
              · exact .inl (.inl z)
              · exact .inl (.inr (.inr z))
              · exact .inl (.inr (.inl z))
              · exact .inr z
            · rintro ((z | (z | z)) | z)
              · exact .inl (.inl (.inl z))
              · exact .inl (.inr z)
              · exact .inl (.inl (.inr z))
              · exact .inr z
          have s4 : Sim c (g.ex fun x => E x ∨ x = a) σ H2 ρ2 := by
            refine ⟨s2.len, fun i d e => ?_, fun i p l ds e => ?_, s2.inj, fun b e => (s2.new b e).1, fun b z => s2.tcs b ?_, s2.tab, s2.err⟩
            · rw [← tE]; exact s2.val i d e
            · obtain ⟨b, ws, h1, h2, h3, h4, h5, h6⟩ := s2.own i p l ds e
              rw [← tE]
              refine ⟨b, ws, h1, h2, h3, h4.1, h5, fun z t => h6 z ?_⟩
              rcases t with t | t | t
              · exact .inl (.inl t)
              · exact .inr t
              · exact .inl (.inr t)
            · rcases z with t | t | t
              · exact .inl (.inl t)
              · exact .inr t
              · exact .inl (.inr t)
          refine k (fun x => E x ∨ x = a) (.ref a :: vs) H2 s4 (by rw [← tE]; exact fr2 st2) ⟨a, us, E, rfl, fun _ => Iff.rfl, ha2, ?_, ?_, my, r2⟩
          · rw [← tE]; exact hr1.ext st2.ext
          · rintro (z | ⟨i, p, l, ds, e4, e5⟩)
            · exact nt (.inl z)
            · obtain ⟨b, ws, h1, h2, h3, h4, _⟩ := s2.own i p l ds e4
              rw [e5] at h1; cases h1
              exact h4.2 rfl
end
end Den
set_option autoImplicit false
set_option maxRecDepth 100000
set_option maxHeartbeats 4000000
/-! Den, part J: the rules of statements. -/
namespace Den
open PySem PySem.Spec PyProof.Rows L2 GxR
section
variable {X : Cx} {c : Ct} {g : Gh} {σ σ1 : L2.St} {H H1 : Hp} {ρ ρ1 ρ' : Ev} {e a b : Expr} {pos : Pos} {da db de : M EV}
theorem put_goodS {E : Addr → Prop} {is : List Nat} {os : List Bool} {vs : List V} {es : List EV} (s : Sim c (g.ex E) σ H1 ρ1) (st : Stp c g σ H ρ (Tt (g.ex E) σ ρ1) H1 ρ1) (r : PR c g E σ H1 ρ1 vs es) (h : putL ρ1 is os es = some ρ') :
    GoodS c g σ H ρ (setS σ is vs) H1 ρ' := by
  obtain ⟨z1, z2, z3, z4⟩ := putL_good s r h
  exact ⟨z1, ⟨st.ext.trans (Ext.weak z2), st.fr, st.dom, fun i p ds q => z4 i p ds (st.lk i p ds q)⟩, fun i p ds q => z3 i p ds (st.lk i p ds q)⟩
theorem PR.single {v : V} {ev : EV} (G : Good c g σ H ρ v H1 ev ρ1) (nl : ∀ i, ev ≠ .loc i) : ∃ E, Sim c (g.ex E) σ H1 ρ1 ∧ Stp c g σ H ρ (Tt (g.ex E) σ ρ1) H1 ρ1 ∧ PR c g E σ H1 ρ1 [v] [ev] := by
  cases ev with
  | loc i => exact (nl i rfl).elim
  | val d => exact ⟨fun _ => False, by rw [Gh.ex_no]; exact G.sim, by rw [Gh.ex_no]; exact G.step, by rw [Gh.ex_no]; exact G.res.2, fun _ z => z⟩
  | fresh ds =>
    obtain ⟨a, us, rfl, s1, ha, hr1, nt, my⟩ := G.res
    have st1 := G.stp
    rw [tr_fresh] at st1
    exact ⟨fun x => x = a, s1, st1, a, us, fun _ => False, rfl, fun x => ⟨.inr, fun z => z.elim False.elim id⟩, ha, hr1, nt, my, fun _ z => z⟩
theorem ran {f : R EV} {Q Q' : VK} (k : Kont c g σ H ρ f Q) (w : ∀ v H', Q v H' → Q' v H') : Kont c g σ H ρ f Q' := by
  cases f with
  | ok ev ρ1 => exact fun v H' G => w v H' (k v H' G)
  | exc x ρ1 => exact k
  | bad => exact k
theorem asg_go {i : Nat} {o : Bool} {D : Ends} (h : tS c (sE (bnd de soft) fun v ρ => match putL ρ [i] [o] [v] with | some ρ' => .nx ρ' | none => .bad) D σ H) : tE c de σ H fun v H1 => D.nx (σ.set i (some v)) H1 := by
  obtain ⟨g, ρ, s, k⟩ := h
  rw [sE_assoc] at k
  refine ⟨g, ρ, s, ?_⟩
  unfold sE at k
  cases e1 : de ρ with
  | bad => rw [e1] at k; exact k
  | exc x ρ1 => rw [e1] at k; exact fun H' G => k σ H' G.s
  | ok ev ρ1 =>
    rw [e1] at k
    intro v H1 G
    dsimp only at k
    rcases soft_inv G rfl with e3 | ⟨ev', ρ3, e3, G3, nl⟩
    · rw [e3] at k; exact k.elim
    · rw [e3] at k
      dsimp only at k
      cases e4 : putL ρ3 [i] [o] [ev'] with
      | none => rw [e4] at k; exact k.elim
      | some ρ4 =>
        rw [e4] at k
        obtain ⟨E, s3, st3, r3⟩ := PR.single G3 nl
        exact k _ _ (put_goodS s3 st3 r3 e4)
/-- name = e -/
theorem s_asg {i : Nat} {x : Str} {o : Bool} {pos' : Pos} (hN : X.N.Nodup) (hi : X.N[i]? = some x) (hx : Loc X.env.scope x) (hf : X.fn x = true ∨ X.env.scope.names.lookup x = some .local) (he : PE X e (tE c de)) (hs : swapsWith e (some (.Name x pos')) pos.line X.env = pure false) :
    PS X (.Assign [.Name x pos'] e pos) (tS c (sE (bnd de soft) fun v ρ => match putL ρ [i] [o] [v] with | some ρ' => .nx ρ' | none => .bad)) :=
  (ps_set hN hi hx he hs hf).weak fun D σ H h => asg_go h
/-- an expression's statement -/
theorem s_exp (he : PE X e (tE c de)) (hs : swapsWith e none pos.line X.env = pure false) : PS X (.Expr e pos) (tS c (sE de fun _ ρ => .nx ρ)) := by
  refine (ps_expr he hs).weak fun D σ H ⟨g, ρ, s, k⟩ => ?_
  refine ⟨g, ρ, s, ?_⟩
  unfold sE at k
  cases e1 : de ρ with
  | bad => rw [e1] at k; exact k
  | exc x ρ1 => rw [e1] at k; exact fun H' G => k σ H' G.s
  | ok ev ρ1 => rw [e1] at k; exact fun v H1 G => k σ H1 G.s
theorem s_ret (he : PE X e (tE c de)) : PS X (.Return (some e) pos) (tS c (sE de fun v ρ => .rt v ρ)) := by
  refine (ps_ret he).weak fun D σ H ⟨g, ρ, s, k⟩ => ?_
  refine ⟨g, ρ, s, ?_⟩
  unfold sE at k
  cases e1 : de ρ with
  | bad => rw [e1] at k; exact k
  | exc x ρ1 => rw [e1] at k; exact fun H' G => k σ H' G.s
  | ok ev ρ1 => rw [e1] at k; exact fun v H1 G => k σ v H1 G.r
theorem s_retN : PS X (.Return none pos) (tS c fun ρ => .rt (.val .none) ρ) :=
  ps_retN.weak fun D σ H ⟨g, ρ, s, k⟩ => k σ .non H (Good.of_val s rel_non).r
theorem s_doc {x : Str} {j : Nat} {p' : Pos} : PS X (.Expr (.Constant (.str x) j p') pos) (tS c fun ρ => .nx ρ) :=
  ps_doc.weak fun D σ H ⟨g, ρ, s, k⟩ => k σ H (GoodS.refl s)
theorem s_pass : PS X (.Pass pos) (tS c fun ρ => .nx ρ) := ps_pass.weak fun D σ H ⟨g, ρ, s, k⟩ => k σ H (GoodS.refl s)
theorem s_brk : PS X (.Break pos) (tS c fun ρ => .bk ρ) := ps_break.weak fun D σ H ⟨g, ρ, s, k⟩ => k σ H (GoodS.refl s)
theorem s_cnt : PS X (.Continue pos) (tS c fun ρ => .ct ρ) := ps_continue.weak fun D σ H ⟨g, ρ, s, k⟩ => k σ H (GoodS.refl s)
theorem s_if {cc : Expr} {as bs : List Stmt} {f h : Ev → SR} (hc : PT X cc (tT c (bnd da truthM))) (ha : PSs X as (tS c f)) (hb : PSs X bs (tS c h)) : PS X (.If cc as bs pos) (tS c (sE (bnd da truthM) fun t => if t then f else h)) := by
  refine (ps_if hc ha hb).weak fun D σ H ⟨g, ρ, s, k⟩ => ?_
  refine (k.bndT s).mono fun t H1 ⟨ρ1, G, k1⟩ => ?_
  cases t with
  | true => exact ⟨g, ρ1, G.sim, k1⟩
  | false => exact ⟨g, ρ1, G.sim, k1⟩

/-! ### blocks -/
theorem b_nil : PSs X [] (tS c fun ρ => .nx ρ) := pss_nil.weak fun D σ H ⟨g, ρ, s, k⟩ => k σ H (GoodS.refl s)
theorem b_cons {st : Stmt} {rest : List Stmt} {f h : Ev → SR} (h1 : PS X st (tS c f)) (h2 : PSs X rest (tS c h)) : PSs X (st :: rest) (tS c fun ρ => match f ρ with | .nx ρ' => h ρ' | x => x) := by
  refine (pss_cons h1 h2).weak fun D σ H ⟨g, ρ, s, k⟩ => ?_
  refine ⟨g, ρ, s, ?_⟩
  dsimp only at k
  cases e1 : f ρ with
  | nx ρ1 => rw [e1] at k; exact fun σ1 H1 G => ⟨g, ρ1, G.sim, k.step G⟩
  | bk ρ1 => rw [e1] at k; exact k
  | ct ρ1 => rw [e1] at k; exact k
  | rt v ρ1 => rw [e1] at k; exact k
  | ex x ρ1 => rw [e1] at k; exact k
  | bad => rw [e1] at k; exact k
theorem b_frz {i : Nat} {sts : List Stmt} {f : Ev → SR} (h : PSs X sts (tS c f)) : PSs X sts (tS c fun ρ => match ρ[i]? with | some (.own false false ds) => f (ρ.set i (.val (.list ds))) | some (.val _) => f ρ | _ => .bad) := by
  refine h.weak fun D σ H ⟨g, ρ, s, k⟩ => ?_
  cases e : ρ[i]? with
  | none => simp only [e] at k; exact k.elim
  | some sl =>
    simp only [e] at k
    cases sl with
    | no => exact k.elim
    | err _ => exact k.elim
    | val _ => exact ⟨g, ρ, s, k⟩
    | own p l ds =>
      cases p <;> cases l <;> first | exact k.elim | skip
      obtain ⟨a, _, s2, st, _⟩ := s.freeze e
      exact ⟨g, _, s2, k.step ⟨s2, st, AtL.refl⟩⟩
theorem b_kil {is : List Nat} {sts : List Stmt} {f : Ev → SR} (h : PSs X sts (tS c f)) : PSs X sts (tS c fun ρ => match kills ρ is with | some ρ' => f ρ' | none => .bad) := by
  refine h.weak fun D σ H ⟨g, ρ, s, k⟩ => ?_
  cases e : kills ρ is with
  | none => simp only [e] at k; exact k.elim
  | some ρ1 =>
    simp only [e] at k
    have G := kills_good s e
    exact ⟨g, ρ1, G.sim, k.step G⟩

/-! ### several slots -/
def gNs (is : List Nat) : TGs := fun vs σ H Q => vs.length = is.length ∧ Q (setS σ is vs) H
/-- plain names of the frame -/
inductive NmL (X : Cx) : List Expr → List Nat → Prop
  | nil : NmL X [] []
  | cons {x : Str} {p : Pos} {i : Nat} {ts : List Expr} {is : List Nat} (hi : X.N[i]? = some x) (hx : Loc X.env.scope x) (hf : X.fn x = true ∨ X.env.scope.names.lookup x = some .local) (r : NmL X ts is) : NmL X (.Name x p :: ts) (i :: is)
theorem NmL.pgs (hN : X.N.Nodup) {ts : List Expr} {is : List Nat} (h : NmL X ts is) : PGs X ts (gNs is) := by
  induction h with
  | nil =>
    refine ⟨fun pins s σ H vs us Q I r h => pgs_nil.run pins s σ H vs us Q I r ?_⟩
    obtain ⟨h1, h2⟩ := h
    have : vs = [] := List.length_eq_zero_iff.mp h1
    subst this
    exact ⟨rfl, h2⟩
  | cons hi hx hf r ih =>
    refine ⟨fun pins s σ H vs us Q I r h => (pgs_cons (pg_name hN hi hx hf) ih).run pins s σ H vs us Q I r ?_⟩
    obtain ⟨h1, h2⟩ := h
    cases vs with
    | nil => simp at h1
    | cons v vs =>
      exact ⟨v, vs, rfl, by simpa using h1, h2⟩
theorem NmL.length {ts : List Expr} {is : List Nat} (h : NmL X ts is) : (assignEach ts X.env).length = is.length := by
  induction h with
  | nil => rfl
  | cons hi hx hf r ih => show (assignEach _ X.env).length + 1 = _; rw [ih]; rfl
theorem NmL.noStar {ts : List Expr} {is : List Nat} (h : NmL X ts is) : (assignEach ts X.env).findIdx? (·.1) = none := by
  induction h with
  | nil => rfl
  | cons hi hx hf r ih =>
    show List.findIdx? (·.1) ((false, _) :: assignEach _ X.env) = none
    rw [List.findIdx?_cons]
    simp [ih]
def gSeq (K : Fg) (is : List Nat) : TG := fun v σ H Q => ∃ a xs, v = .ref a ∧ (SqT K H a xs ∨ SqL K H a xs) ∧ xs.length = is.length ∧ Q (setS σ is xs) H
theorem pg_seq {ts : List Expr} {is : List Nat} {k : Nat} (hc : X.calm = true) (hN : X.N.Nodup) (h : NmL X ts is) : PG X (.Tuple ts k pos) (gSeq X.K is) := by
  refine ⟨fun pins s σ H v u Q I r hw => ?_⟩
  obtain ⟨a, xs, e1, hq | hq, hl, hw⟩ := hw
  · exact (pg_tup hc (h.pgs hN) h.length h.noStar).run pins s σ H v u Q I r ⟨a, xs, e1, hq, hl, hl, hw⟩
  · exact (pg_lst hc (h.pgs hN) h.length h.noStar).run pins s σ H v u Q I r ⟨a, xs, e1, hq, hl, hl, hw⟩
theorem setN_len : ∀ {is : List Nat} {ds : List D} {ρ ρ' : Ev}, setN ρ is ds = some ρ' → ds.length = is.length
  | [], [], _, _, _ => rfl
  | [], _ :: _, _, _, h => by simp [setN] at h
  | _ :: _, [], _, _, h => by simp [setN] at h
  | i :: is, d :: ds, ρ, ρ', h => by
    unfold setN at h
    cases e : ρ[i]? with
    | none => rw [e] at h; cases h
    | some sl =>
      rw [e] at h
      cases sl with
      | no => simp [setN_len h]
      | err _ => simp [setN_len h]
      | val _ => simp [setN_len h]
      | own p l ds => cases h
theorem setN_good : ∀ {is : List Nat} {ds : List D} {vs : List V} {σ : L2.St} {ρ ρ' : Ev}, Sim c g σ H ρ → RelL c.K (Tt g σ ρ) H vs ds → setN ρ is ds = some ρ' → GoodS c g σ H ρ (setS σ is vs) H ρ'
  | [], [], vs, σ, ρ, ρ', s, r, h => by
    unfold RelL at r; subst r; cases h; exact GoodS.refl s
  | [], _ :: _, _, _, _, _, _, _, h => by simp [setN] at h
  | _ :: _, [], _, _, _, _, _, _, h => by simp [setN] at h
  | i :: is, d :: ds, vs, σ, ρ, ρ', s, r, h => by
    unfold RelL at r
    obtain ⟨v, us, rfl, r1, r2⟩ := r
    unfold setN at h
    cases e : ρ[i]? with
    | none => rw [e] at h; cases h
    | some sl =>
      rw [e] at h
      have nn : ∀ (p l : Bool) (ds : List D), sl ≠ .own p l ds := fun p l ds z => by subst z; cases h
      have h' : setN (ρ.set i (.val d)) is ds = some ρ' := by
        cases sl with
        | no => exact h
        | err _ => exact h
        | val _ => exact h
        | own p l ds => exact absurd rfl (nn p l ds)
      obtain ⟨te, s1, at1⟩ := s.put e nn r1
      have G1 : GoodS c g σ H ρ (σ.set i (some v)) H (ρ.set i (.val d)) := ⟨s1, by rw [te]; exact ⟨Ext.refl, fun _ _ _ h _ => h, fun _ h => h, fun j p ds z => by
        by_cases q : i = j
        · subst q
          rw [e] at z
          exact absurd (Option.some.inj z) (nn p true ds)
        · rw [List.getElem?_set_ne q]; exact z⟩, at1⟩
      exact G1.trans (setN_good s1 (by rw [te]; exact r2) h')
theorem seq_of {K : Fg} {T : Addr → Prop} {v : V} {d : D} {ds : List D} (h : PRel K T H v d) (e : d = .tuple ds ∨ d = .list ds) : ∃ a xs, v = .ref a ∧ (SqT K H a xs ∨ SqL K H a xs) ∧ RelL K T H xs ds := by
  rcases e with rfl | rfl
  · obtain ⟨a, vs, e1, h1, h2⟩ := p_tup h
    exact ⟨a, vs, e1, .inl h1.sq, h2⟩
  · obtain ⟨a, vs, e1, h1, h2⟩ := p_lst h
    exact ⟨a, vs, e1, .inr h1.sq, h2⟩
/-! ### names, and tuples of names -/
inductive NpL (X : Cx) : List Expr → List (Nat ⊕ List Nat) → Prop
  | nil : NpL X [] []
  | nm {x : Str} {p : Pos} {i : Nat} {ts : List Expr} {is : List (Nat ⊕ List Nat)} (hi : X.N[i]? = some x) (hx : Loc X.env.scope x) (hf : X.fn x = true ∨ X.env.scope.names.lookup x = some .local) (r : NpL X ts is) : NpL X (.Name x p :: ts) (.inl i :: is)
  | tp {es : List Expr} {k : Nat} {p : Pos} {js : List Nat} {ts : List Expr} {is : List (Nat ⊕ List Nat)} (h : NmL X es js) (r : NpL X ts is) : NpL X (.Tuple es k p :: ts) (.inr js :: is)
def gNN (K : Fg) : List (Nat ⊕ List Nat) → TGs
  | [] => gNil
  | .inl i :: ts => gCons (gName i) (gNN K ts)
  | .inr is :: ts => gCons (gSeq K is) (gNN K ts)
theorem NpL.pgs (hc : X.calm = true) (hN : X.N.Nodup) {ts : List Expr} {is : List (Nat ⊕ List Nat)} (h : NpL X ts is) : PGs X ts (gNN X.K is) := by
  induction h with
  | nil => exact pgs_nil
  | nm hi hx hf r ih => exact pgs_cons (pg_name hN hi hx hf) ih
  | tp h r ih => exact pgs_cons (pg_seq hc hN h) ih
theorem NpL.length {ts : List Expr} {is : List (Nat ⊕ List Nat)} (h : NpL X ts is) : (assignEach ts X.env).length = is.length := by
  induction h with
  | nil => rfl
  | nm hi hx hf r ih => show (assignEach _ X.env).length + 1 = _; rw [ih]; rfl
  | tp h r ih => show (assignEach _ X.env).length + 1 = _; rw [ih]; rfl
theorem NpL.noStar {ts : List Expr} {is : List (Nat ⊕ List Nat)} (h : NpL X ts is) : (assignEach ts X.env).findIdx? (·.1) = none := by
  induction h with
  | nil => rfl
  | nm hi hx hf r ih =>
    show List.findIdx? (·.1) ((false, _) :: assignEach _ X.env) = none
    rw [List.findIdx?_cons]
    simp [ih]
  | tp h r ih =>
    show List.findIdx? (·.1) ((false, _) :: assignEach _ X.env) = none
    rw [List.findIdx?_cons]
    simp [ih]
def gSeqN (K : Fg) (ts : List (Nat ⊕ List Nat)) : TG := fun v σ H Q => ∃ a xs, v = .ref a ∧ (SqT K H a xs ∨ SqL K H a xs) ∧ xs.length = ts.length ∧ gNN K ts xs σ H Q
theorem pg_seqN {ts : List Expr} {is : List (Nat ⊕ List Nat)} {k : Nat} (hc : X.calm = true) (hN : X.N.Nodup) (h : NpL X ts is) : PG X (.Tuple ts k pos) (gSeqN X.K is) := by
  refine ⟨fun pins s σ H v u Q I r hw => ?_⟩
  obtain ⟨a, xs, e1, hq | hq, hl, hw⟩ := hw
  · exact (pg_tup hc (h.pgs hc hN) h.length h.noStar).run pins s σ H v u Q I r ⟨a, xs, e1, hq, hl, hw⟩
  · exact (pg_lst hc (h.pgs hc hN) h.length h.noStar).run pins s σ H v u Q I r ⟨a, xs, e1, hq, hl, hw⟩
theorem setNN_len : ∀ {ts : List (Nat ⊕ List Nat)} {ds : List D} {ρ ρ' : Ev}, setNN ρ ts ds = some ρ' → ds.length = ts.length
  | [], [], _, _, _ => rfl
  | [], _ :: _, _, _, h => by simp [setNN] at h
  | .inl _ :: _, [], _, _, h => by simp [setNN] at h
  | .inr _ :: _, [], _, _, h => by simp [setNN] at h
  | .inl i :: ts, d :: ds, ρ, ρ', h => by
    unfold setNN at h
    cases e : setN ρ [i] [d] with
    | none => rw [e] at h; cases h
    | some ρ1 => rw [e] at h; simp [setNN_len h]
  | .inr is :: ts, d :: ds, ρ, ρ', h => by
    cases d <;> first | (simp [setNN] at h; done) | skip
    rename_i es
    unfold setNN at h
    cases e : setN ρ is es with
    | none => rw [e] at h; cases h
    | some ρ1 => rw [e] at h; simp [setNN_len h]
theorem setS_append : ∀ (is : List Nat) (xs : List V) (js : List Nat) (ys : List V) (σ : L2.St), xs.length = is.length → setS σ (is ++ js) (xs ++ ys) = setS (setS σ is xs) js ys
  | [], [], js, ys, σ, _ => by
    have : setS σ [] [] = σ := by unfold setS; rfl
    rw [this]; rfl
  | [], _ :: _, _, _, _, h => by simp at h
  | _ :: _, [], _, _, _, h => by simp at h
  | i :: is, x :: xs, js, ys, σ, h => by
    show setS (σ.set i (some x)) (is ++ js) (xs ++ ys) = setS (setS (σ.set i (some x)) is xs) js ys
    exact setS_append is xs js ys _ (by simpa using h)
theorem nn_store : ∀ {ts : List (Nat ⊕ List Nat)} {vs : List V} {ds : List D} {σ : L2.St} {ρ ρ' : Ev} {Q : L2.St → Hp → Prop}, Sim c g σ H ρ → RelL c.K (Tt g σ ρ) H vs ds → setNN ρ ts ds = some ρ' → (∀ xs, xs.length = (npVars ts).length → GoodS c g σ H ρ (setS σ (npVars ts) xs) H ρ' → Q (setS σ (npVars ts) xs) H) → gNN c.K ts vs σ H Q
  | [], vs, [], σ, ρ, ρ', Q, s, r, h, q => by
    unfold RelL at r
    subst r
    cases h
    refine ⟨rfl, ?_⟩
    have := q [] rfl
    have e : setS σ (npVars []) [] = σ := by unfold npVars setS; rfl
    rw [e] at this
    exact this (GoodS.refl s)
  | [], _, _ :: _, _, _, _, _, _, _, h, _ => by simp [setNN] at h
  | .inl _ :: _, _, [], _, _, _, _, _, _, h, _ => by simp [setNN] at h
  | .inr _ :: _, _, [], _, _, _, _, _, _, h, _ => by simp [setNN] at h
  | .inl i :: ts, vs, d :: ds, σ, ρ, ρ', Q, s, r, h, q => by
    unfold RelL at r
    obtain ⟨v, us, rfl, r1, r2⟩ := r
    unfold setNN at h
    cases e : setN ρ [i] [d] with
    | none => rw [e] at h; cases h
    | some ρ1 =>
      rw [e] at h
      have G1 := setN_good s (RelL.cons r1 RelL.nil) e
      refine ⟨v, us, rfl, ?_⟩
      show gNN c.K ts us (σ.set i (some v)) H Q
      have e1 : setS σ [i] [v] = σ.set i (some v) := by unfold setS; unfold setS; rfl
      rw [e1] at G1
      refine nn_store G1.sim (RelL.ext G1.stp.ext r2) h (fun xs hl G2 => ?_)
      have := q (v :: xs) (by unfold npVars; simp [hl])
      have e2 : setS σ (npVars (.inl i :: ts)) (v :: xs) = setS (σ.set i (some v)) (npVars ts) xs := by rw [npVars, setS]
      rw [e2] at this
      exact this (G1.trans G2)
  | .inr is :: ts, vs, d :: ds, σ, ρ, ρ', Q, s, r, h, q => by
    unfold RelL at r
    obtain ⟨v, us, rfl, r1, r2⟩ := r
    cases d <;> first | (simp [setNN] at h; done) | skip
    rename_i es
    unfold setNN at h
    cases e : setN ρ is es with
    | none => rw [e] at h; cases h
    | some ρ1 =>
      rw [e] at h
      obtain ⟨a, ws, rfl, h1, h2⟩ := p_tup r1.p
      have G1 := setN_good s h2 e
      have hl1 : ws.length = is.length := by rw [h2.length]; exact setN_len e
      refine ⟨.ref a, us, rfl, a, ws, rfl, .inl h1.sq, hl1, ?_⟩
      refine nn_store G1.sim (RelL.ext G1.stp.ext r2) h (fun xs hl G2 => ?_)
      have := q (ws ++ xs) (by unfold npVars; simp [hl, hl1])
      have e2 : setS σ (npVars (.inr is :: ts)) (ws ++ xs) = setS (setS σ is ws) (npVars ts) xs := by rw [npVars, setS_append _ _ _ _ _ hl1]
      rw [e2] at this
      exact this (G1.trans G2)
/-- behind an expression that is read -/
theorem peekM_inv {v : V} {ev : EV} {r : R D} (s : Sim c g σ H ρ) (rf : Ref c g σ H ρ v (settle ev)) (e : peekM ev ρ = r) : r = .bad ∨ ∃ d, r = .ok d ρ ∧ peek ρ (settle ev) = some d ∧ PRel c.K (Tt g σ ρ) H v d := by
  have pe : peek ρ ev = peek ρ (settle ev) := by cases ev <;> rfl
  subst e
  unfold peekM
  rw [pe]
  cases e1 : peek ρ (settle ev) with
  | none => exact .inl rfl
  | some d => exact .inr ⟨d, rfl, rfl, rf.peek s e1⟩
/-- (a, b, ..) = e -/
theorem s_asgT {ts : List Expr} {is : List Nat} {k : Nat} {pt : Pos} (hK : X.K = c.K) (hc : X.calm = true) (hN : X.N.Nodup) (h : NmL X ts is) (he : PE X e (tE c de))
    (hs : swapsWithSole [.Tuple ts k pt] e pos.line X.env = pure false) (hw : swappedStores [.Tuple ts k pt] e X.env = pure none) :
    PS X (.Assign [.Tuple ts k pt] e pos) (tS c (sE (bnd de peekM) fun d ρ => match asgD ρ (.tp is) d with | some ρ' => .nx ρ' | none => .bad)) := by
  refine (ps_asg he (pg_seq hc hN h) hs hw (by rfl)).weak fun D σ H h => ?_
  rw [sE_assoc] at h
  refine (oneS h).mono fun x H1 ⟨g, ρ, ex, s, r, k⟩ => ?_
  unfold sE at k
  rcases peekM_inv s r rfl with e1 | ⟨d, e1, _, pr⟩
  · rw [e1] at k; exact k.elim
  · rw [e1] at k
    dsimp only at k
    have hd : ∃ ds, (d = .tuple ds ∨ d = .list ds) ∧ asgD ρ (.tp is) d = setN ρ is ds := by
      cases d with
      | tuple ds => exact ⟨ds, .inl rfl, rfl⟩
      | list ds => exact ⟨ds, .inr rfl, rfl⟩
      | none => exact k.elim
      | bool _ => exact k.elim
      | int _ => exact k.elim
      | str _ => exact k.elim
      | dict _ => exact k.elim
    obtain ⟨ds, hd, ea⟩ := hd
    rw [ea] at k
    cases e2 : setN ρ is ds with
    | none => rw [e2] at k; exact k.elim
    | some ρ' =>
      rw [e2] at k
      obtain ⟨a, xs, e3, hq, hr⟩ := seq_of pr hd
      rw [← hK] at hq
      exact ⟨a, xs, e3, hq, by rw [hr.length]; exact setN_len e2, k _ _ (setN_good s hr e2)⟩
/-- ((a, b), c) = e -/
theorem s_asgN {ts : List Expr} {is : List (Nat ⊕ List Nat)} {k : Nat} {pt : Pos} (hK : X.K = c.K) (hc : X.calm = true) (hN : X.N.Nodup) (h : NpL X ts is) (he : PE X e (tE c de))
    (hs : swapsWithSole [.Tuple ts k pt] e pos.line X.env = pure false) (hw : swappedStores [.Tuple ts k pt] e X.env = pure none) :
    PS X (.Assign [.Tuple ts k pt] e pos) (tS c (sE (bnd de peekM) fun d ρ => match asgD ρ (.np is) d with | some ρ' => .nx ρ' | none => .bad)) := by
  refine (ps_asg he (pg_seqN hc hN h) hs hw (by rfl)).weak fun D σ H h => ?_
  rw [sE_assoc] at h
  refine (oneS h).mono fun x H1 ⟨g, ρ, ex, s, r, k⟩ => ?_
  unfold sE at k
  rcases peekM_inv s r rfl with e1 | ⟨d, e1, _, pr⟩
  · rw [e1] at k; exact k.elim
  · rw [e1] at k
    dsimp only at k
    have hd : ∃ ds, (d = .tuple ds ∨ d = .list ds) ∧ asgD ρ (.np is) d = setNN ρ is ds := by
      cases d with
      | tuple ds => exact ⟨ds, .inl rfl, rfl⟩
      | list ds => exact ⟨ds, .inr rfl, rfl⟩
      | none => exact k.elim
      | bool _ => exact k.elim
      | int _ => exact k.elim
      | str _ => exact k.elim
      | dict _ => exact k.elim
    obtain ⟨ds, hd, ea⟩ := hd
    rw [ea] at k
    cases e2 : setNN ρ is ds with
    | none => rw [e2] at k; exact k.elim
    | some ρ' =>
      rw [e2] at k
      obtain ⟨a, xs, e3, hq, hr⟩ := seq_of pr hd
      rw [← hK] at hq
      refine ⟨a, xs, e3, hq, by rw [hr.length]; exact setNN_len e2, ?_⟩
      rw [hK]
      exact nn_store s hr e2 fun xs _ G => k _ _ G
theorem _root_.Den.PR.length : ∀ {vs : List V} {es : List EV} {g : Gh} {E : Addr → Prop}, PR c g E σ H ρ vs es → vs.length = es.length
  | [], [], _, _, _ => rfl
  | v :: vs, .val d :: es, _, _, h => congrArg (· + 1) (PR.length h.2)
  | v :: vs, .fresh ds :: es, _, _, h => by
    obtain ⟨_, _, _, _, _, _, _, _, _, r⟩ := h
    exact congrArg (· + 1) (PR.length r)
  | v :: vs, .loc i :: es, _, _, h => h.elim
  | [], _ :: _, _, _, h => h.elim
  | _ :: _, [], _, _, h => h.elim
theorem putL_len : ∀ {is : List Nat} {os : List Bool} {es : List EV} {ρ ρ' : Ev}, putL ρ is os es = some ρ' → es.length = is.length
  | [], [], [], _, _, _ => rfl
  | i :: is, o :: os, ev :: es, ρ, ρ', h => by
    unfold putL at h
    cases e : ρ[i]? with
    | none => rw [e] at h; cases h
    | some sl =>
      rw [e] at h
      dsimp only at h
      by_cases hcp : canPut sl = true
      · rw [if_pos hcp] at h
        cases ev <;> first | (cases h; done) | exact congrArg (· + 1) (putL_len h)
      · rw [if_neg hcp] at h; cases h
  | [], [], _ :: _, _, _, h => by simp [putL] at h
  | [], _ :: _, _, _, _, h => by simp [putL] at h
  | _ :: _, [], _, _, _, h => by simp [putL] at h
  | _ :: _, _ :: _, [], _, _, h => by simp [putL] at h
/-- a, b = x, y -/
theorem s_par2 {i j : Nat} {x y : Str} {px py pt : Pos} {kt k2 : Nat} {pt2 : Pos} {dl : M (List EV)} {ows : List Bool} (hc : X.calm = true) (hN : X.N.Nodup) (hi : X.N[i]? = some x) (hj : X.N[j]? = some y) (hij : i ≠ j)
    (hx : X.env.scope.names.lookup x = some .local) (hy : X.env.scope.names.lookup y = some .local) (ha : PA X [a, b] (tP c dl))
    (hw : swappedStores [.Tuple [.Name x px, .Name y py] kt pt] (.Tuple [a, b] k2 pt2) X.env = pure (some [x, y]))
    (hs : swapsWithSole [.Tuple [.Name x px, .Name y py] kt pt] (.Tuple [a, b] k2 pt2) pos.line X.env = pure false) :
    PS X (.Assign [.Tuple [.Name x px, .Name y py] kt pt] (.Tuple [a, b] k2 pt2) pos) (tS c (sE dl fun vs ρ => match putL ρ [i, j] ows vs with | some ρ' => .nx ρ' | none => .bad)) := by
  refine (ps_par hc hN hi hj hij hx hy ha hw hs).weak fun D σ H ⟨g, ρ, s, k⟩ => ?_
  refine ⟨g, ρ, s, ?_⟩
  unfold sE at k
  cases e1 : dl ρ with
  | bad => rw [e1] at k; exact k
  | exc x ρ1 => rw [e1] at k; exact fun H' G => k σ H' G.s
  | ok evs ρ1 =>
    rw [e1] at k
    intro E vs H1 s1 st r
    dsimp only at k
    cases e2 : putL ρ1 [i, j] ows evs with
    | none => rw [e2] at k; exact k.elim
    | some ρ2 =>
      rw [e2] at k
      have G := put_goodS s1 st r e2
      have hl : vs.length = 2 := by rw [r.length, putL_len e2]; rfl
      have : ∃ v w, vs = [v, w] := by
        rcases vs with _ | ⟨v, _ | ⟨w, _ | ⟨_, _⟩⟩⟩
        · cases hl
        · cases hl
        · exact ⟨v, w, rfl⟩
        · simp at hl
      obtain ⟨v, w, rfl⟩ := this
      exact ⟨v, w, rfl, k _ _ G⟩
end
end Den
set_option autoImplicit false
set_option maxRecDepth 100000
set_option maxHeartbeats 4000000
/-! Den, part K: the rules of statements, further. -/
namespace Den
open PySem PySem.Spec PyProof.Rows L2 GxR
section
variable {X : Cx} {c : Ct} {g : Gh} {σ σ1 : L2.St} {H H1 : Hp} {ρ ρ1 ρ' : Ev} {e a b : Expr} {pos : Pos} {da db de : M EV}
theorem sE_ok {α : Type} {d : M α} {f : α → Ev → SR} {x : α} (h : d ρ = .ok x ρ1) : sE d f ρ = f x ρ1 := by unfold sE; rw [h]
theorem sE_bad {α : Type} {d : M α} {f : α → Ev → SR} (h : d ρ = .bad) : sE d f ρ = .bad := by unfold sE; rw [h]
theorem sE_exc {α : Type} {d : M α} {f : α → Ev → SR} {x : Nat} (h : d ρ = .exc x ρ1) : sE d f ρ = .ex x ρ1 := by unfold sE; rw [h]
theorem bnd_ok {α β : Type} {d : M α} {f : α → M β} {x : α} (h : d ρ = .ok x ρ1) : bnd d f ρ = f x ρ1 := by unfold bnd; rw [h]
theorem bnd_bad {α β : Type} {d : M α} {f : α → M β} (h : d ρ = .bad) : bnd d f ρ = .bad := by unfold bnd; rw [h]
theorem bnd_exc {α β : Type} {d : M α} {f : α → M β} {x : Nat} (h : d ρ = .exc x ρ1) : bnd d f ρ = .exc x ρ1 := by unfold bnd; rw [h]
theorem s_par3 {i j l : Nat} {x y z : Str} {px py pz pt : Pos} {cc : Expr} {kt k2 : Nat} {pt2 : Pos} {dl : M (List EV)} {ows : List Bool} (hc : X.calm = true) (hN : X.N.Nodup) (hi : X.N[i]? = some x) (hj : X.N[j]? = some y) (hl : X.N[l]? = some z) (hij : i ≠ j) (hil : i ≠ l) (hjl : j ≠ l)
    (hx : X.env.scope.names.lookup x = some .local) (hy : X.env.scope.names.lookup y = some .local) (hz : X.env.scope.names.lookup z = some .local) (ha : PA X [a, b, cc] (tP c dl))
    (hw : swappedStores [.Tuple [.Name x px, .Name y py, .Name z pz] kt pt] (.Tuple [a, b, cc] k2 pt2) X.env = pure (some [x, y, z]))
    (hs : swapsWithSole [.Tuple [.Name x px, .Name y py, .Name z pz] kt pt] (.Tuple [a, b, cc] k2 pt2) pos.line X.env = pure false) :
    PS X (.Assign [.Tuple [.Name x px, .Name y py, .Name z pz] kt pt] (.Tuple [a, b, cc] k2 pt2) pos) (tS c (sE dl fun vs ρ => match putL ρ [i, j, l] ows vs with | some ρ' => .nx ρ' | none => .bad)) := by
  refine (ps_par3 hc hN hi hj hl hij hil hjl hx hy hz ha hw hs).weak fun D σ H ⟨g, ρ, s, k⟩ => ?_
  refine ⟨g, ρ, s, ?_⟩
  unfold sE at k
  cases e1 : dl ρ with
  | bad => rw [e1] at k; exact k
  | exc x ρ1 => rw [e1] at k; exact fun H' G => k σ H' G.s
  | ok evs ρ1 =>
    rw [e1] at k
    intro E vs H1 s1 st r
    try dsimp only at k
    cases e2 : putL ρ1 [i, j, l] ows evs with
    | none => rw [e2] at k; exact k.elim
    | some ρ2 =>
      rw [e2] at k
      have G := put_goodS s1 st r e2
      have hl : vs.length = 3 := by rw [r.length, putL_len e2]; rfl
      have : ∃ v w u, vs = [v, w, u] := by
        rcases vs with _ | ⟨v, _ | ⟨w, _ | ⟨u, _ | ⟨_, _⟩⟩⟩⟩
        · cases hl
        · cases hl
        · cases hl
        · exact ⟨v, w, u, rfl⟩
        · simp at hl
      obtain ⟨v, w, u, rfl⟩ := this
      exact ⟨v, w, u, rfl, k _ _ G⟩
theorem PR.alloc {p : Addr} {o : HO} (hp : H p = none) : ∀ {vs : List V} {es : List EV} {g : Gh} {E : Addr → Prop}, PR c g E σ H ρ vs es → PR c g E σ (upd H p o) ρ vs es
  | [], [], _, _, h => h
  | v :: vs, .val d :: es, _, _, h => ⟨h.1.ext (ext_new hp), PR.alloc hp h.2⟩
  | v :: vs, .fresh ds :: es, _, _, h => by
    obtain ⟨a, us, E', e1, hE, ha, hr, nt, my, r⟩ := h
    exact ⟨a, us, E', e1, hE, by rw [upd_ne (ne_of_none ha hp)]; exact ha, hr.ext (ext_new hp), nt, my, PR.alloc hp r⟩
  | v :: vs, .loc i :: es, _, _, h => h.elim
  | [], _ :: _, _, _, h => h.elim
  | _ :: _, [], _, _, h => h.elim
/-- a, b, .. = x, y, .. by way of a tuple -/
theorem s_parT {ts es : List Expr} {is : List Nat} {k k2 : Nat} {pt pt2 : Pos} {dl : M (List EV)} {ows : List Bool} (hc : X.calm = true) (hN : X.N.Nodup) (h : NmL X ts is) (ha : PA X es (tP c dl)) (hz : is.length ≤ line)
    (hs : swapsWithSole [.Tuple ts k pt] (.Tuple es k2 pt2) pos.line X.env = pure false) (hw : swappedStores [.Tuple ts k pt] (.Tuple es k2 pt2) X.env = pure none) :
    PS X (.Assign [.Tuple ts k pt] (.Tuple es k2 pt2) pos) (tS c (sE dl fun vs ρ => match putL ρ is ows vs with | some ρ' => .nx ρ' | none => .bad)) := by
  refine (ps_asg (pe_tup ha) (pg_seq hc hN h) hs hw (by rfl)).weak fun D σ H ⟨g, ρ, s, k⟩ => ?_
  refine ⟨g, ρ, s, ?_⟩
  unfold sE at k
  cases e1 : dl ρ with
  | bad => rw [e1] at k; exact k
  | exc x ρ1 => rw [e1] at k; exact fun H' G => k σ H' G.s
  | ok evs ρ1 =>
    rw [e1] at k
    intro E vs H1 s1 st r
    try dsimp only at k
    cases e2 : putL ρ1 is ows evs with
    | none => rw [e2] at k; exact k.elim
    | some ρ2 =>
      rw [e2] at k
      have hl : vs.length = is.length := by rw [r.length, putL_len e2]
      refine ⟨by rw [hl, ← line_eq]; exact hz, fun p hp => ?_⟩
      have s2 := s1.alloc (o := .tup vs) hp
      have st2 : Stp c g σ H ρ (Tt (g.ex E) σ ρ1) (upd H1 p (.tup vs)) ρ1 := ⟨st.ext.trans (ext_new hp), fun b u n e t => by
        have := st.fr b u n e t
        rw [upd_ne (ne_of_none this hp)]; exact this, fun b e => by
        have := st.dom b e
        by_cases q : b = p
        · subst q; exact absurd hp this
        · rw [upd_ne q]; exact this, st.lk⟩
      exact ⟨p, vs, rfl, .inl (SqT.of upd_same), hl, k _ _ (put_goodS s2 st2 (PR.alloc hp r) e2)⟩

/-! ### an element of a list of one's own -/
theorem own_at {i : Nat} {p l : Bool} {ds : List PyData} {v : V} (s : Sim c g σ H ρ) (e : ρ[i]? = some (.own p l ds)) (h : σ[i]? = some (some v)) : ∃ a vs, v = .ref a ∧ H a = some (.lst vs) ∧ RelL c.K (Tt g σ ρ) H vs ds := by
  obtain ⟨a, vs, h1, h2, h3, _⟩ := s.own i p l ds e
  rw [h] at h1; cases h1
  exact ⟨a, vs, rfl, h2, h3⟩
theorem GoodX.of_mut {i : Nat} {p : Bool} {ds es : List PyData} {a : Addr} {vs us : List V} (s : Sim c g σ H ρ) (h : ρ[i]? = some (.own p false ds)) (ha : σ[i]? = some (some (.ref a))) (hv : H a = some (.lst vs)) (r : RelL c.K (Tt g σ ρ) H us es) :
    GoodS c g σ H ρ σ (upd H a (.lst us)) (ρ.set i (.own p false es)) := by
  obtain ⟨s5, t5⟩ := s.mutate h ha hv r
  exact ⟨s5, t5, AtL.refl⟩
/-- o[i] = e -/
theorem s_sto {ps : Pos} {o ix : Expr} {dO di : M EV} (hK : X.K = c.K) (ho : PE X o (tE c dO)) (hi : PE X ix (tE c di)) (he : PE X e (tE c de)) (hs : swapsWithSole [.Subscript o ix ps] e pos.line X.env = pure false) (hw : swappedStores [.Subscript o ix ps] e X.env = pure none)
    (hA : ∀ v, assign (.Subscript o ix ps) X.env v = (do
      let ov ← holding [v] (eval o X.env)
      let iv ← holding [v, ov] (eval ix X.env)
      standAt ps
      holding [v, ov, iv] (setItem ov iv v)
      release [v, ov, iv] [])) :
    PS X (.Assign [.Subscript o ix ps] e pos) (tS c (sE (bnd de coe) fun d => sE dO fun x => sE (bnd di peekM) fun k ρ => match x, k with
    | .loc i, .int n => match ρ[i]? with
      | some (.own p false ds) => match L2.ixN ds.length n with
        | some j => .nx (ρ.set i (.own p false (ds.set j d)))
        | none => .bad
      | _ => .bad
    | _, _ => .bad)) := by
  refine (ps_asg he (pg_sub ho hi set_list hA) hs hw (by rfl)).weak fun D σ H h => ?_
  rw [sE_assoc] at h
  refine (oneS h).mono fun v H1 ⟨g, ρ, ex, s, r, k⟩ => ?_
  rcases coe_inv s r rfl with e1 | ⟨d, ρ1, e1, G⟩
  · rw [sE_bad e1] at k; exact k.elim
  · rw [sE_ok e1] at k
    have k1 := KontS.step G.s k
    obtain ⟨s1, rd⟩ := G.res
    show tE c dO σ H1 _
    refine (nextS (ev := .val d) s1 rd k1).mono fun x H2 ⟨ρ2, ey, s2, _, rd2, rx, k2⟩ => ?_
    show tE c di σ H2 _
    try dsimp only at k2
    rw [sE_assoc] at k2
    -- the index
    have rdx : Refs c g σ H2 ρ2 [v, x] [.val d, settle ey] := ⟨rd2, rx, trivial⟩
    refine ⟨g, ρ2, s2, ?_⟩
    cases e3 : di ρ2 with
    | bad => rw [sE_bad e3] at k2; exact k2
    | exc z ρ3 => rw [sE_exc e3] at k2; exact fun H' G => k2 σ H' G.s
    | ok ez ρ3 =>
      rw [sE_ok e3] at k2
      intro z H3 G3
      try dsimp only at k2
      have rd3 := rdx.step G3.step
      rcases peekM_inv G3.sim G3.ref rfl with e4 | ⟨kd, e4, _, pk⟩
      · rw [sE_bad e4] at k2; exact k2.elim
      · rw [sE_ok e4] at k2
        try dsimp only at k2
        cases ey with
        | val _ => exact k2.elim
        | fresh _ => exact k2.elim
        | loc i =>
          cases kd <;> first | exact k2.elim | skip
          rename_i n _
          try dsimp only at k2
          cases e5 : ρ3[i]? with
          | none => rw [e5] at k2; exact k2.elim
          | some sl =>
            rw [e5] at k2
            cases sl with
            | no => exact k2.elim
            | err _ => exact k2.elim
            | val _ => exact k2.elim
            | own p l ds =>
              cases l
              · try dsimp only at k2
                cases e6 : ixN ds.length n with
                | none => rw [e6] at k2; exact k2.elim
                | some j =>
                  rw [e6] at k2
                  obtain ⟨a, us, rfl, ha, hr⟩ := own_at G3.sim e5 rd3.2.1
                  refine ⟨a, us, n, j, rfl, p_int pk, ha, by rw [hr.length]; exact e6, ?_⟩
                  exact k2 _ _ (G3.s.trans (GoodX.of_mut G3.sim e5 rd3.2.1 ha (hr.set j rd3.1)))
              · exact k2.elim
/-- o[i], by values -/
theorem get_list : PGet X (rIxL X.K) := by
  intro pins s σ H x y v u Q I rx ry h
  obtain ⟨p, xs, i, z, rfl, rfl, hq, he, q⟩ := h
  cases rx
  obtain ⟨t, rfl⟩ := ry
  obtain ⟨its, r, pl, hz⟩ := I.list hq
  obtain ⟨j, h1, h2, h3, h4, h5⟩ := atI_get he
  obtain ⟨w, ew, rw'⟩ := r.get h2
  have hl := r.length
  have hn := line63
  have fin : EP X pins σ Q w s := ⟨z, H, I, rw', q⟩
  by_cases h0 : 0 ≤ i
  · have hj : i.toNat = j := by
      rw [seqIndex_of h0 h5] at h1
      exact Option.some.inj h1
    exact wpAny_getItem_list pl.isList h0 (by omega) (by rw [hj]; simpa using ew) fin
  · have hj : (i + (its.toArray.size : Int)).toNat = j := by
      rw [seqIndex_neg (by omega) h4] at h1
      rw [List.size_toArray, ← hl]
      exact Option.some.inj h1
    exact wpAny_getItem_list_neg pl.isList (by omega) (by rw [List.size_toArray] <;> omega) (by omega) (by rw [hj]; simpa using ew) fin
def augF : Op2 → Int → Int → Int
  | .add, i, j => i + j
  | .sub, i, j => i - j
  | _, _, _ => 0
def augO (o : Op2) : Bool := match o with | .add | .sub => true | _ => false
theorem ip_of (o : Op2) (h : augO o = true) : PIp X (opOf o) (ipI (augF o)) := by
  cases o <;> first | (cases h; done) | skip
  · exact ip_add
  · exact ip_sub
theorem augD_inv {o : Op2} {x y : PyData} {r : PyData} (h : augD o x y = some r) : ∃ i j, x = .int i ∧ y = .int j ∧ r = .int (augF o i j) := by
  unfold augD at h
  split at h
  · cases h; exact ⟨_, _, rfl, rfl, rfl⟩
  · cases h; exact ⟨_, _, rfl, rfl, rfl⟩
  · cases h
/-- name op= e -/
theorem s_aug {i : Nat} {x : Str} {o : Op2} {pos' : Pos} (hN : X.N.Nodup) (hi : X.N[i]? = some x) (hx : Loc X.env.scope x) (hf : X.fn x = true ∨ X.env.scope.names.lookup x = some .local) (ho : augO o = true) (he : PE X e (tE c de)) :
    PS X (.AugAssign (.Name x pos') (opOf o) e pos) (tS c fun ρ0 => match ρ0[i]? with
    | some (.val d0) => sE (bnd de peekM) (fun d ρ => match augD o d0 d, ρ[i]? with
      | some r, some (.val _) => .nx (ρ.set i (.val r))
      | _, _ => .bad) ρ0
    | _ => .bad) := by
  refine (ps_aug hN hi hx he (ip_of o ho) hf).weak fun D σ H ⟨g, ρ, s, k⟩ => ?_
  try dsimp only at k
  cases e1 : ρ[i]? with
  | none => rw [e1] at k; exact k.elim
  | some sl =>
    rw [e1] at k
    cases sl with
    | no => exact k.elim
    | err _ => exact k.elim
    | own _ _ _ => exact k.elim
    | val d0 =>
      try dsimp only at k
      obtain ⟨v0, h1, h2⟩ := s.val i d0 e1
      refine ⟨v0, h1, ?_⟩
      rw [sE_assoc] at k
      refine ⟨g, ρ, s, ?_⟩
      cases e3 : de ρ with
      | bad => rw [sE_bad e3] at k; exact k
      | exc z ρ3 => rw [sE_exc e3] at k; exact fun H' G => k σ H' G.s
      | ok ez ρ3 =>
        rw [sE_ok e3] at k
        intro z H3 G3
        try dsimp only at k
        rcases peekM_inv G3.sim G3.ref rfl with e4 | ⟨kd, e4, _, pk⟩
        · rw [sE_bad e4] at k; exact k.elim
        · rw [sE_ok e4] at k
          try dsimp only at k
          cases e5 : augD o d0 kd with
          | none => rw [e5] at k; exact k.elim
          | some r =>
            rw [e5] at k
            cases e6 : ρ3[i]? with
            | none => rw [e6] at k; exact k.elim
            | some sl =>
              rw [e6] at k
              cases sl with
              | no => exact k.elim
              | err _ => exact k.elim
              | own _ _ _ => exact k.elim
              | val d1 =>
                try dsimp only at k
                obtain ⟨i1, j1, rfl, rfl, rfl⟩ := augD_inv e5
                unfold Rel at h2
                subst h2
                refine ⟨i1, j1, rfl, p_int pk, k _ _ (G3.s.trans ?_)⟩
                have hl : RelL c.K (Tt g σ ρ3) H3 [.int (augF o i1 j1)] [.int (augF o i1 j1)] := RelL.cons rel_int RelL.nil
                exact setN_good (is := [i]) G3.sim hl (by unfold setN; rw [e6]; rfl)
/-- o[i] op= e -/
theorem s_augS {ps : Pos} {o ix : Expr} {dO di : M EV} {op : Op2} (hK : X.K = c.K) (hop : augO op = true) (ho : PE X o (tE c dO)) (hi : PE X ix (tE c di)) (he : PE X e (tE c de))
    (ha : ∀ ov iv new, augStore ix ov iv new = (do holding [new, ov, iv] (setItem ov iv new); release [new, ov, iv] []; pure .next)) :
    PS X (.AugAssign (.Subscript o ix ps) (opOf op) e pos) (tS c (sE dO fun x => sE (bnd di peekM) fun k => sE (bnd (locM x) peekM) fun l => match idxD l k with
    | some d0 => sE (bnd de peekM) fun d ρ => match augD op d0 d, x, k with
      | some r, .loc i, .int n => match ρ[i]? with
        | some (.own p false ds) => match L2.ixN ds.length n with
          | some j => .nx (ρ.set i (.own p false (ds.set j r)))
          | none => .bad
        | _ => .bad
      | _, _, _ => .bad
    | none => fun _ => .bad)) := by
  refine (ps_augS ho hi get_list he (ip_of op hop) set_list ha).weak fun D σ H h => ?_
  refine (oneS h).mono fun x H1 ⟨g, ρ, ex, s, r, k⟩ => ?_
  rw [sE_assoc] at k
  refine (nextS s r k).mono fun y H2 ⟨ρ2, ey, s2, _, rx2, ry, k2⟩ => ?_
  rcases peekM_inv s2 ry rfl with e4 | ⟨kd, e4, pp, pk⟩
  · rw [sE_bad e4] at k2; exact k2.elim
  · rw [sE_ok e4] at k2
    try dsimp only at k2
    rcases locM_inv s2 rx2 rfl with e5 | ⟨i, a, vs, rfl, e5, rfl, ha2⟩
    · rw [sE_bad (bnd_bad e5)] at k2; exact k2.elim
    · rcases peekM_inv (ev := .loc i) s2 rx2 rfl with e6 | ⟨ld, e6, pl, prl⟩
      · rw [sE_bad ((bnd_ok e5).trans e6)] at k2; exact k2.elim
      · rw [sE_ok ((bnd_ok e5).trans e6)] at k2
        try dsimp only at k2
        -- the list as it stands
        obtain ⟨p0, l0, ds0, e7, rfl⟩ : ∃ p0 l0 ds0, ρ2[i]? = some (Sl.own p0 l0 ds0) ∧ ld = .list ds0 := by
          have pl' : (match ρ2[i]? with | some (Sl.own _ _ ds) => some (PyData.list ds) | _ => none) = some ld := pl
          cases e8 : ρ2[i]? with
          | none => rw [e8] at pl'; cases pl'
          | some sl =>
            rw [e8] at pl'
            cases sl with
            | no => cases pl'
            | err _ => cases pl'
            | val _ => cases pl'
            | own p l ds => cases pl'; exact ⟨p, l, ds, rfl, rfl⟩
        obtain ⟨a', us, ea, hu, hr⟩ := own_at s2 e7 rx2
        cases ea
        cases e9 : idxD (.list ds0) kd with
        | none => rw [e9] at k2; exact k2.elim
        | some d0 =>
          rw [e9] at k2
          cases kd <;> first | (cases e9; done) | skip
          rename_i n
          have e9' : atI ds0 n = some d0 := e9
          obtain ⟨v0, h3, h4⟩ := rel_at hr e9'
          refine ⟨a, us, n, v0, rfl, p_int pk, SqL.of hu, h3, ?_⟩
          try dsimp only at k2
          have k3 : KontS c g σ H2 ρ2 (sE de (fun ez => sE (peekM ez) fun d ρ => match augD op d0 d, EV.loc i, PyData.int n with
      | some r, .loc i, .int n => match ρ[i]? with
        | some (.own p false ds) => match L2.ixN ds.length n with
          | some j => .nx (ρ.set i (.own p false (ds.set j r)))
          | none => .bad
        | _ => .bad
      | _, _, _ => .bad) ρ2) D := by
            rw [← sE_assoc]; exact k2
          have rv : Refs c g σ H2 ρ2 [v0, .ref a] [.val d0, .loc i] := ⟨h4, rx2, trivial⟩
          refine ⟨g, ρ2, s2, ?_⟩
          cases e3 : de ρ2 with
          | bad => rw [sE_bad e3] at k3; exact k3
          | exc z ρ3 => rw [sE_exc e3] at k3; exact fun H' G => k3 σ H' G.s
          | ok ez ρ3 =>
            rw [sE_ok e3] at k3
            intro z H3 G3
            try dsimp only at k3
            have rv3 := rv.step G3.step
            rcases peekM_inv G3.sim G3.ref rfl with e4 | ⟨zd, e4, _, pz⟩
            · rw [sE_bad e4] at k3; exact k3.elim
            · rw [sE_ok e4] at k3
              try dsimp only at k3
              cases e10 : augD op d0 zd with
              | none => rw [e10] at k3; exact k3.elim
              | some r =>
                rw [e10] at k3
                try dsimp only at k3
                obtain ⟨i1, j1, rfl, rfl, rfl⟩ := augD_inv e10
                have h4' := rv3.1
                have hv0 : v0 = .int i1 := by
                  have : Rel c.K (Tt g σ ρ3) H3 v0 (.int i1) := h4'
                  unfold Rel at this
                  exact this
                subst hv0
                refine ⟨i1, j1, rfl, p_int pz, ?_⟩
                cases e11 : ρ3[i]? with
                | none => rw [e11] at k3; exact k3.elim
                | some sl =>
                  rw [e11] at k3
                  cases sl with
                  | no => exact k3.elim
                  | err _ => exact k3.elim
                  | val _ => exact k3.elim
                  | own p l ds =>
                    cases l
                    · try dsimp only at k3
                      cases e12 : ixN ds.length n with
                      | none => rw [e12] at k3; exact k3.elim
                      | some j =>
                        rw [e12] at k3
                        obtain ⟨a', us', ea, hu', hr'⟩ := own_at G3.sim e11 rv3.2.1
                        cases ea
                        refine ⟨a, us', n, j, rfl, p_int pk, hu', by rw [hr'.length]; exact e12, ?_⟩
                        exact k3 _ _ (G3.s.trans (GoodX.of_mut G3.sim e11 rv3.2.1 hu' (hr'.set j rel_int)))
                    · exact k3.elim
/-- while c: body -/
theorem s_whl {cc : Expr} {body : List Stmt} {n : Nat} {f : Ev → SR} (hp : PassesOwn (model X.prog X.w) X.A X.env X.xe) (hc : PT X cc (tT c (bnd da truthM))) (hb : PSs X body (tS c f)) :
    PS X (.While cc body [] pos) (tS c (whlL (bnd da truthM) f n)) := by
  refine (ps_while hp hc hb).weak fun D σ0 H0 ⟨g, ρ0, s0, k0⟩ => ?_
  refine ⟨fun m σ H => ∃ ρ, Sim c g σ H ρ ∧ KontS c g σ H ρ (whlL (bnd da truthM) f m ρ) D, ⟨n, ρ0, s0, k0⟩, ?_⟩
  rintro m σ H ⟨ρ, s, k⟩
  cases m with
  | zero => exact k.elim
  | succ m =>
    unfold whlL at k
    refine ⟨g, ρ, s, ?_⟩
    cases e1 : bnd da truthM ρ with
    | bad => rw [e1] at k; exact k.elim
    | exc z ρ1 => rw [e1] at k; exact fun H' G => k σ H' G.s
    | ok t ρ1 =>
      rw [e1] at k
      intro H1 G
      have k1 := KontS.step G.s k
      cases t with
      | false => exact k1 σ H1 (GoodS.refl G.sim)
      | true =>
        rw [if_pos rfl]
        refine ⟨fun σ' H' => ∃ ρ, Sim c g σ' H' ρ ∧ KontS c g σ' H' ρ (whlL (bnd da truthM) f m ρ) D, fun σ' H' z => ⟨m, Nat.lt_succ_self m, z⟩, g, ρ1, G.sim, ?_⟩
        try dsimp only at k1
        cases e2 : f ρ1 with
        | nx ρ2 => rw [e2] at k1; exact fun σ2 H2 G2 => ⟨ρ2, G2.sim, k1.step G2⟩
        | ct ρ2 => rw [e2] at k1; exact fun σ2 H2 G2 => ⟨ρ2, G2.sim, k1.step G2⟩
        | bk ρ2 => rw [e2] at k1; exact fun σ2 H2 G2 => k1 σ2 H2 G2
        | rt v ρ2 => rw [e2] at k1; exact k1
        | ex x ρ2 => rw [e2] at k1; exact k1
        | bad => rw [e2] at k1; exact k1
end
end Den
set_option autoImplicit false
set_option maxRecDepth 100000
set_option maxHeartbeats 4000000
/-! Den, part L0: enumerate over tuples. -/
namespace Den
open PySem PySem.Spec PyProof.Rows L2 GxR
open AutoSeq1 (wpAny_loadPart')
theorem newT_ok (l : Addr) (items : Array Value) :
    Meets (Builtin.«enumerate.__new__» ⟨[.type "enumerate", .ref l], []⟩) (fun _ R s => s.heap.IsTuple l items ∧
      R (.ok (.ret (.ref (s.heap.push { cls := .type "tuple_iterator", data := .fields #[.ref l, .int 0 0] }).objs.size)))
        { s with heap := (s.heap.push { cls := .type "tuple_iterator", data := .fields #[.ref l, .int 0 0] }).push { cls := .type "enumerate", data := .fields #[.none, .bool false, .ref s.heap.objs.size, rawInt 0, .none, .none] } }) :=
  .of_wp fun prog w A R s h => by
    obtain ⟨hp, g, d, tk, os⟩ := s; obtain ⟨hL, h⟩ := h
    have hsub := sub_enumerate
    obtain ⟨o, hl, hc, hd⟩ := id hL
    wp_walk using wpAny_loadPart' hl
    refine wpAny_stack_any fun st => wpAny_pure ?_
    split
    · rename_i c _ _ _ _ _
      cases (c == Value.type "enumerate")
      · wp_walk using wpAny_loadPart' hl, wpAny_pyIter_tuple hL
        exact ⟨_, rfl, h⟩
      · wp_walk using wpAny_loadPart' hl, wpAny_pyIter_tuple hL
        exact ⟨_, rfl, h⟩
    · wp_walk using wpAny_loadPart' hl, wpAny_pyIter_tuple hL
      exact ⟨_, rfl, h⟩
section
variable {prog : Program} {w : World} {A : Around} {E : Value → Shared → Prop} {s : Shared}
theorem call_enumT {l : Addr} {items : Array Value} {Q : Value → Shared → Prop} (hL : s.heap.IsTuple l items)
    (h : ∀ h', IsEnum h' (s.heap.objs.size + 1) s.heap.objs.size 0 .none → h'.IsTupleIter s.heap.objs.size l 0 → h'.objs.size = s.heap.objs.size + 2 →
      (∀ b o, s.heap.get? b = some o → h'.get? b = some o) → Q (.ref (s.heap.objs.size + 1)) { s with heap := h' }) :
    wpAny (model prog w) A (call (.type "enumerate") [.ref l]) Q E s := by
  refine callType_new F.called_enumerate (by decide) (F.typeCall_enumerate_1 _) (F.newCall_enumerate_1 _) (fun obj => F.args_object_init_2 obj _) F.entry_enumerate_new
    (newT_ok l items) ⟨hL, ?_⟩
  have hz : (s.heap.push { cls := .type "tuple_iterator", data := .fields #[.ref l, .int 0 0] }).objs.size = s.heap.objs.size + 1 := Heap.size_push ..
  show _ ∧ _
  rw [hz]
  have he : IsEnum ((s.heap.push { cls := .type "tuple_iterator", data := .fields #[.ref l, .int 0 0] }).push
      { cls := .type "enumerate", data := .fields #[.none, .bool false, .ref s.heap.objs.size, rawInt 0, .none, .none] }) (s.heap.objs.size + 1) s.heap.objs.size 0 .none := by
    have := Heap.get?_push_size (s.heap.push { cls := .type "tuple_iterator", data := .fields #[.ref l, .int 0 0] })
      (o := { cls := .type "enumerate", data := .fields #[.none, .bool false, .ref s.heap.objs.size, rawInt 0, .none, .none] }) rfl
    rw [hz] at this; exact this
  refine ⟨⟨_, he, rfl⟩, h _ he ⟨_, Heap.get?_push_of_some _ (Heap.get?_push_size _ rfl), rfl, rfl⟩ (by rw [Heap.size_push, hz]) fun b o x => Heap.get?_push_of_some _ (Heap.get?_push_of_some _ x)⟩
end
theorem enumT_end {prog : Program} {w : World} {A : Around} {E : Value → Shared → Prop} {s : Shared} {e it l : Addr} {i : Int} {k : Nat} {items : Array Value} {old : Value} {Q : Option Value → Shared → Prop} (hh : A.handled = none)
    (he : IsEnum s.heap e it i old) (hit : s.heap.IsTupleIter it l k) (hL : s.heap.IsTuple l items) (hx : items[k]? = none)
    (hQ : ∀ h', Heap.ExtBut it s.heap h' → Q none { s with heap := h' }) : wpAny (model prog w) A (pyNext (.ref e)) Q E s := by
  have hT : s.TypeIs (.ref e) "enumerate" := ⟨_, he, rfl⟩
  unfold pyNext
  refine wpAny_bind (wpAny_attempt (wpAny_callSpecial?_slot (name := Str.ofString "__next__") hT F.slot_enumerate_next
    (wpAny_call_entry F.slot_enumerate_next hT F.entry_enumerate_next ?_ (F.args_enumerate_next_1 _))))
  show wpAny _ _ (field (.ref e) 2 >>= _) _ _ _
  refine wpAny_bind (wpAny_field he rfl (x := .ref it) rfl ?_)
  refine wpAny_bind (wpAny_nextOf_tuple_end (show A.in1.handled = none from hh) hit hL hx fun h' x he' hx' => ?_)
  obtain ⟨o, ho, hc⟩ := hx'
  refine wpAny_bind (wpAny_isInstance (T := "StopIteration") (b := true) ⟨o, ho, hc⟩ isSubtype_stop ?_)
  exact wpAny_pure (hQ _ he')
/-- the tuple at a as it stands at each turn, each item in a new pair -/
def IteT (K : PySem.W.Frag) (a : Addr) : It :=
  ⟨fun i H => ∃ (xs : List V) (x : V), SqT K H a xs ∧ xs[i]? = some x, fun i H v H' => ∃ T x, v = .ref T ∧ H T = none ∧ H' = upd H T (.tup [.int (i : Nat), x]) ∧ ∀ xs, SqT K H a xs → xs[i]? = some x, fun i H => ∃ xs : List V, SqT K H a xs ∧ xs.length ≤ i⟩
theorem turn_enumT {P : Program} {w : World} {K : PySem.W.Frag} {elts : List Expr} {kk : Nat} {tpos : Pos} (a e it : Addr) :
    Turn P w K (.Tuple elts kk tpos) (IteT K a) [e, it] e (fun i h => (∃ old, IsEnum h e it ((i : Nat) : Int) old) ∧ h.IsTupleIter it a i ∧ e ≠ it ∧ a ≠ it ∧ e ≠ a) where
  mem := by simp
  obj := fun i h st b hb => by
    obtain ⟨⟨old, he⟩, ⟨o, ho, hc, hd⟩, _⟩ := st
    have e' : b = e ∨ b = it := by simpa using hb
    rcases e' with z | z
    · rw [z]; exact ⟨_, he, fun v q => nomatch q⟩
    · rw [z]; exact ⟨o, ho, fun v q => by rw [hd] at q; cases q⟩
  keep := fun i h h' st k => let ⟨⟨old, he⟩, hi, hne⟩ := st; ⟨⟨old, k e (by simp) _ he⟩, hi.at fun o q => k it (by simp) o q, hne⟩
  item := by
    intro X hP hw hK hc i pins s σ H E I hf st hg
    subst hP hw hK
    obtain ⟨⟨old, he⟩, hit, hne, hna, hea⟩ := st
    obtain ⟨xs, x, hq, hx⟩ := hg
    obtain ⟨its, rv, p, hz⟩ := I.tuple hq
    obtain ⟨u, hu, ru⟩ := rv.get hx
    have hel : e < s.heap.objs.size := Heap.lt_size he
    have hil : it < s.heap.objs.size := by obtain ⟨_, q, _⟩ := hit; exact Heap.lt_size q
    have D := Draws.tuple (prog := X.prog) (w := X.w) (A := X.A.in1) (show X.A.in1.handled = none from I.ok.hd hc) it a hna its.toArray
    refine wpAny_pyNext_enum_itemD D he ⟨hit, p⟩ (by simpa using get_lt hu) hne (by simp [hne, hea]) fun x' h' tk hx' ho hst hT hsz hk => ?_
    have ex' : x' = u := by
      have : its.toArray[i]? = some x' := hx'
      have h2 : its[i]? = some x' := by simpa using this
      rw [hu] at h2
      exact (Option.some.inj h2).symm
    subst ex'
    refine ⟨_, rfl, wpAny_letOwnedTupleGo_enum (s := { s with heap := h', toks := tk + 1 }) ho fun h'' he' sb => ?_⟩
    have hT2 : h''.get? s.heap.objs.size = some { cls := .type "tuple", data := .seq #[.int i tk, x'] } := (sb.2 _ (Nat.ne_of_gt hel)).trans hT
    have new : ObjOk X.prog X.w (upd H s.heap.objs.size (.tup [.int (i : Nat), x])) h'' s.heap.objs.size (.tup [.int (i : Nat), x]) :=
      ⟨by show 2 ≤ sizeLine; decide, [.int i tk, x'], .cons ⟨_, rfl⟩ (.cons ru .nil), ⟨_, hT2, rfl, _, rfl⟩⟩
    have I1 : Inv X pins σ (upd H s.heap.objs.size (.tup [.int (i : Nat), x])) { s with heap := h'', toks := tk + 1 } :=
      I.turnedNew (ch := [e, it]) (fun b ob hb q => (sb.2 b (fun z => hb (by simp [z]))).trans (hk b ob (fun z => hb (by simp [z])) (fun z => hb (by simp [z])) q)) hf (Nat.le_refl _) new
    refine ⟨.ref s.heap.objs.size, _, I1, rfl, ⟨_, x, rfl, I.hok.fresh (Nat.le_refl _), rfl, fun ys hy => by rw [I.tuple_inj hy hq]; exact hx⟩, ⟨⟨x', ?_⟩, hst.1.at fun o q => (sb.2 it (Ne.symm hne)).trans q, hne, hna, hea⟩, fun b hb => ?_⟩
    · have e1 : ((i + 1 : Nat) : Int) = (i : Int) + 1 := by omega
      rw [e1]; exact he'
    · have hb' : b < s.heap.objs.size := by
        have e' : b = e ∨ b = it := by simpa using hb
        rcases e' with z | z
        · rw [z]; exact hel
        · rw [z]; exact hil
      rw [upd_ne (Nat.ne_of_lt hb')]
      exact (hf b hb).1
  done := by
    intro X hP hw hK hc i pins s σ H E I hf st hg
    subst hP hw hK
    obtain ⟨⟨old, he⟩, hit, hne, hna, hea⟩ := st
    obtain ⟨xs, hq, hx⟩ := hg
    obtain ⟨its, rv, p, hz⟩ := I.tuple hq
    obtain ⟨f0, f1, f2, f3, f4, f5⟩ := hf it (by simp)
    have hl := rv.length
    exact enumT_end (I.ok.hd hc) he hit p (by simp; omega) fun h' eb => ⟨rfl, I.turned (t' := s.toks) (fun b o hb q => eb b o hb q) f0 f1 f3 f4 f5⟩
  self := fun A i s Q E st h => let ⟨⟨_, he⟩, _⟩ := st; wpAny_pyIter_enum he h
/-- enumerate(x), x a list or a tuple -/
def iEnumA (K : PySem.W.Frag) (ta : TA) : TI := fun σ H R => ta σ H fun vs H1 => ∃ a xs, vs = [.ref a] ∧ ((SqL K H1 a xs ∧ R (Ite K a) H1) ∨ (SqT K H1 a xs ∧ R (IteT K a) H1))
theorem pi_enumA {X : Cx} {e : Expr} {ta : TA} {p pos tpos : Pos} {elts : List Expr} {kk : Nat} (hg : Gl X "enumerate") (hm : X.mg "enumerate" = none) (ha : PA X [e] ta) (hs : starEach [e] X.env = [(false, eval e X.env)] := by rfl) :
    PI X (.Tuple elts kk tpos) (.Call (.Name "enumerate" p) [e] [] pos) (iEnumA X.K ta) := by
  refine ⟨fun pins s σ H R I h => ?_⟩
  refine Call_ (ld_blt I hg hm PyProof.Rows.boot_enumerate (PyProof.Rows.callWith_type1 (thn (ha.run pos pins s σ H _ I h) fun us s1 ⟨vs, H1, I1, r1, q1⟩ => ?_) hs rfl))
  obtain ⟨a, xs, ex, q1⟩ := q1
  subst ex
  cases r1 with
  | cons r rr =>
    cases rr
    cases r
    have fr2 : ∀ b ∈ [s1.heap.objs.size + 1, s1.heap.objs.size], FpOk X pins H1 b := fun b hb => by
      have hle : s1.heap.objs.size ≤ b := by
        have e' : b = s1.heap.objs.size + 1 ∨ b = s1.heap.objs.size := by simpa using hb
        rcases e' with z | z <;> rw [z]
        · exact Nat.le_add_right _ _
        · exact Nat.le_refl _
      exact I1.fpOk hle (I1.hok.fresh hle)
    rcases q1 with ⟨hq, q⟩ | ⟨hq, q⟩
    · obtain ⟨its, rv, p', hz⟩ := I1.list hq
      refine call_enumerate_list p'.isList fun h' he hit hsz hk => wpAny_pyIter_enum he ?_
      have I2 : Inv X pins σ H1 { s1 with heap := h' } := I1.kept (t' := s1.toks) hk
      exact ⟨_, _, _, _, H1, rfl, I2, turn_enum a (s1.heap.objs.size + 1) s1.heap.objs.size, ⟨⟨.none, he⟩, hit, Nat.succ_ne_self _⟩, fr2, q⟩
    · obtain ⟨its, rv, p', hz⟩ := I1.tuple hq
      obtain ⟨o1, ho1, _⟩ := id p'
      have lt := Heap.lt_size ho1
      refine call_enumT (show s1.heap.IsTuple a its.toArray from p') fun h' he hit hsz hk => wpAny_pyIter_enum he ?_
      have I2 : Inv X pins σ H1 { s1 with heap := h' } := I1.kept (t' := s1.toks) hk
      exact ⟨_, _, _, _, H1, rfl, I2, turn_enumT a (s1.heap.objs.size + 1) s1.heap.objs.size, ⟨⟨.none, he⟩, hit, Nat.succ_ne_self _, Nat.ne_of_lt lt, Nat.ne_of_gt (Nat.lt_succ_of_lt lt)⟩, fr2, q⟩
end Den
set_option autoImplicit false
set_option maxRecDepth 100000
set_option maxHeartbeats 4000000
/-! Den, part L: what is walked. -/
namespace Den
open PySem PySem.Spec PyProof.Rows L2 GxR
/-- what stays while a walk lasts -/
def Lk (c : Ct) (g : Gh) (σ : L2.St) (H : Hp) (ρ : Ev) (x : V × EV × PyData) : Prop := match x.2.1 with
  | .val d => d = x.2.2 ∧ Rel c.K (Tt g σ ρ) H x.1 d
  | .loc i => ∃ p ds, x.2.2 = .list ds ∧ ρ[i]? = some (.own p true ds) ∧ σ[i]? = some (some x.1)
  | .fresh _ => False
def Walks (c : Ct) (J : It) (ds : List PyData) (L : List (V × EV × PyData)) : Prop := ∀ g σ H ρ, Sim c g σ H ρ → (∀ x ∈ L, Lk c g σ H ρ x) → ∀ i : Nat,
  (ds.length ≤ i → J.stop i H) ∧ ∀ d, ds[i]? = some d → J.go i H ∧ ∀ x H', J.yld i H x H' → Good c g σ H ρ x H' (.val d) ρ
def KontI (c : Ct) (g : Gh) (σ : L2.St) (H : Hp) (ρ : Ev) (r : R (EV × List PyData)) (Q : It → Hp → Prop) : Prop := match r with
  | .ok p ρ1 => ∀ H1 J L, GoodX c g σ H ρ H1 ρ1 → (∀ ρ2, lock ρ1 p.1 = some ρ2 → ∀ x ∈ L, Lk c g σ H1 ρ2 x) → (∀ i, p.1 = .loc i → ∃ v, σ[i]? = some (some v)) → Walks c J p.2 L → Q J H1
  | .exc k ρ1 => ∀ H1, GoodX c g σ H ρ H1 ρ1 → c.W (c.cls k) none σ H1
  | .bad => False
def tI (c : Ct) (d : M (EV × List PyData)) : TI := fun σ H Q => ∃ g ρ, Sim c g σ H ρ ∧ KontI c g σ H ρ (d ρ) Q
section
variable {X : Cx} {c : Ct} {g : Gh} {σ σ1 : L2.St} {H H1 : Hp} {ρ ρ1 ρ' : Ev} {tg e a b : Expr} {pos : Pos} {da db de : M EV}
theorem _root_.L2.PI.weak {tg e : Expr} {t t' : TI} (h : PI X tg e t) (w : ∀ σ H Q, t' σ H Q → t σ H Q) : PI X tg e t' := ⟨fun pins s σ H Q I q => h.run pins s σ H Q I (w σ H Q q)⟩
/-! ### lists, tuples, strings -/
def iAny (K : Fg) (tl : TE) : TI := fun σ H R => tl σ H fun x H1 => (∃ a, x = .ref a ∧ (∃ xs, SqL K H1 a xs) ∧ R (Itl K a) H1) ∨ (∃ a, x = .ref a ∧ (∃ xs, SqT K H1 a xs) ∧ R (Itt K a) H1) ∨ ∃ z, x = .str z ∧ R (Its z) H1
theorem pi_any {l : Expr} {tl : TE} (hl : PE X l tl) : PI X tg l (iAny X.K tl) := by
  refine ⟨fun pins s σ H R I h => ?_⟩
  refine thn (hl.run pins s σ H _ I h) fun v s1 ⟨x, H1, I1, r1, q1⟩ => ?_
  rcases q1 with ⟨a, e, ⟨xs, hq⟩, q⟩ | ⟨a, e, ⟨xs, hq⟩, q⟩ | ⟨x, ex, q⟩
  · subst e
    cases r1
    obtain ⟨its, rv, p, hz⟩ := I1.list hq
    refine wpAny_pyIter_list p.isList ?_
    refine ⟨s1.heap.objs.size, [s1.heap.objs.size], _, _, H1, rfl, I1.kept (t' := s1.toks) fun b o e => Heap.get?_push_of_some _ e, turn_list a _, ⟨_, Heap.get?_push_size _ rfl, rfl, rfl⟩, fun b hb => ?_, q⟩
    have e : b = s1.heap.objs.size := by simpa using hb
    subst e
    exact I1.fpOk (Nat.le_refl _) (I1.hok.fresh (Nat.le_refl _))
  · subst e
    cases r1
    obtain ⟨its, rv, p, hz⟩ := I1.tuple hq
    refine wpAny_pyIter_tuple (show s1.heap.IsTuple a its.toArray from p) ?_
    refine ⟨s1.heap.objs.size, [s1.heap.objs.size], _, _, H1, rfl, I1.kept (t' := s1.toks) fun b o e => Heap.get?_push_of_some _ e, turn_tuple a _, ⟨_, Heap.get?_push_size _ rfl, rfl, rfl⟩, fun b hb => ?_, q⟩
    have e : b = s1.heap.objs.size := by simpa using hb
    subst e
    exact I1.fpOk (Nat.le_refl _) (I1.hok.fresh (Nat.le_refl _))
  · subst ex
    obtain ⟨t, rfl⟩ := r1
    cases ha : x.cps.all (· < 128)
    · exact wpAny_pyIter_wide ha (pi_one (tk := s1.toks) I1 _ (turn_str _ x t "str_iterator" (.inr rfl)) ⟨_, Heap.get?_push_size _ rfl, rfl, rfl⟩ q)
    · exact wpAny_pyIter_ascii ha (pi_one (tk := s1.toks) I1 _ (turn_str _ x t "str_ascii_iterator" (.inl rfl)) ⟨_, Heap.get?_push_size _ rfl, rfl, rfl⟩ q)
/-- what a locked or frozen list holds -/
theorem Lk.list {v : V} {ev : EV} {ds : List PyData} (s : Sim c g σ H ρ) (h : Lk c g σ H ρ (v, ev, .list ds)) : ∃ a vs, v = .ref a ∧ LRd c.K H a vs ∧ RelL c.K (Tt g σ ρ) H vs ds := by
  cases ev with
  | fresh _ => exact h.elim
  | val d =>
    obtain ⟨e, r⟩ := h
    have e' : d = .list ds := e
    subst e'
    exact p_lst r.p
  | loc i =>
    obtain ⟨p, ds', e, h1, h2⟩ := h
    cases e
    obtain ⟨a, vs, q1, q2, q3, _⟩ := s.own i p true ds h1
    rw [h2] at q1; cases q1
    exact ⟨a, vs, rfl, .inl (.inl q2), q3⟩
theorem Lk.tuple {v : V} {ev : EV} {ds : List PyData} (h : Lk c g σ H ρ (v, ev, .tuple ds)) : ∃ a vs, v = .ref a ∧ FT c.K (Tt g σ ρ) H a vs ∧ RelL c.K (Tt g σ ρ) H vs ds := by
  cases ev with
  | fresh _ => exact h.elim
  | val d =>
    obtain ⟨e, r⟩ := h
    have e' : d = .tuple ds := e
    subst e'
    exact p_tup r.p
  | loc i =>
    obtain ⟨p, ds', e, h1, h2⟩ := h
    cases e
theorem walks_list {a : Addr} {ev : EV} {ds : List PyData} (hK : X.K = c.K) : Walks c (Itl X.K a) ds [(.ref a, ev, .list ds)] := by
  intro g σ H ρ s hL i
  obtain ⟨a', vs, e, h1, h2⟩ := (hL _ (List.mem_singleton.mpr rfl)).list s
  cases e
  have hq := h1.sq
  rw [← hK] at hq
  refine ⟨fun h => ⟨vs, hq, by rw [h2.length]; exact h⟩, fun d hd => ?_⟩
  obtain ⟨u, hu, ru⟩ := h2.get hd
  refine ⟨⟨vs, u, hq, hu⟩, fun x H' ⟨e, hx⟩ => ?_⟩
  subst e
  have := hx vs hq
  rw [hu] at this; cases this
  exact Good.of_val s ru
theorem walks_tup {a : Addr} {ev : EV} {ds : List PyData} (hK : X.K = c.K) : Walks c (Itt X.K a) ds [(.ref a, ev, .tuple ds)] := by
  intro g σ H ρ s hL i
  obtain ⟨a', vs, e, h1, h2⟩ := (hL _ (List.mem_singleton.mpr rfl)).tuple
  cases e
  have hq := h1.sq
  rw [← hK] at hq
  refine ⟨fun h => ⟨vs, hq, by rw [h2.length]; exact h⟩, fun d hd => ?_⟩
  obtain ⟨u, hu, ru⟩ := h2.get hd
  refine ⟨⟨vs, u, hq, hu⟩, fun x H' ⟨e, hx⟩ => ?_⟩
  subst e
  have := hx vs hq
  rw [hu] at this; cases this
  exact Good.of_val s ru
theorem walks_str {z : Str} (hz : PyData.strOk z = true) : Walks c (Its z) (z.cps.toList.map fun c => .str ⟨#[c]⟩) [] := by
  intro g σ H ρ s _ i
  refine ⟨fun h => by simpa [Its] using h, fun d hd => ?_⟩
  rw [List.getElem?_map] at hd
  cases e : z.cps.toList[i]? with
  | none => rw [e] at hd; cases hd
  | some u =>
    rw [e] at hd; cases hd
    have hi := get_lt e
    refine ⟨by simpa [Its] using hi, fun x H' ⟨e1, u', e2, e3⟩ => ?_⟩
    subst e1 e3
    have e' : z.cps[i]? = some u := by simpa using e
    rw [e'] at e2; cases e2
    refine Good.of_val s (rel_str ?_)
    exact strOk_one hz (List.mem_of_getElem? e)
theorem i_ex (hK : X.K = c.K) (he : PE X e (tE c de)) : PI X tg e (tI c (bnd de fun x => bnd (peekM x) fun d => bnd (ofO (itemsD d)) fun ds => ret (settle x, ds))) := by
  refine (pi_any he).weak fun σ H Q ⟨g, ρ, s, k⟩ => ?_
  refine ⟨g, ρ, s, ?_⟩
  cases e1 : de ρ with
  | bad => rw [bnd_bad e1] at k; exact k
  | exc x ρ1 => rw [bnd_exc e1] at k; exact k
  | ok ev ρ1 =>
    rw [bnd_ok e1] at k
    intro v H1 G
    rcases peekM_inv G.sim G.ref rfl with e2 | ⟨d, e2, pk, pr⟩
    · rw [bnd_bad e2] at k; exact k.elim
    · rw [bnd_ok e2] at k
      cases e3 : itemsD d with
      | none => rw [e3] at k; exact k.elim
      | some ds =>
        rw [e3] at k
        have k' : KontI c g σ H ρ (.ok (settle ev, ds) ρ1) Q := k
        have GX : GoodX c g σ H ρ H1 ρ1 := ⟨G.sim, G.step⟩
        -- the settled worth stays
        have lkv : ∀ ρ2, lock ρ1 (settle ev) = some ρ2 → Lk c g σ H1 ρ2 (v, settle ev, d) := by
          intro ρ2 hl
          have rf := G.ref
          cases hv : settle ev with
          | fresh _ => cases ev <;> cases hv
          | val d' =>
            rw [hv] at hl rf pk
            cases hl
            cases pk
            exact ⟨rfl, rf⟩
          | loc i =>
            rw [hv] at hl rf pk
            simp only [lock] at hl
            have pk' : (match ρ1[i]? with | some (Sl.own _ _ ds) => some (PyData.list ds) | _ => none) = some d := pk
            cases e4 : ρ1[i]? with
            | none => rw [e4] at hl; cases hl
            | some sl =>
              rw [e4] at hl pk'
              cases sl with
              | no => cases hl
              | err _ => cases hl
              | val _ => cases hl
              | own p l ds' =>
                cases l
                · cases hl; cases pk'
                  exact ⟨p, ds', rfl, get_set e4, rf⟩
                · cases hl
        have hloc : ∀ i, settle ev = .loc i → ∃ v, σ[i]? = some (some v) := fun i hi => by
          have rf := G.ref
          rw [hi] at rf
          exact ⟨v, rf⟩
        cases d <;> first | (cases e3; done) | skip
        · -- a string
          rename_i z
          obtain ⟨rfl, hs⟩ := p_str pr
          have e3 : (if z.length ≤ line then some (z.cps.toList.map fun c => PyData.str ⟨#[c]⟩) else none) = some ds := e3
          by_cases hz : z.length ≤ line
          · rw [if_pos hz] at e3; cases e3
            exact .inr (.inr ⟨z, rfl, k' H1 (Its z) [] GX (fun _ _ _ h => by cases h) hloc (walks_str hs)⟩)
          · rw [if_neg hz] at e3; cases e3
        · rename_i xs
          have e3' : xs = ds := Option.some.inj e3
          subst e3'
          obtain ⟨a, vs, rfl, h1, h2⟩ := p_lst pr
          have hq := h1.sq
          rw [← hK] at hq
          refine .inl ⟨a, rfl, ⟨vs, hq⟩, k' H1 (Itl X.K a) [(.ref a, settle ev, .list xs)] GX (fun ρ2 hl x hx => ?_) hloc (walks_list hK)⟩
          cases List.mem_singleton.mp hx
          exact lkv ρ2 hl
        · rename_i xs
          have e3' : xs = ds := Option.some.inj e3
          subst e3'
          obtain ⟨a, vs, rfl, h1, h2⟩ := p_tup pr
          have hq := h1.sq
          rw [← hK] at hq
          refine .inr (.inl ⟨a, rfl, ⟨vs, hq⟩, k' H1 (Itt X.K a) [(.ref a, settle ev, .tuple xs)] GX (fun ρ2 hl x hx => ?_) hloc (walks_tup hK)⟩)
          cases List.mem_singleton.mp hx
          exact lkv ρ2 hl

/-! ### range -/
theorem walks_range {lo : Int} {n : Nat} : Walks c (Itr lo n) ((List.range n).map fun (k : Nat) => .int (lo + (k : Int))) [] := by
  intro g σ H ρ s _ i
  refine ⟨fun h => by simpa [Itr] using h, fun d hd => ?_⟩
  rw [List.getElem?_map] at hd
  cases e : (List.range n)[i]? with
  | none => rw [e] at hd; cases hd
  | some u =>
    rw [e] at hd; cases hd
    have hi : i < n := by have := get_lt e; simpa using this
    have hu : u = i := by
      rw [List.getElem?_range hi] at e
      exact (Option.some.inj e).symm
    subst hu
    exact ⟨hi, fun x H' ⟨e1, e2⟩ => by subst e1 e2; exact Good.of_val s rel_int⟩
theorem rangeD_inv {T : Addr → Prop} {K : Fg} {vs : List V} {ds : List PyData} {ns : List Int} (h : rangeD ds = some ns) (r : PRelL K T H vs ds) :
    (∃ j : Int, vs = [.int j] ∧ big j = true ∧ ns = (List.range j.toNat).map fun (k : Nat) => (k : Int)) ∨ ∃ i j : Int, vs = [.int i, .int j] ∧ (big i && big j) = true ∧ ns = (List.range (j - i).toNat).map fun (k : Nat) => i + (k : Int) := by
  unfold rangeD at h
  split at h
  · rename_i j
    split at h
    · cases h
      rcases vs with _ | ⟨v, _ | ⟨_, _⟩⟩
      · exact r.elim
      · have := p_int r.1
        subst this
        exact .inl ⟨j, rfl, by assumption, rfl⟩
      · exact r.2.elim
    · cases h
  · rename_i i j
    split at h
    · cases h
      rcases vs with _ | ⟨v, _ | ⟨w, _ | ⟨_, _⟩⟩⟩
      · exact r.elim
      · exact r.2.elim
      · have h1 := p_int r.1
        have h2 := p_int r.2.1
        subst h1 h2
        exact .inr ⟨i, j, rfl, by assumption, rfl⟩
      · exact r.2.2.elim
    · cases h
  · cases h
theorem big_at {i : Int} (h : big i = true) : -(2 ^ 62) ≤ i ∧ i < 2 ^ 62 := by
  unfold big at h
  rw [Bool.and_eq_true] at h
  exact ⟨of_decide_eq_true h.1, of_decide_eq_true h.2⟩
theorem rng_go {dl : M (List EV)} {Q : It → Hp → Prop} (h : tI c (bnd dl rngM) σ H Q) : tA c dl σ H fun vs H1 =>
    (∃ j : Int, vs = [.int j] ∧ -(2 ^ 62) ≤ j ∧ j < 2 ^ 62 ∧ Q (Itr 0 j.toNat) H1) ∨ ∃ i j : Int, vs = [.int i, .int j] ∧ (-(2 ^ 62) ≤ i ∧ i < 2 ^ 62 ∧ -(2 ^ 62) ≤ j ∧ j < 2 ^ 62) ∧ Q (Itr i (j - i).toNat) H1 := by
  obtain ⟨g, ρ, s, k⟩ := h
  refine ⟨g, ρ, s, ?_⟩
  cases e1 : dl ρ with
  | bad => rw [bnd_bad e1] at k; exact k
  | exc x ρ1 => rw [bnd_exc e1] at k; exact k
  | ok evs ρ1 =>
    rw [bnd_ok e1] at k
    intro vs H1 G r
    unfold rngM at k
    cases e2 : peeks ρ1 evs with
    | none => rw [e2] at k; exact k.elim
    | some ds =>
      rw [e2] at k
      have pr := peeks_rel G.sim r e2
      dsimp only at k
      cases e3 : rangeD ds with
      | none => rw [e3] at k; exact k.elim
      | some ns =>
        rw [e3] at k
        have k' : KontI c g σ H ρ (.ok (.val .none, ns.map .int) ρ1) Q := k
        rcases rangeD_inv e3 pr with ⟨j, rfl, hb, rfl⟩ | ⟨i, j, rfl, hb, rfl⟩
        · obtain ⟨b1, b2⟩ := big_at hb
          refine .inl ⟨j, rfl, b1, b2, k' H1 _ [] G (fun _ _ _ h => by cases h) (fun _ h => by cases h) ?_⟩
          have := walks_range (c := c) (lo := 0) (n := j.toNat)
          simpa [Function.comp_def] using this
        · rw [Bool.and_eq_true] at hb
          obtain ⟨b1, b2⟩ := big_at hb.1
          obtain ⟨b3, b4⟩ := big_at hb.2
          refine .inr ⟨i, j, rfl, ⟨b1, b2, b3, b4⟩, k' H1 _ [] G (fun _ _ _ h => by cases h) (fun _ h => by cases h) ?_⟩
          have := walks_range (c := c) (lo := i) (n := (j - i).toNat)
          simpa [Function.comp_def] using this
theorem tA.mono {d : M (List EV)} {Q Q' : List V → Hp → Prop} (h : tA c d σ H Q) (w : ∀ v H', Q v H' → Q' v H') : tA c d σ H Q' := by
  obtain ⟨g, ρ, s, k⟩ := h
  refine ⟨g, ρ, s, ?_⟩
  revert k
  cases d ρ with
  | bad => exact id
  | exc x ρ1 => exact id
  | ok ev ρ1 => exact fun k v H' G r => w v H' (k v H' G r)
/-- so many arguments, whatever is wanted behind them -/
theorem tA_len {d : M (List EV)} {n : Nat} {Q : List V → Hp → Prop} (hn : ∀ ρ es ρ', d ρ = .ok es ρ' → es.length = n) (h : tA c d σ H Q) : tA c d σ H fun vs H1 => vs.length = n ∧ Q vs H1 := by
  obtain ⟨g, ρ, s, k⟩ := h
  refine ⟨g, ρ, s, ?_⟩
  cases e : d ρ with
  | bad => rw [e] at k; exact k
  | exc x ρ1 => rw [e] at k; exact k
  | ok ev ρ1 =>
    rw [e] at k
    refine fun v H' G r => ⟨?_, k v H' G r⟩
    rw [← hn ρ ev ρ1 e]
    clear k e
    revert ev
    induction v with
    | nil => intro ev r; cases ev; rfl; exact r.elim
    | cons v vs ih =>
      intro ev r
      cases ev with
      | nil => exact r.elim
      | cons e es => simp [ih es r.2]
theorem i_rng1 {p : Pos} {dl : M (List EV)} (hg : Gl X "range") (hm : X.mg "range" = none) (ha : PA X [a] (tA c dl)) (ns : isStar a = false) (hn : ∀ ρ es ρ', dl ρ = .ok es ρ' → es.length = 1) :
    PI X tg (.Call (.Name "range" p) [a] [] pos) (tI c (bnd dl rngM)) := by
  refine (pi_range1 hg hm ha (star_cons ns)).weak fun σ H Q h => ?_
  refine (tA_len hn (rng_go h)).mono fun vs H1 ⟨hl, h1⟩ => ?_
  rcases h1 with ⟨j, e, b1, b2, q⟩ | ⟨i, j, e, _⟩
  · exact ⟨j, e, b1, b2, q⟩
  · subst e; cases hl
theorem i_rng2 {p : Pos} {dl : M (List EV)} (hg : Gl X "range") (hm : X.mg "range" = none) (ha : PA X [a, b] (tA c dl)) (ns : isStar a = false) (ns2 : isStar b = false) (hn : ∀ ρ es ρ', dl ρ = .ok es ρ' → es.length = 2) :
    PI X tg (.Call (.Name "range" p) [a, b] [] pos) (tI c (bnd dl rngM)) := by
  refine (pi_range2 hg hm ha (by rw [star_cons ns, star_cons ns2]; rfl) (star_cons ns2)).weak fun σ H Q h => ?_
  refine (tA_len hn (rng_go h)).mono fun vs H1 ⟨hl, h1⟩ => ?_
  rcases h1 with ⟨j, e, _⟩ | ⟨i, j, e, b, q⟩
  · subst e; cases hl
  · exact ⟨i, j, e, b, q⟩

/-! ### enumerate, zip -/
theorem walks_enum {a : Addr} {ev : EV} {ds : List PyData} (hK : X.K = c.K) : Walks c (Ite X.K a) ((List.range ds.length).zipWith (fun k d => .tuple [.int (k : Nat), d]) ds) [(.ref a, ev, .list ds)] := by
  intro g σ H ρ s hL i
  obtain ⟨a', vs, e, h1, h2⟩ := (hL _ (List.mem_singleton.mpr rfl)).list s
  cases e
  have hq := h1.sq
  rw [← hK] at hq
  have hl := h2.length
  refine ⟨fun h => ⟨vs, hq, by simp at h; omega⟩, fun d hd => ?_⟩
  rw [List.getElem?_zipWith] at hd
  cases e1 : (List.range ds.length)[i]? with
  | none => rw [e1] at hd; cases hd
  | some k =>
    have hi : i < ds.length := by have := get_lt e1; simpa using this
    have hk : k = i := by
      rw [List.getElem?_range hi] at e1
      exact (Option.some.inj e1).symm
    subst hk
    cases e2 : ds[k]? with
    | none => rw [e1, e2] at hd; cases hd
    | some d' =>
      rw [e1, e2] at hd
      cases hd
      obtain ⟨u, hu, ru⟩ := h2.get e2
      refine ⟨⟨vs, u, hq, hu⟩, fun x H' ⟨T, y, e3, hT, e4, hy⟩ => ?_⟩
      subst e3 e4
      have := hy vs hq
      rw [hu] at this; cases this
      exact Good.tup s hT (RelL.cons rel_int (RelL.cons ru RelL.nil))
theorem walks_zip {a b : Addr} {ea eb : EV} {xs ys : List PyData} (hK : X.K = c.K) : Walks c (Itz X.K a b) (xs.zipWith (fun a b => .tuple [a, b]) ys) [(.ref a, ea, .list xs), (.ref b, eb, .list ys)] := by
  intro g σ H ρ s hL i
  obtain ⟨a', vs, e, h1, h2⟩ := (hL (.ref a, ea, .list xs) (by simp)).list s
  cases e
  obtain ⟨b', us, e, h3, h4⟩ := (hL (.ref b, eb, .list ys) (by simp)).list s
  cases e
  have hq := h1.sq
  have hq2 := h3.sq
  rw [← hK] at hq hq2
  have hl := h2.length
  have hl2 := h4.length
  refine ⟨fun h => ⟨vs, us, hq, hq2, by simp at h; omega⟩, fun d hd => ?_⟩
  rw [List.getElem?_zipWith] at hd
  cases e1 : xs[i]? with
  | none => rw [e1] at hd; cases hd
  | some d1 =>
    cases e2 : ys[i]? with
    | none => rw [e1, e2] at hd; cases hd
    | some d2 =>
      rw [e1, e2] at hd
      cases hd
      obtain ⟨u, hu, ru⟩ := h2.get e1
      obtain ⟨w, hw, rw'⟩ := h4.get e2
      refine ⟨⟨vs, us, u, w, hq, hq2, hu, hw⟩, fun x H' ⟨T, y, z, e3, hT, e4, hy, hz⟩ => ?_⟩
      subst e3 e4
      have := hy vs hq
      rw [hu] at this; cases this
      have := hz us hq2
      rw [hw] at this; cases this
      exact Good.tup s hT (RelL.cons ru (RelL.cons rw' RelL.nil))
theorem walks_enumT {a : Addr} {ev : EV} {ds : List PyData} (hK : X.K = c.K) : Walks c (IteT X.K a) ((List.range ds.length).zipWith (fun k d => .tuple [.int (k : Nat), d]) ds) [(.ref a, ev, .tuple ds)] := by
  intro g σ H ρ s hL i
  obtain ⟨a', vs, e, h1, h2⟩ := (hL _ (List.mem_singleton.mpr rfl)).tuple
  cases e
  have hq := h1.sq
  rw [← hK] at hq
  have hl := h2.length
  refine ⟨fun h => ⟨vs, hq, by simp at h; omega⟩, fun d hd => ?_⟩
  rw [List.getElem?_zipWith] at hd
  cases e1 : (List.range ds.length)[i]? with
  | none => rw [e1] at hd; cases hd
  | some k =>
    have hi : i < ds.length := by have := get_lt e1; simpa using this
    have hk : k = i := by
      rw [List.getElem?_range hi] at e1
      exact (Option.some.inj e1).symm
    subst hk
    cases e2 : ds[k]? with
    | none => rw [e1, e2] at hd; cases hd
    | some d' =>
      rw [e1, e2] at hd
      cases hd
      obtain ⟨u, hu, ru⟩ := h2.get e2
      refine ⟨⟨vs, u, hq, hu⟩, fun x H' ⟨T, y, e3, hT, e4, hy⟩ => ?_⟩
      subst e3 e4
      have := hy vs hq
      rw [hu] at this; cases this
      exact Good.tup s hT (RelL.cons rel_int (RelL.cons ru RelL.nil))
theorem walks_zipT {a b : Addr} {ea eb : EV} {xs ys : List PyData} (hK : X.K = c.K) : Walks c (RZ.ItzT X.K a b) (xs.zipWith (fun a b => .tuple [a, b]) ys) [(.ref a, ea, .tuple xs), (.ref b, eb, .tuple ys)] := by
  intro g σ H ρ s hL i
  obtain ⟨a', vs, e, h1, h2⟩ := (hL (.ref a, ea, .tuple xs) (by simp)).tuple
  cases e
  obtain ⟨b', us, e, h3, h4⟩ := (hL (.ref b, eb, .tuple ys) (by simp)).tuple
  cases e
  have hq := h1.sq
  have hq2 := h3.sq
  rw [← hK] at hq hq2
  have hl := h2.length
  have hl2 := h4.length
  refine ⟨fun h => ⟨vs, us, hq, hq2, by simp at h; omega⟩, fun d hd => ?_⟩
  rw [List.getElem?_zipWith] at hd
  cases e1 : xs[i]? with
  | none => rw [e1] at hd; cases hd
  | some d1 =>
    cases e2 : ys[i]? with
    | none => rw [e1, e2] at hd; cases hd
    | some d2 =>
      rw [e1, e2] at hd
      cases hd
      obtain ⟨u, hu, ru⟩ := h2.get e1
      obtain ⟨w, hw, rw'⟩ := h4.get e2
      refine ⟨⟨vs, us, u, w, hq, hq2, hu, hw⟩, fun x H' ⟨T, y, z, e3, hT, e4, hy, hz⟩ => ?_⟩
      subst e3 e4
      have := hy vs hq
      rw [hu] at this; cases this
      have := hz us hq2
      rw [hw] at this; cases this
      exact Good.tup s hT (RelL.cons ru (RelL.cons rw' RelL.nil))
theorem rev_at {α : Type} {l : List α} {i : Nat} {d : α} (h : l.reverse[i]? = some d) : i < l.length ∧ l[l.length - 1 - i]? = some d := by
  have hi := get_lt h
  rw [List.length_reverse] at hi
  rw [List.getElem?_reverse hi] at h
  exact ⟨hi, h⟩
theorem walks_rev {a : Addr} {ev : EV} {ds : List PyData} (hK : X.K = c.K) : Walks c (Itv X.K a ds.length) ds.reverse [(.ref a, ev, .list ds)] := by
  intro g σ H ρ s hL i
  obtain ⟨a', vs, e, h1, h2⟩ := (hL _ (List.mem_singleton.mpr rfl)).list s
  cases e
  have hq := h1.sq
  rw [← hK] at hq
  refine ⟨fun h => by simpa [Itv] using h, fun d hd => ?_⟩
  obtain ⟨hi, hd⟩ := rev_at hd
  obtain ⟨u, hu, ru⟩ := h2.get hd
  refine ⟨⟨hi, vs, u, hq, hu⟩, fun x H' ⟨e, hx⟩ => ?_⟩
  subst e
  have := hx vs hq
  rw [hu] at this; cases this
  exact Good.of_val s ru
theorem walks_revT {a : Addr} {ev : EV} {ds : List PyData} (hK : X.K = c.K) : Walks c (RT.ItvT X.K a ds.length) ds.reverse [(.ref a, ev, .tuple ds)] := by
  intro g σ H ρ s hL i
  obtain ⟨a', vs, e, h1, h2⟩ := (hL _ (List.mem_singleton.mpr rfl)).tuple
  cases e
  have hq := h1.sq
  rw [← hK] at hq
  refine ⟨fun h => by simpa [RT.ItvT] using h, fun d hd => ?_⟩
  obtain ⟨hi, hd⟩ := rev_at hd
  obtain ⟨u, hu, ru⟩ := h2.get hd
  refine ⟨⟨hi, vs, u, hq, hu⟩, fun x H' ⟨e, hx⟩ => ?_⟩
  subst e
  have := hx vs hq
  rw [hu] at this; cases this
  exact Good.of_val s ru
/-- a worth that was read, as it is locked -/
theorem lk_of {v : V} {ev : EV} {d : PyData} {ρ2 : Ev} (rf : Ref c g σ H ρ v ev) (pk : peek ρ ev = some d) (hl : lock ρ ev = some ρ2) : Lk c g σ H ρ2 (v, ev, d) := by
  cases ev with
  | fresh _ => exact (show False from rf).elim
  | val d' =>
    cases hl
    cases pk
    exact ⟨rfl, rf⟩
  | loc i =>
    simp only [lock] at hl
    have pk' : (match ρ[i]? with | some (Sl.own _ _ ds) => some (PyData.list ds) | _ => none) = some d := pk
    cases e4 : ρ[i]? with
    | none => rw [e4] at hl; cases hl
    | some sl =>
      rw [e4] at hl pk'
      cases sl with
      | no => cases hl
      | err _ => cases hl
      | val _ => cases hl
      | own p l ds' =>
        cases l
        · cases hl; cases pk'
          exact ⟨p, ds', rfl, get_set e4, rf⟩
        · cases hl
theorem i_enum {p tpos : Pos} {elts : List Expr} {kk : Nat} (hK : X.K = c.K) (hg : Gl X "enumerate") (hm : X.mg "enumerate" = none) (he : PE X e (tE c de)) (ns : isStar e = false) :
    PI X (.Tuple elts kk tpos) (.Call (.Name "enumerate" p) [e] [] pos) (tI c (bnd de enumM)) := by
  refine (pi_enumA hg hm (pa_cons he pa_nil (star_cons ns)) (star_cons ns)).weak fun σ H Q ⟨g, ρ, s, k⟩ => ?_
  refine ⟨g, ρ, s, ?_⟩
  cases e1 : de ρ with
  | bad => rw [bnd_bad e1] at k; exact k
  | exc x ρ1 => rw [bnd_exc e1] at k; exact k
  | ok ev ρ1 =>
    rw [bnd_ok e1] at k
    intro v H1 G
    unfold enumM at k
    rcases peekM_inv G.sim G.ref rfl with e2 | ⟨d, e2, pk, pr⟩
    · rw [bnd_bad e2] at k; exact k.elim
    · rw [bnd_ok e2] at k
      have hlc : ∀ i, settle ev = .loc i → ∃ v, σ[i]? = some (some v) := fun i hi => by
        have rf := G.ref
        rw [hi] at rf
        exact ⟨_, rf⟩
      cases d <;> first | exact k.elim | skip
      · rename_i ds
        have k' : KontI c g σ H ρ (.ok (settle ev, (List.range ds.length).zipWith (fun k d => .tuple [.int (k : Nat), d]) ds) ρ1) Q := k
        obtain ⟨a, vs, rfl, h1, h2⟩ := p_lst pr
        have hq := h1.sq
        rw [← hK] at hq
        refine ⟨a, vs, rfl, .inl ⟨hq, k' H1 (Ite X.K a) [(.ref a, settle ev, .list ds)] ⟨G.sim, G.step⟩ (fun ρ2 hl x hx => ?_) hlc (walks_enum hK)⟩⟩
        cases List.mem_singleton.mp hx
        exact lk_of G.ref pk hl
      · rename_i ds
        have k' : KontI c g σ H ρ (.ok (settle ev, (List.range ds.length).zipWith (fun k d => .tuple [.int (k : Nat), d]) ds) ρ1) Q := k
        obtain ⟨a, vs, rfl, h1, h2⟩ := p_tup pr
        have hq := h1.sq
        rw [← hK] at hq
        refine ⟨a, vs, rfl, .inr ⟨hq, k' H1 (IteT X.K a) [(.ref a, settle ev, .tuple ds)] ⟨G.sim, G.step⟩ (fun ρ2 hl x hx => ?_) hlc (walks_enumT hK)⟩⟩
        cases List.mem_singleton.mp hx
        exact lk_of G.ref pk hl
/-- reversed(x) walked -/
theorem i_rev {p : Pos} (hK : X.K = c.K) (hg : Gl X "reversed") (hm : X.mg "reversed" = none) (he : PE X e (tE c de)) (ns : isStar e = false) :
    PI X tg (.Call (.Name "reversed" p) [e] [] pos) (tI c (bnd de revI)) := by
  refine (RT.pi_revA hg hm he (star_cons ns)).weak fun σ H Q ⟨g, ρ, s, k⟩ => ?_
  refine ⟨g, ρ, s, ?_⟩
  cases e1 : de ρ with
  | bad => rw [bnd_bad e1] at k; exact k
  | exc x ρ1 => rw [bnd_exc e1] at k; exact k
  | ok ev ρ1 =>
    rw [bnd_ok e1] at k
    intro v H1 G
    unfold revI at k
    rcases peekM_inv G.sim G.ref rfl with e2 | ⟨d, e2, pk, pr⟩
    · rw [bnd_bad e2] at k; exact k.elim
    · rw [bnd_ok e2] at k
      have hlc : ∀ i, settle ev = .loc i → ∃ v, σ[i]? = some (some v) := fun i hi => by
        have rf := G.ref
        rw [hi] at rf
        exact ⟨_, rf⟩
      cases d <;> first | exact k.elim | skip
      · rename_i ds
        have k' : KontI c g σ H ρ (.ok (settle ev, ds.reverse) ρ1) Q := k
        obtain ⟨a, vs, rfl, h1, h2⟩ := p_lst pr
        have hq := h1.sq
        rw [← hK] at hq
        refine ⟨a, vs, rfl, .inl ⟨hq, ?_⟩⟩
        rw [h2.length]
        refine k' H1 (Itv X.K a ds.length) [(.ref a, settle ev, .list ds)] ⟨G.sim, G.step⟩ (fun ρ2 hl x hx => ?_) hlc (walks_rev hK)
        cases List.mem_singleton.mp hx
        exact lk_of G.ref pk hl
      · rename_i ds
        have k' : KontI c g σ H ρ (.ok (settle ev, ds.reverse) ρ1) Q := k
        obtain ⟨a, vs, rfl, h1, h2⟩ := p_tup pr
        have hq := h1.sq
        rw [← hK] at hq
        refine ⟨a, vs, rfl, .inr ⟨hq, ?_⟩⟩
        rw [h2.length]
        refine k' H1 (RT.ItvT X.K a ds.length) [(.ref a, settle ev, .tuple ds)] ⟨G.sim, G.step⟩ (fun ρ2 hl x hx => ?_) hlc (walks_revT hK)
        cases List.mem_singleton.mp hx
        exact lk_of G.ref pk hl
theorem i_zip {p tpos : Pos} {elts : List Expr} {kk : Nat} (hK : X.K = c.K) (hg : Gl X "zip") (hm : X.mg "zip" = none) (ha : PE X a (tE c da)) (hb : PE X b (tE c db)) (ns : isStar a = false) (ns2 : isStar b = false) :
    PI X (.Tuple elts kk tpos) (.Call (.Name "zip" p) [a, b] [] pos) (tI c (bnd da fun x => bnd db fun y => zipM x y)) := by
  refine (RZ.pi_zipA hg hm (pa_cons ha (pa_cons hb pa_nil (star_cons ns2)) (star_cons ns)) (star_cons ns) (by rw [star_cons ns2]; rfl)).weak fun σ H Q ⟨g, ρ, s, k⟩ => ?_
  refine ⟨g, ρ, s, ?_⟩
  cases e1 : da ρ with
  | bad => rw [bnd_bad e1] at k; exact k
  | exc x ρ1 => rw [bnd_exc e1] at k; exact k
  | ok ev ρ1 =>
    rw [bnd_ok e1] at k
    intro v H1 G1
    refine ⟨g, ρ1, G1.sim, ?_⟩
    cases e2 : db ρ1 with
    | bad => rw [bnd_bad e2] at k; exact k
    | exc x ρ2 => rw [bnd_exc e2] at k; exact fun H' G => k H' (G.trans G1.step)
    | ok ew ρ2 =>
      rw [bnd_ok e2] at k
      intro w H2 G2
      unfold zipM at k
      have r1 := G1.ref.step G2.step
      have e0 : ∀ ev : EV, settle (settle ev) = settle ev := fun ev => by cases ev <;> rfl
      rcases coe_inv (ev := settle ev) G2.sim (by rw [e0]; exact r1) rfl with e3 | ⟨dx, ρ3, e3, G3⟩
      · rw [bnd_bad e3] at k; exact k.elim
      · rw [bnd_ok e3] at k
        have r2 := G2.ref.step G3.step
        rcases coe_inv (ev := settle ew) G3.sim (by rw [e0]; exact r2) rfl with e4 | ⟨dy, ρ4, e4, G4⟩
        · rw [bnd_bad e4] at k; exact k.elim
        · rw [bnd_ok e4] at k
          have rx := Rel.ext G4.stp.ext G3.res.2
          have ry := G4.res.2
          have st := ((G1.step.trans G2.step).trans G3.step).trans G4.step
          cases dx <;> first | exact k.elim | skip
          · rename_i xs
            cases dy <;> first | exact k.elim | skip
            rename_i ys
            have k' : KontI c g σ H ρ (.ok (.val .none, xs.zipWith (fun a b => .tuple [a, b]) ys) ρ4) Q := k
            obtain ⟨a1, vs, rfl, h1, h2⟩ := p_lst rx.p
            obtain ⟨b1, us, rfl, h3, h4⟩ := p_lst ry.p
            have hq := h1.sq
            have hq2 := h3.sq
            rw [← hK] at hq hq2
            refine ⟨a1, b1, vs, us, rfl, .inl ⟨hq, hq2, k' H2 (Itz X.K a1 b1) [(.ref a1, .val (.list xs), .list xs), (.ref b1, .val (.list ys), .list ys)] ⟨G4.sim, st⟩ (fun ρ2 hl x hx => ?_) (fun i hi => by cases hi) (walks_zip hK)⟩⟩
            cases hl
            rcases List.mem_cons.mp hx with rfl | hx
            · exact ⟨rfl, rx⟩
            · cases List.mem_singleton.mp hx
              exact ⟨rfl, ry⟩
          · rename_i xs
            cases dy <;> first | exact k.elim | skip
            rename_i ys
            have k' : KontI c g σ H ρ (.ok (.val .none, xs.zipWith (fun a b => .tuple [a, b]) ys) ρ4) Q := k
            obtain ⟨a1, vs, rfl, h1, h2⟩ := p_tup rx.p
            obtain ⟨b1, us, rfl, h3, h4⟩ := p_tup ry.p
            have hq := h1.sq
            have hq2 := h3.sq
            rw [← hK] at hq hq2
            refine ⟨a1, b1, vs, us, rfl, .inr ⟨hq, hq2, k' H2 (RZ.ItzT X.K a1 b1) [(.ref a1, .val (.tuple xs), .tuple xs), (.ref b1, .val (.tuple ys), .tuple ys)] ⟨G4.sim, st⟩ (fun ρ2 hl x hx => ?_) (fun i hi => by cases hi) (walks_zipT hK)⟩⟩
            cases hl
            rcases List.mem_cons.mp hx with rfl | hx
            · exact ⟨rfl, rx⟩
            · cases List.mem_singleton.mp hx
              exact ⟨rfl, ry⟩
end
end Den
set_option autoImplicit false
set_option maxRecDepth 100000
set_option maxHeartbeats 4000000
/-! Den, part L1: list(range(..)), tuple(range(..)). -/
namespace Den
open PySem PySem.Spec PyProof.Rows L2 GxR
section
variable {X : Cx} {c : Ct} {σ : L2.St} {H : Hp} {a b : Expr} {l : List Expr} {p p2 pos pos2 : Pos} {dl : M (List EV)}
def tRgA (ta : TA) : L2.St → Hp → (Int → Int → Hp → Prop) → Prop := fun σ H Q => ta σ H fun vs H1 => (∃ n : Int, vs = [.int n] ∧ Q 0 n H1) ∨ ∃ i j : Int, vs = [.int i, .int j] ∧ Q i j H1
theorem prgA {ta : TA} (hg : Gl X "range") (hm : X.mg "range" = none) (ha : PA X (a :: l) ta) (ns : isStar a = false) (hp : (backTo pos (starEach l X.env)).any (·.1) = false) : PRg X (.Call (.Name "range" p) (a :: l) [] pos) (tRgA ta) := by
  intro pins s σ H Q I h
  refine Call_ (ld_blt I hg hm boot_range (PyProof.Rows.callWith_type1 (thn (ha.run pos pins s σ H _ I h) fun us s1 ⟨vs, H1, I1, r1, q1⟩ => ?_) (star_cons ns) hp))
  rcases q1 with ⟨n, rfl, q⟩ | ⟨i, j, rfl, q⟩
  · cases r1 with
    | cons r rr =>
      cases rr
      obtain ⟨t, rfl⟩ := r
      exact call_range_1 ⟨_, 0, n, _, _, _, H1, rfl, IsRange.new _ _ _ _ _ _ _, I1.kept fun b u e => Heap.get?_push_of_some _ e, q⟩
  · cases r1 with
    | cons r rr =>
      cases rr with
      | cons r' rr =>
        cases rr
        obtain ⟨t, rfl⟩ := r
        obtain ⟨t', rfl⟩ := r'
        exact call_range_2 ⟨_, i, j, _, _, _, H1, rfl, IsRange.new _ _ _ _ _ _ _, I1.kept fun b u e => Heap.get?_push_of_some _ e, q⟩
theorem rg_rel {T : Addr → Prop} {K : Fg} {i j : Int} : RelL K T H (rgV i j) (((List.range (j - i).toNat).map fun (k : Nat) => i + (k : Int)).map .int) := by
  have e : rgV i j = ((List.range (j - i).toNat).map fun (k : Nat) => i + (k : Int)).map V.int := by
    unfold rgV; rw [List.map_map]; rfl
  rw [e]
  exact RelL.ofInts
theorem lrg_go {d : M EV} {mk : List Int → EV} {Q' : Int → Int → Hp → Prop} {Q : VK} (hd : d = bnd dl fun vs ρ => match peeks ρ vs with
    | some ds => match rangeD ds with
      | some ns => if ns.length ≤ line then .ok (mk ns) ρ else .bad
      | none => .bad
    | none => .bad) (h : tE c d σ H Q)
    (w : ∀ g ρ H1 i j, Sim c g σ H1 ρ → RgOk i j → Kont c g σ H1 ρ (.ok (mk ((List.range (j - i).toNat).map fun (k : Nat) => i + (k : Int))) ρ) Q → Q' i j H1) : tRgA (tA c dl) σ H Q' := by
  subst hd
  obtain ⟨g, ρ, s, k⟩ := h
  refine ⟨g, ρ, s, ?_⟩
  cases e1 : dl ρ with
  | bad => rw [bnd_bad e1] at k; exact k
  | exc x ρ1 => rw [bnd_exc e1] at k; exact k
  | ok evs ρ1 =>
    rw [bnd_ok e1] at k
    intro vs H1 G r
    cases e2 : peeks ρ1 evs with
    | none => simp only [e2] at k; exact k.elim
    | some ds =>
      simp only [e2] at k
      have pr := peeks_rel G.sim r e2
      cases e3 : rangeD ds with
      | none => rw [e3] at k; exact k.elim
      | some ns =>
        rw [e3] at k
        dsimp only at k
        by_cases hz : ns.length ≤ line
        · rw [if_pos hz] at k
          have hz' : ns.length ≤ 16777216 := hz
          have k' := Kont.step G.stp k
          rcases rangeD_inv e3 pr with ⟨j, rfl, hb, rfl⟩ | ⟨i, j, rfl, hb, rfl⟩
          · obtain ⟨b1, b2⟩ := big_at hb
            have e0 : ((List.range j.toNat).map fun (k : Nat) => (k : Int)) = (List.range (j - 0).toNat).map fun (k : Nat) => 0 + (k : Int) := by simp
            rw [e0] at k'
            simp at hz'
            exact .inl ⟨j, rfl, w g ρ1 H1 0 j G.sim ⟨by decide, by decide, b1, b2, by rw [Int.sub_zero]; omega⟩ k'⟩
          · rw [Bool.and_eq_true] at hb
            obtain ⟨b1, b2⟩ := big_at hb.1
            obtain ⟨b3, b4⟩ := big_at hb.2
            simp at hz'
            exact .inr ⟨i, j, rfl, w g ρ1 H1 i j G.sim ⟨b1, b2, b3, b4, by omega⟩ k'⟩
        · rw [if_neg hz] at k; exact k.elim
theorem r_lrg (hc : X.calm = true) (hg : Gl X "list") (hm : X.mg "list" = none) (hg2 : Gl X "range") (hm2 : X.mg "range" = none) (ha : PA X (a :: l) (tA c dl)) (ns : isStar a = false) (hp : (backTo pos2 (starEach l X.env)).any (·.1) = false) :
    PE X (.Call (.Name "list" p) [.Call (.Name "range" p2) (a :: l) [] pos2] [] pos) (tE c (bnd dl lrgM)) := by
  refine (pe_listRg hc hg hm (prgA hg2 hm2 ha ns hp)).weak fun σ H Q h => ?_
  refine lrg_go (mk := fun ns => .fresh (ns.map .int)) (Q := Q) rfl h fun g ρ H1 i j s ok k => ⟨ok, fun q hq => ?_⟩
  exact k _ _ (Good.lst s hq rg_rel)
theorem r_trg (hc : X.calm = true) (hg : Gl X "tuple") (hm : X.mg "tuple" = none) (hg2 : Gl X "range") (hm2 : X.mg "range" = none) (ha : PA X (a :: l) (tA c dl)) (ns : isStar a = false) (hp : (backTo pos2 (starEach l X.env)).any (·.1) = false) :
    PE X (.Call (.Name "tuple" p) [.Call (.Name "range" p2) (a :: l) [] pos2] [] pos) (tE c (bnd dl trgM)) := by
  refine (pe_tupRg hc hg hm (prgA hg2 hm2 ha ns hp)).weak fun σ H Q h => ?_
  refine lrg_go (mk := fun ns => .val (.tuple (ns.map .int))) (Q := Q) rfl h fun g ρ H1 i j s ok k => ⟨ok, fun q hq => ?_⟩
  exact k _ _ (Good.tup s hq rg_rel)
end
end Den
set_option autoImplicit false
set_option maxRecDepth 100000
set_option maxHeartbeats 4000000
/-! Den, part M: for. -/
namespace Den
open PySem PySem.Spec PyProof.Rows L2 GxR
section
variable {X : Cx} {c : Ct} {g : Gh} {σ σ1 σ2 σ3 : L2.St} {H H1 H2 H3 : Hp} {ρ ρ1 ρ2 ρ3 ρ' : Ev} {tg e a b iter : Expr} {pos : Pos} {da db de : M EV}
theorem own_relock {i : Nat} {p l l' : Bool} {ds : List PyData} (h : ρ[i]? = some (.own p l ds)) (x : Addr) : Own σ (ρ.set i (.own p l' ds)) x ↔ Own σ ρ x := by
  constructor
  · rintro ⟨j, q, m, fs, e1, e2⟩
    rcases set_get e1 with ⟨rfl, e⟩ | ⟨_, e⟩
    · exact ⟨i, p, l, ds, h, e2⟩
    · exact ⟨j, q, m, fs, e, e2⟩
  · rintro ⟨j, q, m, fs, e1, e2⟩
    by_cases z : i = j
    · subst z; exact ⟨i, p, l', ds, get_set h, e2⟩
    · exact ⟨j, q, m, fs, by rw [List.getElem?_set_ne z]; exact e1, e2⟩
theorem tt_relock {i : Nat} {p l l' : Bool} {ds : List PyData} (h : ρ[i]? = some (.own p l ds)) : Tt g σ (ρ.set i (.own p l' ds)) = Tt g σ ρ := by
  funext x
  apply propext
  show (g.Tc x ∨ _) ↔ (g.Tc x ∨ _)
  rw [own_relock h]
theorem Sim.relock {i : Nat} {p l l' : Bool} {ds : List PyData} (s : Sim c g σ H ρ) (h : ρ[i]? = some (.own p l ds)) : Sim c g σ H (ρ.set i (.own p l' ds)) := by
  have te := tt_relock (g := g) (σ := σ) (l' := l') h
  have back : ∀ {j : Nat} {q m : Bool} {fs : List PyData}, (ρ.set i (.own p l' ds))[j]? = some (.own q m fs) → ∃ m', ρ[j]? = some (.own q m' fs) := fun {j q m fs} e => by
    rcases set_get e with ⟨rfl, e0⟩ | ⟨_, e0⟩
    · cases e0; exact ⟨_, h⟩
    · exact ⟨_, e0⟩
  refine ⟨by rw [List.length_set]; exact s.len, fun j d e => ?_, fun j q m fs e => ?_, fun j k q m fs q' m' fs' b e e' e1 e2 => ?_, s.new, s.tcs, s.tab, s.errS (fun _ z => nomatch z)⟩
  · rw [te]
    rcases set_get e with ⟨rfl, e0⟩ | ⟨_, e0⟩
    · cases e0
    · exact s.val j d e0
  · rw [te]
    obtain ⟨m', e0⟩ := back e
    exact s.own j q m' fs e0
  · obtain ⟨n1, f1⟩ := back e
    obtain ⟨n2, f2⟩ := back e'
    exact s.inj j k _ _ _ _ _ _ b f1 f2 e1 e2
theorem Res.relock {i : Nat} {p l l' : Bool} {ds : List PyData} {v : V} {ev : EV} (r : Res c g σ H ρ v ev) (h : ρ[i]? = some (.own p l ds)) : Res c g σ H (ρ.set i (.own p l' ds)) v ev ∧ Tr g σ (ρ.set i (.own p l' ds)) v ev = Tr g σ ρ v ev := by
  have te := tt_relock (g := g) (σ := σ) (l' := l') h
  cases ev with
  | val d => exact ⟨⟨r.1.relock h, by rw [te]; exact r.2⟩, te⟩
  | loc j => exact ⟨⟨r.1.relock h, r.2⟩, te⟩
  | fresh ds' =>
    obtain ⟨a, vs, e, s, ha, hr, nt, my⟩ := r
    refine ⟨⟨a, vs, e, s.relock h, ha, by rw [tt_relock h]; exact hr, by rw [te]; exact nt, my⟩, ?_⟩
    funext x
    show (Tt g σ _ x ∨ _) = (Tt g σ _ x ∨ _)
    rw [te]
/-- locked -/
theorem lock_good {ev : EV} (s : Sim c g σ H ρ) (h : lock ρ ev = some ρ1) : GoodS c g σ H ρ σ H ρ1 ∧ ∀ i, ev = .loc i → ∃ p ds, ρ[i]? = some (.own p false ds) ∧ ρ1 = ρ.set i (.own p true ds) := by
  cases ev with
  | val d => cases h; exact ⟨GoodS.refl s, fun _ z => by cases z⟩
  | fresh d => cases h; exact ⟨GoodS.refl s, fun _ z => by cases z⟩
  | loc i =>
    simp only [lock] at h
    cases e : ρ[i]? with
    | none => rw [e] at h; cases h
    | some sl =>
      rw [e] at h
      cases sl with
      | no => cases h
      | err _ => cases h
      | val _ => cases h
      | own p l ds =>
        cases l
        · cases h
          refine ⟨⟨s.relock e, ?_, AtL.refl⟩, fun j z => by cases z; exact ⟨p, ds, e, rfl⟩⟩
          rw [tt_relock e]
          exact ⟨Ext.refl, fun _ _ _ h _ => h, fun _ h => h, fun j q fs z => by
            by_cases k : i = j
            · subst k; rw [e] at z; cases z
            · rw [List.getElem?_set_ne k]; exact z⟩
        · cases h
/-- unlocked -/
theorem unlock_good {i : Nat} {p q : Bool} {ds es : List PyData} (h0 : ρ[i]? = some (.own p false ds)) (G : GoodS c g σ H ρ σ1 H1 ρ1) (h1 : ρ1[i]? = some (.own q true es)) : GoodS c g σ H ρ σ1 H1 (ρ1.set i (.own q false es)) := by
  refine ⟨G.sim.relock h1, ?_, G.at_⟩
  rw [tt_relock h1]
  exact ⟨G.stp.ext, G.stp.fr, G.stp.dom, fun j r fs z => by
    by_cases k : i = j
    · subst k; rw [h0] at z; cases z
    · rw [List.getElem?_set_ne k]; exact G.stp.lk j r fs z⟩
theorem unlock_goodR {i : Nat} {p q : Bool} {ds es : List PyData} {v : V} {ev : EV} (h0 : ρ[i]? = some (.own p false ds)) (G : GoodR c g σ H ρ σ1 v H1 ev ρ1) (h1 : ρ1[i]? = some (.own q true es)) : GoodR c g σ H ρ σ1 v H1 ev (ρ1.set i (.own q false es)) := by
  obtain ⟨r, t⟩ := Res.relock (l' := false) G.res h1
  refine ⟨r, ?_, G.at_⟩
  rw [t]
  exact ⟨G.stp.ext, G.stp.fr, G.stp.dom, fun j r fs z => by
    by_cases k : i = j
    · subst k; rw [h0] at z; cases z
    · rw [List.getElem?_set_ne k]; exact G.stp.lk j r fs z⟩
theorem Lk.step {x : V × EV × PyData} (h : Lk c g σ H ρ x) (G : GoodS c g σ H ρ σ1 H1 ρ1) : Lk c g σ1 H1 ρ1 x := by
  obtain ⟨v, ev, d⟩ := x
  cases ev with
  | fresh _ => exact h
  | val d' => exact ⟨h.1, Rel.ext G.stp.ext h.2⟩
  | loc i =>
    obtain ⟨p, ds, e, h1, h2⟩ := h
    exact ⟨p, ds, e, G.stp.lk i p ds h1, by rw [G.at_ i p ds h1]; exact h2⟩

/-! ### targets -/
def gTg (K : Fg) : Tg → TG
  | .nm i => gName i
  | .tp is => gSeq K is
  | .np ts => gSeqN K ts
inductive TgM (X : Cx) : Expr → Tg → Prop
  | nm {x : Str} {p : Pos} {i : Nat} (hi : X.N[i]? = some x) (hx : L2.Loc X.env.scope x) (hf : X.fn x = true ∨ X.env.scope.names.lookup x = some .local) : TgM X (.Name x p) (.nm i)
  | tp {ts : List Expr} {is : List Nat} {k : Nat} {p : Pos} (h : NmL X ts is) : TgM X (.Tuple ts k p) (.tp is)
  | np {ts : List Expr} {is : List (Nat ⊕ List Nat)} {k : Nat} {p : Pos} (hc : X.calm = true) (h : NpL X ts is) : TgM X (.Tuple ts k p) (.np is)
theorem TgM.pg {t : Tg} (hc : X.calm = true) (hN : X.N.Nodup) (h : TgM X tg t) : PG X tg (gTg X.K t) := by
  cases h with
  | nm hi hx hf => exact pg_name hN hi hx hf
  | tp h => exact pg_seq hc hN h
  | np _ h => exact pg_seqN hc hN h
theorem tg_store {t : Tg} {v : V} {d : PyData} {Q : L2.St → Hp → Prop} (s : Sim c g σ H ρ) (r : Rel c.K (Tt g σ ρ) H v d) (h : asgD ρ t d = some ρ1) (q : ∀ xs, GoodS c g σ H ρ (setS σ t.vars xs) H ρ1 → Q (setS σ t.vars xs) H) : gTg c.K t v σ H Q := by
  cases t with
  | nm i => exact q [v] (setN_good (is := [i]) s (RelL.cons r RelL.nil) h)
  | tp is =>
    have hd : ∃ ds, (d = .tuple ds ∨ d = .list ds) ∧ setN ρ is ds = some ρ1 := by
      cases d with
      | tuple ds => exact ⟨ds, .inl rfl, h⟩
      | list ds => exact ⟨ds, .inr rfl, h⟩
      | none => cases h
      | bool _ => cases h
      | int _ => cases h
      | str _ => cases h
      | dict _ => cases h
    obtain ⟨ds, hd, h'⟩ := hd
    obtain ⟨a, xs, e3, hq, hr⟩ := seq_of r.p hd
    exact ⟨a, xs, e3, hq, by rw [hr.length]; exact setN_len h', q xs (setN_good s hr h')⟩
  | np is =>
    have hd : ∃ ds, (d = .tuple ds ∨ d = .list ds) ∧ setNN ρ is ds = some ρ1 := by
      cases d with
      | tuple ds => exact ⟨ds, .inl rfl, h⟩
      | list ds => exact ⟨ds, .inr rfl, h⟩
      | none => cases h
      | bool _ => cases h
      | int _ => cases h
      | str _ => cases h
      | dict _ => cases h
    obtain ⟨ds, hd, h'⟩ := hd
    obtain ⟨a, xs, e3, hq, hr⟩ := seq_of r.p hd
    exact ⟨a, xs, e3, hq, by rw [hr.length]; exact setNN_len h', nn_store s hr h' fun xs _ G => q xs G⟩
/-- for target in iter: body -/
theorem s_for {t : Tg} {body : List Stmt} {f : Ev → SR} {di : M (EV × List PyData)} (hK : X.K = c.K) (hp : PassesOwn (model X.prog X.w) X.A X.env X.xe) (hc : X.calm = true) (hN : X.N.Nodup) (hi : PI X tg iter (tI c di)) (ht : TgM X tg t) (hb : PSs X body (tS c f))
    (hs : ∀ x, foldedSetIterable iter X.env x = pure x) : PS X (.For tg iter body [] pos) (tS c (sE di fun p ρ => match lock ρ p.1 with | none => .bad | some ρ1 => finR p.1 (forL t f p.2 ρ1))) := by
  refine (ps_for hp hc hi (ht.pg hc hN) hb hs).weak fun D σ H ⟨g, ρ, s, k⟩ => ?_
  refine ⟨g, ρ, s, ?_⟩
  cases e1 : di ρ with
  | bad => rw [sE_bad e1] at k; exact k
  | exc x ρ1 => rw [sE_exc e1] at k; exact fun H' G => k σ H' G.s
  | ok p ρ1 =>
    rw [sE_ok e1] at k
    intro H1 J L G0 hL0 hloc hW
    have k1 := KontS.step G0.s k
    cases e2 : lock ρ1 p.1 with
    | none => rw [e2] at k1; exact k1.elim
    | some ρ2 =>
      rw [e2] at k1
      dsimp only at k1
      obtain ⟨GL, hlk⟩ := lock_good G0.sim e2
      have hL := hL0 ρ2 e2
      -- behind the loop
      have fin : ∀ {σ' : L2.St} {H' : Hp} {ρ' : Ev} {f : Ev → SR}, GoodS c g σ H1 ρ1 σ' H' ρ' → KontS c g σ H1 ρ1 (unlockR p.1 f ρ') D → ∃ ρ4, GoodS c g σ H1 ρ1 σ' H' ρ4 ∧ KontS c g σ H1 ρ1 (f ρ4) D := by
        intro σ' H' ρ' f G k
        unfold unlockR at k
        cases ev : p.1 with
        | val d => rw [ev] at k; exact ⟨ρ', G, k⟩
        | fresh d => rw [ev] at k; exact ⟨ρ', G, k⟩
        | loc i =>
          rw [ev] at k
          dsimp only at k
          obtain ⟨q, ds, h0, _⟩ := hlk i ev
          cases e3 : ρ'[i]? with
          | none => rw [e3] at k; exact k.elim
          | some sl =>
            rw [e3] at k
            cases sl with
            | no => exact k.elim
            | err _ => exact k.elim
            | val _ => exact k.elim
            | own q l es =>
              cases l
              · exact k.elim
              · exact ⟨_, unlock_good h0 G e3, k⟩
      have finR' : ∀ {σ' : L2.St} {H' : Hp} {ρ' : Ev} {w : V} {ev : EV}, GoodR c g σ H1 ρ1 σ' w H' ev ρ' → KontS c g σ H1 ρ1 (unlockR p.1 (.rt ev) ρ') D → D.rt w H' := by
        intro σ' H' ρ' w ew G k
        unfold unlockR at k
        cases ev : p.1 with
        | val d => rw [ev] at k; exact k σ' w H' G
        | fresh d => rw [ev] at k; exact k σ' w H' G
        | loc i =>
          rw [ev] at k
          dsimp only at k
          obtain ⟨q, ds, h0, _⟩ := hlk i ev
          cases e3 : ρ'[i]? with
          | none => rw [e3] at k; exact k.elim
          | some sl =>
            rw [e3] at k
            cases sl with
            | no => exact k.elim
            | err _ => exact k.elim
            | val _ => exact k.elim
            | own q l es =>
              cases l
              · exact k.elim
              · exact k σ' w H' (unlock_goodR h0 G e3)
      refine ⟨fun i m σ' H' => m = p.2.length - i ∧ i ≤ p.2.length ∧ ∃ ρ', GoodS c g σ H1 ρ1 σ' H' ρ' ∧ (∀ x ∈ L, Lk c g σ' H' ρ' x) ∧ KontS c g σ H1 ρ1 (finR p.1 (forL t f (p.2.drop i) ρ')) D,
        ⟨p.2.length, by simp, Nat.zero_le _, ρ2, GL, hL, by simpa using k1⟩, ?_⟩
      rintro i m σ' H' ⟨rfl, hi, ρ', G, hL', k2⟩
      obtain ⟨w1, w2⟩ := hW g σ' H' ρ' G.sim hL' i
      by_cases hlt : i < p.2.length
      · obtain ⟨go, yld⟩ := w2 p.2[i] (List.getElem?_eq_getElem hlt)
        refine .inr ⟨go, fun σ'' H'' => ∃ ρ', GoodS c g σ H1 ρ1 σ'' H'' ρ' ∧ (∀ x ∈ L, Lk c g σ'' H'' ρ' x) ∧ KontS c g σ H1 ρ1 (finR p.1 (forL t f (p.2.drop (i + 1)) ρ')) D, fun σ'' H'' z => ⟨p.2.length - (i + 1), by omega, rfl, hlt, z⟩, fun x H'' y => ?_⟩
        have G2 := yld x H'' y
        rw [List.drop_eq_getElem_cons hlt] at k2
        unfold forL at k2
        cases e3 : asgD ρ' t p.2[i] with
        | none => rw [e3] at k2; exact k2.elim
        | some ρa =>
          rw [e3] at k2
          dsimp only at k2
          rw [hK]
          refine tg_store G2.sim G2.res.2 e3 fun xs G3 => ?_
          have G4 : GoodS c g σ' H' ρ' _ H'' ρa := G2.s.trans G3
          have G5 := G.trans G4
          refine ⟨g, ρa, G3.sim, ?_⟩
          cases e4 : f ρa with
          | nx ρb => rw [e4] at k2; exact fun σ3 H3 G6 => ⟨ρb, G5.trans G6, fun x hx => ((hL' x hx).step G4).step G6, k2⟩
          | ct ρb => rw [e4] at k2; exact fun σ3 H3 G6 => ⟨ρb, G5.trans G6, fun x hx => ((hL' x hx).step G4).step G6, k2⟩
          | bk ρb =>
            rw [e4] at k2
            intro σ3 H3 G6
            obtain ⟨ρ4, z1, z2⟩ := fin (G5.trans G6) k2
            exact z2 σ3 H3 z1
          | rt v ρb =>
            rw [e4] at k2
            exact fun σ3 v H3 G6 => finR' (G5.transR G6) k2
          | ex x ρb =>
            rw [e4] at k2
            intro σ3 H3 G6
            obtain ⟨ρ4, z1, z2⟩ := fin (G5.trans G6) k2
            exact z2 σ3 H3 z1
          | bad => rw [e4] at k2; exact k2
      · refine .inl ⟨w1 (by omega), ?_⟩
        have hd : p.2.drop i = [] := List.drop_eq_nil_of_le (by omega)
        rw [hd] at k2
        obtain ⟨ρ4, z1, z2⟩ := fin (f := .nx) G k2
        exact z2 σ' H' z1
end
end Den
set_option autoImplicit false
set_option maxRecDepth 100000
set_option maxHeartbeats 4000000
/-! Den, part N: list comprehensions. -/
namespace Den
open PySem PySem.Spec PyProof.Rows L2 GxR
/-- nothing may be raised -/
def Ct.nox (c : Ct) : Ct := { c with W := fun _ _ _ _ => False }
section
variable {X : Cx} {c : Ct} {g : Gh} {σ σ1 σ2 σ3 : L2.St} {H H1 H2 H3 : Hp} {ρ ρ1 ρ2 ρ3 ρ' : Ev} {tg e a b iter : Expr} {pos : Pos} {da db de : M EV} {T T' : Addr → Prop}
theorem Sim.nox (s : Sim c g σ H ρ) : Sim c.nox g σ H ρ := ⟨s.len, s.val, s.own, s.inj, s.new, s.tcs, s.tab, s.err⟩
theorem Sim.yox (s : Sim c.nox g σ H ρ) : Sim c g σ H ρ := ⟨s.len, s.val, s.own, s.inj, s.new, s.tcs, s.tab, s.err⟩
theorem Stp.yox (s : Stp c.nox g σ H ρ T H1 ρ1) : Stp c g σ H ρ T H1 ρ1 := ⟨s.ext, s.fr, s.dom, s.lk⟩
theorem Res.yox {v : V} {ev : EV} (r : Res c.nox g σ H ρ v ev) : Res c g σ H ρ v ev := by
  cases ev with
  | val d => exact ⟨r.1.yox, r.2⟩
  | loc i => exact ⟨r.1.yox, r.2⟩
  | fresh ds =>
    obtain ⟨a, vs, e, s, ha, hr, nt, my⟩ := r
    exact ⟨a, vs, e, s.yox, ha, hr, nt, my⟩
theorem Good.yox {v : V} {ev : EV} (G : Good c.nox g σ H ρ v H1 ev ρ1) : Good c g σ H ρ v H1 ev ρ1 := ⟨G.res.yox, G.stp.yox⟩
theorem GoodX.yox (G : GoodX c.nox g σ H ρ H1 ρ1) : GoodX c g σ H ρ H1 ρ1 := ⟨G.sim.yox, G.stp.yox⟩

/-! ### slots of a block -/
theorem wipes_len (ρ : Ev) : ∀ vs : List Nat, (wipes ρ vs).length = ρ.length
  | [] => rfl
  | i :: is => by show ((wipes ρ is).set i .no).length = _; rw [List.length_set, wipes_len ρ is]
theorem wipes_out {j : Nat} : ∀ {vs : List Nat}, j ∉ vs → (wipes ρ vs)[j]? = ρ[j]?
  | [], _ => rfl
  | i :: is, h => by
    show ((wipes ρ is).set i .no)[j]? = _
    rw [List.getElem?_set_ne (fun z => h (by rw [z]; exact List.mem_cons_self)), wipes_out (fun z => h (List.mem_cons_of_mem _ z))]
theorem wipes_in {j : Nat} {sl : Sl} : ∀ {vs : List Nat}, j ∈ vs → (wipes ρ vs)[j]? = some sl → sl = .no
  | [], h, _ => by cases h
  | i :: is, h, e => by
    have e' : ((wipes ρ is).set i .no)[j]? = some sl := e
    rcases set_get e' with ⟨_, q⟩ | ⟨ne, q⟩
    · exact q
    · exact wipes_in ((List.mem_cons.mp h).resolve_left fun z => ne z.symm) q
theorem wipes_get {j : Nat} {vs : List Nat} {sl : Sl} (h : (wipes ρ vs)[j]? = some sl) (n : sl ≠ .no) : j ∉ vs ∧ ρ[j]? = some sl := by
  by_cases hj : j ∈ vs
  · exact absurd (wipes_in hj h) n
  · exact ⟨hj, by rw [← wipes_out hj]; exact h⟩
theorem wipes_wipes {vs : List Nat} : wipes (wipes ρ vs) vs = wipes ρ vs := by
  apply List.ext_getElem?
  intro j
  by_cases hj : j ∈ vs
  · cases e1 : (wipes (wipes ρ vs) vs)[j]? with
    | none =>
      cases e2 : (wipes ρ vs)[j]? with
      | none => rfl
      | some s2 =>
        have h1 := get_lt e2
        have h2 := List.getElem?_eq_none_iff.mp e1
        rw [wipes_len] at h2
        omega
    | some s1 =>
      cases e2 : (wipes ρ vs)[j]? with
      | none =>
        have h1 := get_lt e1
        have h2 := List.getElem?_eq_none_iff.mp e2
        rw [wipes_len] at h1
        omega
      | some s2 => rw [wipes_in hj e1, wipes_in hj e2]
  · rw [wipes_out hj]
theorem restore_len {ρ0 : Ev} : ∀ {vs : List Nat} {ρ : Ev}, (restore ρ0 ρ vs).length = ρ.length
  | [], _ => rfl
  | i :: is, ρ => by show (restore ρ0 (ρ.set i _) is).length = _; rw [restore_len, List.length_set]
theorem restore_out {ρ0 : Ev} {j : Nat} : ∀ {vs : List Nat} {ρ : Ev}, j ∉ vs → (restore ρ0 ρ vs)[j]? = ρ[j]?
  | [], _, _ => rfl
  | i :: is, ρ, h => by
    show (restore ρ0 (ρ.set i _) is)[j]? = _
    rw [restore_out (fun z => h (List.mem_cons_of_mem _ z)), List.getElem?_set_ne (fun z => h (by rw [z]; exact List.mem_cons_self))]
theorem restore_in {ρ0 : Ev} {j : Nat} : ∀ {vs : List Nat} {ρ : Ev}, j ∈ vs → j < ρ.length → (restore ρ0 ρ vs)[j]? = some (ρ0.getD j .no)
  | [], _, h, _ => by cases h
  | i :: is, ρ, h, hl => by
    show (restore ρ0 (ρ.set i _) is)[j]? = _
    by_cases hj : j ∈ is
    · exact restore_in hj (by rw [List.length_set]; exact hl)
    · have e : j = i := (List.mem_cons.mp h).resolve_right hj
      subst e
      rw [restore_out hj]
      simp [hl]
theorem wipe_in {j : Nat} {v : Option V} : ∀ {vs : List Nat}, j ∈ vs → (wipe σ vs)[j]? = some v → v = none
  | [], h, _ => by cases h
  | i :: is, h, e => by
    have e' : ((wipe σ is).set i none)[j]? = some v := e
    rcases set_get e' with ⟨_, q⟩ | ⟨ne, q⟩
    · exact q
    · exact wipe_in ((List.mem_cons.mp h).resolve_left fun z => ne z.symm) q
theorem setS_len : ∀ {vs : List Nat} {xs : List V} {σ : L2.St}, (setS σ vs xs).length = σ.length
  | i :: is, x :: xs, σ => by show (setS (σ.set i _) is xs).length = _; rw [setS_len, List.length_set]
  | [], [], _ => rfl
  | [], _ :: _, _ => rfl
  | _ :: _, [], _ => rfl
theorem setS_out {j : Nat} : ∀ {vs : List Nat} {xs : List V} {σ : L2.St}, j ∉ vs → (setS σ vs xs)[j]? = σ[j]?
  | i :: is, x :: xs, σ, h => by
    show (setS (σ.set i _) is xs)[j]? = _
    rw [setS_out (fun z => h (List.mem_cons_of_mem _ z)), List.getElem?_set_ne (fun z => h (by rw [z]; exact List.mem_cons_self))]
  | [], [], _, _ => rfl
  | [], _ :: _, _, _ => rfl
  | _ :: _, [], _, _ => rfl
theorem wipe_setS {vs : List Nat} {xs : List V} : wipe (setS σ vs xs) vs = wipe σ vs := by
  apply List.ext_getElem?
  intro j
  by_cases hj : j ∈ vs
  · cases e1 : (wipe (setS σ vs xs) vs)[j]? with
    | none =>
      cases e2 : (wipe σ vs)[j]? with
      | none => rfl
      | some s2 =>
        have h1 := get_lt e2
        have h2 := List.getElem?_eq_none_iff.mp e1
        rw [wipe_length, setS_len] at h2
        rw [wipe_length] at h1
        omega
    | some s1 =>
      cases e2 : (wipe σ vs)[j]? with
      | none =>
        have h1 := get_lt e1
        have h2 := List.getElem?_eq_none_iff.mp e2
        rw [wipe_length, setS_len] at h1
        rw [wipe_length] at h2
        omega
      | some s2 => rw [wipe_in hj e1, wipe_in hj e2]
  · rw [wipe_out hj, wipe_out hj, setS_out hj]
theorem wipe_wipe {vs : List Nat} : wipe (wipe σ vs) vs = wipe σ vs := by
  apply List.ext_getElem?
  intro j
  by_cases hj : j ∈ vs
  · cases e1 : (wipe (wipe σ vs) vs)[j]? with
    | none =>
      cases e2 : (wipe σ vs)[j]? with
      | none => rfl
      | some s2 =>
        have h1 := get_lt e2
        have h2 := List.getElem?_eq_none_iff.mp e1
        rw [wipe_length] at h2
        omega
    | some s1 =>
      cases e2 : (wipe σ vs)[j]? with
      | none =>
        have h1 := get_lt e1
        have h2 := List.getElem?_eq_none_iff.mp e2
        rw [wipe_length] at h1
        omega
      | some s2 => rw [wipe_in hj e1, wipe_in hj e2]
  · rw [wipe_out hj]
theorem own_wipes {vs : List Nat} {a : Addr} (h : Own (wipe σ vs) (wipes ρ vs) a) : Own σ ρ a := by
  obtain ⟨i, p, l, ds, e1, e2⟩ := h
  obtain ⟨h1, h2⟩ := wipes_get e1 (fun z => by cases z)
  rw [wipe_out h1] at e2
  exact ⟨i, p, l, ds, h2, e2⟩
theorem tt_wipes {vs : List Nat} {a : Addr} (h : Tt g (wipe σ vs) (wipes ρ vs) a) : Tt g σ ρ a := h.elim .inl fun z => .inr (own_wipes z)
theorem Sim.wipes {vs : List Nat} (s : Sim c g σ H ρ) : Sim c g (wipe σ vs) H (wipes ρ vs) := by
  have x : Ext (Tt g σ ρ) H (Tt g (wipe σ vs) (Den.wipes ρ vs)) H := Ext.weak fun a z => tt_wipes z
  refine ⟨by rw [wipe_length, wipes_len]; exact s.len, fun i d e => ?_, fun i p l ds e => ?_, fun i j p l ds p' l' ds' a e e' e1 e2 => ?_, s.new, s.tcs, s.tab, fun j k e => ?_⟩
  · obtain ⟨h1, h2⟩ := wipes_get e (fun z => by cases z)
    obtain ⟨v, q1, q2⟩ := s.val i d h2
    exact ⟨v, by rw [wipe_out h1]; exact q1, q2.ext x⟩
  · obtain ⟨h1, h2⟩ := wipes_get e (fun z => by cases z)
    obtain ⟨a, us, q1, q2, q3, q4⟩ := s.own i p l ds h2
    exact ⟨a, us, by rw [wipe_out h1]; exact q1, q2, q3.ext x, q4⟩
  · obtain ⟨h1, h2⟩ := wipes_get e (fun z => by cases z)
    obtain ⟨h3, h4⟩ := wipes_get e' (fun z => by cases z)
    rw [wipe_out h1] at e1
    rw [wipe_out h3] at e2
    exact s.inj i j p l ds p' l' ds' a h2 h4 e1 e2
  · obtain ⟨h1, h2⟩ := wipes_get e (fun z => by cases z)
    obtain ⟨a, q1, q2⟩ := s.err j k h2
    exact ⟨a, q1, by rw [wipe_out h1]; exact q2⟩
theorem Lk.wipes {vs : List Nat} {x : V × EV × PyData} (h : Lk c g σ H ρ x) (hp : ∀ i ∈ vs, ∀ p l ds, ρ[i]? ≠ some (.own p l ds)) : Lk c g (wipe σ vs) H (Den.wipes ρ vs) x := by
  obtain ⟨v, ev, d⟩ := x
  cases ev with
  | fresh _ => exact h
  | val d' => exact ⟨h.1, h.2.ext (Ext.weak fun a z => tt_wipes z)⟩
  | loc i =>
    obtain ⟨p, ds, e, h1, h2⟩ := h
    have hi : i ∉ vs := fun z => hp i z p true ds h1
    exact ⟨p, ds, e, by rw [wipes_out hi]; exact h1, by rw [wipe_out hi]; exact h2⟩
theorem plainAt_no {vs : List Nat} (h : plainAt ρ vs = true) : ∀ i ∈ vs, ∃ sl, ρ[i]? = some sl ∧ ∀ p l ds, sl ≠ .own p l ds := by
  intro i hi
  unfold plainAt at h
  have := List.all_eq_true.mp h i hi
  cases e : ρ[i]? with
  | none => rw [e] at this; cases this
  | some sl =>
    rw [e] at this
    refine ⟨sl, rfl, fun p l ds z => ?_⟩
    subst z
    cases this

/-! ### turn by turn -/
structure CB (g : Gh) (σ : L2.St) (D : Addr) (Hb : Hp) (ρb : Ev) (T : Addr → Prop) (H : Hp) (ρ : Ev) : Prop where
  ext : Ext (Tt (g.hold D) σ ρb) Hb T H
  fr : ∀ a o, ¬ g.My a → Hb a = some o → (∀ ps, o ≠ .tbl ps) → H a = some o
  dom : ∀ a, Hb a ≠ none → H a ≠ none
  lk : ∀ (i : Nat) (p : Bool) (ds : List PyData), ρb[i]? = some (.own p true ds) → ρ[i]? = some (.own p true ds)
theorem CB.step {D : Addr} {Hb : Hp} {ρb : Ev} (x : CB g σ D Hb ρb (Tt (g.hold D) σ1 ρ1) H1 ρ1) (st : Stp c (g.hold D) σ1 H1 ρ1 T H2 ρ2) : CB g σ D Hb ρb T H2 ρ2 :=
  ⟨x.ext.trans st.ext, fun a o n h t => st.fr a o (fun z => n z.1) (x.fr a o n h t) t, fun a h => st.dom a (x.dom a h), fun i p ds h => st.lk i p ds (x.lk i p ds h)⟩
theorem CB.app {D : Addr} {Hb : Hp} {ρb : Ev} {us : List V} (x : CB g σ D Hb ρb T H1 ρ1) (tD : T D) (my : g.My D) : CB g σ D Hb ρb T (upd H1 D (.lst us)) ρ1 :=
  ⟨fun a o h n t => by
    obtain ⟨h1, t1⟩ := x.ext a o h n t
    exact ⟨by rw [upd_ne (fun z => t1 (by rw [z]; exact tD))]; exact h1, t1⟩, fun a o n h t => by rw [upd_ne (fun z => n (by rw [z]; exact my))]; exact x.fr a o n h t, fun a h => by
    by_cases q : a = D
    · subst q; rw [upd_same]; simp
    · rw [upd_ne q]; exact x.dom a h, x.lk⟩
theorem CB.sub {D : Addr} {Hb : Hp} {ρb : Ev} (x : CB g σ D Hb ρb T H1 ρ1) (h : ∀ a, T' a → T a) (hl : ∀ (i : Nat) (p : Bool) (ds : List PyData), ρb[i]? = some (.own p true ds) → ρ1[i]? = some (.own p true ds) → ρ2[i]? = some (.own p true ds)) : CB g σ D Hb ρb T' H1 ρ2 :=
  ⟨x.ext.trans (Ext.weak h), x.fr, x.dom, fun i p ds e => hl i p ds e (x.lk i p ds e)⟩
/-- the new list grows -/
theorem Sim.grow {D : Addr} {us ws : List V} (s : Sim c (g.hold D) σ H ρ) (hD : H D = some (.lst ws)) : Sim c (g.hold D) σ (upd H D (.lst us)) ρ := by
  have x : Ext (Tt (g.hold D) σ ρ) H (Tt (g.hold D) σ ρ) (upd H D (.lst us)) := fun a o h _ t => ⟨by rw [upd_ne (fun z => t (by rw [z]; exact .inl (.inr rfl)))]; exact h, t⟩
  refine ⟨s.len, fun i d e => ?_, fun i p l ds e => ?_, s.inj, fun a e => ?_, fun a t z => ?_, fun P t => ?_, s.err⟩
  · obtain ⟨v, h1, h2⟩ := s.val i d e
    exact ⟨v, h1, h2.ext x⟩
  · obtain ⟨a, vs, h1, h2, h3, h4, h5⟩ := s.own i p l ds e
    exact ⟨a, vs, h1, by rw [upd_ne h4.2]; exact h2, h3.ext x, h4, h5⟩
  · by_cases q : a = D
    · subst q; rw [upd_same] at e; cases e
    · rw [upd_ne q] at e; exact s.new a e
  · by_cases q : a = D
    · subst q; rw [upd_same] at z; cases z
    · rw [upd_ne q] at z; exact s.tcs a t z
  · obtain ⟨ps, e, tr⟩ := s.tab P t
    exact ⟨ps, by rw [upd_ne (fun z => by rw [z, hD] at e; cases e)]; exact e, tr⟩
theorem compL_len {vs : List Nat} {t : Tg} {tst : M Bool} {elt : M PyData} : ∀ {ds : List PyData} {ρ ρ' : Ev} {ys : List PyData}, compL vs t tst elt ds ρ = .ok ys ρ' → ys.length ≤ line
  | [], _, _, _, h => by cases h; simp
  | d :: ds, ρ, ρ', ys, h => by
    unfold compL at h
    split at h
    · cases h
    · split at h
      · split at h
        · split at h
          · split at h
            · cases h; simpa using (by assumption)
            · cases h
          · cases h
        · cases h
      · exact compL_len h
      · cases h
/-- a list that is laid and held -/
theorem Sim.lay {D : Addr} (s : Sim c g σ H ρ) (hD : H D = none) : Sim c (g.hold D) σ (upd H D (.lst [])) ρ := by
  have G := Good.lst (ds := []) s hD RelL.nil
  obtain ⟨a, vs, e, s1, ha, _, nt, _⟩ := G.res
  cases e
  exact s1.hold (ds := []) ha nt
/-- a block's slots as they were -/
theorem own_restore {vs : List Nat} {ρf : Ev} (hl : ρ1.length = ρf.length) (hp : plainAt ρ1 vs = true) (a : Addr) : Own σ (restore ρ1 ρf vs) a ↔ Own (wipe σ vs) (wipes ρf vs) a := by
  constructor
  · rintro ⟨j, p, l, ds, e1, e2⟩
    by_cases hj : j ∈ vs
    · obtain ⟨sl, h1, h2⟩ := plainAt_no hp j hj
      rw [restore_in hj (by rw [← hl]; exact get_lt h1), List.getD_eq_getElem?_getD, h1] at e1
      exact absurd (Option.some.inj e1) (h2 p l ds)
    · rw [restore_out hj] at e1
      exact ⟨j, p, l, ds, by rw [wipes_out hj]; exact e1, by rw [wipe_out hj]; exact e2⟩
  · rintro ⟨j, p, l, ds, e1, e2⟩
    obtain ⟨hj, e3⟩ := wipes_get e1 (fun z => by cases z)
    rw [wipe_out hj] at e2
    exact ⟨j, p, l, ds, by rw [restore_out hj]; exact e3, e2⟩
theorem Sim.restore {vs : List Nat} {ρf : Ev} (s : Sim c g (wipe σ vs) H (Den.wipes ρf vs)) (hl : ρ1.length = ρf.length) (hp : plainAt ρ1 vs = true)
    (hv : ∀ j ∈ vs, ∀ d, ρ1[j]? = some (.val d) → ∃ v, σ[j]? = some (some v) ∧ Rel c.K (Tt g (wipe σ vs) (Den.wipes ρf vs)) H v d)
    (hx : ∀ j ∈ vs, ∀ k, ρ1[j]? = some (.err k) → ∃ a, c.err = some (a, k) ∧ σ[j]? = some (some (.ref a))) :
    Tt g σ (Den.restore ρ1 ρf vs) = Tt g (wipe σ vs) (Den.wipes ρf vs) ∧ Sim c g σ H (Den.restore ρ1 ρf vs) := by
  have te : Tt g σ (Den.restore ρ1 ρf vs) = Tt g (wipe σ vs) (Den.wipes ρf vs) := by
    funext a
    apply propext
    show (g.Tc a ∨ _) ↔ (g.Tc a ∨ _)
    rw [own_restore hl hp]
  have own_at : ∀ {j : Nat} {p l : Bool} {ds : List PyData}, (Den.restore ρ1 ρf vs)[j]? = some (.own p l ds) → j ∉ vs ∧ ρf[j]? = some (.own p l ds) := fun {j p l ds} e1 => by
    by_cases hj : j ∈ vs
    · obtain ⟨sl, h1, h2⟩ := plainAt_no hp j hj
      rw [restore_in hj (by rw [← hl]; exact get_lt h1), List.getD_eq_getElem?_getD, h1] at e1
      exact absurd (Option.some.inj e1) (h2 p l ds)
    · rw [restore_out hj] at e1
      exact ⟨hj, e1⟩
  refine ⟨te, ⟨?_, fun j d e => ?_, fun j p l ds e => ?_, fun i j p l ds p' l' ds' a e e' e1 e2 => ?_, s.new, s.tcs, s.tab, fun j k e => ?_⟩⟩
  · have := s.len
    rw [wipe_length, wipes_len] at this
    rw [restore_len]; exact this
  · rw [te]
    by_cases hj : j ∈ vs
    · obtain ⟨sl, h1, h2⟩ := plainAt_no hp j hj
      rw [restore_in hj (by rw [← hl]; exact get_lt h1), List.getD_eq_getElem?_getD, h1] at e
      have e' : sl = .val d := Option.some.inj e
      subst e'
      exact hv j hj d h1
    · rw [restore_out hj] at e
      obtain ⟨v, q1, q2⟩ := s.val j d (by rw [wipes_out hj]; exact e)
      rw [wipe_out hj] at q1
      exact ⟨v, q1, q2⟩
  · rw [te]
    obtain ⟨hj, e1⟩ := own_at e
    obtain ⟨a, us, q1, q2⟩ := s.own j p l ds (by rw [wipes_out hj]; exact e1)
    rw [wipe_out hj] at q1
    exact ⟨a, us, q1, q2⟩
  · obtain ⟨hi, f1⟩ := own_at e
    obtain ⟨hj, f2⟩ := own_at e'
    exact s.inj i j p l ds p' l' ds' a (by rw [wipes_out hi]; exact f1) (by rw [wipes_out hj]; exact f2) (by rw [wipe_out hi]; exact e1) (by rw [wipe_out hj]; exact e2)
  · by_cases hj : j ∈ vs
    · obtain ⟨sl, h1, h2⟩ := plainAt_no hp j hj
      rw [restore_in hj (by rw [← hl]; exact get_lt h1), List.getD_eq_getElem?_getD, h1] at e
      have e' : sl = .err k := Option.some.inj e
      subst e'
      exact hx j hj k h1
    · rw [restore_out hj] at e
      obtain ⟨a, q1, q2⟩ := s.err j k (by rw [wipes_out hj]; exact e)
      rw [wipe_out hj] at q2
      exact ⟨a, q1, q2⟩
theorem Sim.unhold {D : Addr} (s : Sim c (g.hold D) σ H ρ) : Sim c (g.plus D) σ H ρ :=
  ⟨s.len, s.val, fun i p l ds e => by
    obtain ⟨a, us, h1, h2, h3, h4, h5⟩ := s.own i p l ds e
    exact ⟨a, us, h1, h2, h3, h4.1, h5⟩, s.inj, fun a e => (s.new a e).1, s.tcs, s.tab, s.err⟩
theorem lc_go {t : Tg} {dt : M Bool} {di : M (EV × List PyData)} {Q : VK} (hK : X.K = c.K) (h : tE c (bnd di (lcM t dt (bnd de coe))) σ H Q) : tLc (tI c di) (gTg X.K t) (tT c.nox dt) (tE c.nox de) t.vars σ H Q := by
  obtain ⟨g, ρ, s, k⟩ := h
  refine ⟨g, ρ, s, ?_⟩
  cases e1 : di ρ with
  | bad => rw [bnd_bad e1] at k; exact k
  | exc x ρ1 => rw [bnd_exc e1] at k; exact k
  | ok p ρ1 =>
    rw [bnd_ok e1] at k
    intro H1 J L G0 hL0 hloc hW D hD
    have k1 := Kont.step G0.stp k
    unfold lcM at k1
    by_cases hpl : plainAt ρ1 t.vars = true
    · rw [if_pos hpl] at k1
      cases e2 : lock ρ1 p.1 with
      | none => rw [e2] at k1; exact k1.elim
      | some ρb =>
        rw [e2] at k1
        dsimp only at k1
        obtain ⟨GL, hlk⟩ := lock_good G0.sim e2
        have hL := hL0 ρb e2
        have plb : ∀ i ∈ t.vars, ∀ p l ds, ρb[i]? ≠ some (.own p l ds) := by
          intro i hi p' l ds z
          obtain ⟨sl, h1, h2⟩ := plainAt_no hpl i hi
          cases ev : p.1 with
          | val d => rw [ev] at e2; cases e2; rw [h1] at z; exact h2 p' l ds (Option.some.inj z)
          | fresh d => rw [ev] at e2; cases e2; rw [h1] at z; exact h2 p' l ds (Option.some.inj z)
          | loc j =>
            obtain ⟨q, ds', h3, h4⟩ := hlk j ev
            subst h4
            rcases set_get z with ⟨hj, _⟩ | ⟨_, z⟩
            · subst hj
              rw [h1] at h3
              exact h2 _ _ _ (Option.some.inj h3)
            · rw [h1] at z; exact h2 p' l ds (Option.some.inj z)
        cases e3 : compL t.vars t dt (bnd de coe) p.2 (wipes ρb t.vars) with
        | bad => rw [e3] at k1; exact k1.elim
        | exc x ρ' => rw [e3] at k1; exact k1.elim
        | ok ys ρf =>
          rw [e3] at k1
          dsimp only at k1
          have hys := compL_len e3
          have my : g.My D := G0.sim.new D hD
          have sb : Sim c (g.hold D) σ (upd H1 D (.lst [])) ρb := GL.sim.lay hD
          have xb : Ext (Tt g σ ρb) H1 (Tt (g.hold D) σ ρb) (upd H1 D (.lst [])) := fun a o h _ n => ⟨by rw [upd_ne (ne_of_none h hD)]; exact h, fun z => z.elim (fun z => z.elim (fun z => n (.inl z)) (ne_of_none h hD)) fun z => n (.inr z)⟩
          have hLb : ∀ x ∈ L, Lk c (g.hold D) σ (upd H1 D (.lst [])) ρb x := fun x hx => by
            have := hL x hx
            obtain ⟨v, ev, d⟩ := x
            cases ev with
            | fresh _ => exact this
            | val d' => exact ⟨this.1, this.2.ext xb⟩
            | loc i => exact this
          have lk_no : ∀ (i : Nat) (p : Bool) (ds : List PyData) {ρ1 : Ev}, ρb[i]? = some (.own p true ds) → ρ1[i]? = some (.own p true ds) → (wipes ρ1 t.vars)[i]? = some (.own p true ds) := fun i p ds ρ1 h1 h2 => by
            rw [wipes_out (fun z => plb i z p true ds h1)]
            exact h2
          have cb0 : CB g σ D (upd H1 D (.lst [])) ρb (Tt (g.hold D) (wipe σ t.vars) (wipes ρb t.vars)) (upd H1 D (.lst [])) (wipes ρb t.vars) :=
            CB.sub (T := Tt (g.hold D) σ ρb) (ρ1 := ρb) ⟨Ext.refl, fun _ _ _ h _ => h, fun _ h => h, fun _ _ _ h => h⟩ (fun a z => tt_wipes z) fun i p ds h1 h2 => lk_no i p ds h1 h2
          refine ⟨fun i m H' => m = p.2.length - i ∧ i ≤ p.2.length ∧ ∃ ρ' acc zs rest, Sim c (g.hold D) (wipe σ t.vars) H' (wipes ρ' t.vars) ∧ CB g σ D (upd H1 D (.lst [])) ρb (Tt (g.hold D) (wipe σ t.vars) (wipes ρ' t.vars)) H' (wipes ρ' t.vars) ∧
              H' D = some (.lst acc) ∧ RelL c.K (Tt (g.hold D) (wipe σ t.vars) (wipes ρ' t.vars)) H' acc zs ∧ (∀ x ∈ L, Lk c (g.hold D) (wipe σ t.vars) H' (wipes ρ' t.vars) x) ∧
              compL t.vars t dt (bnd de coe) (p.2.drop i) ρ' = .ok rest ρf ∧ zs ++ rest = ys,
            ⟨p.2.length, by simp, Nat.zero_le _, wipes ρb t.vars, [], [], ys, ?_⟩, ?_⟩
          · rw [wipes_wipes]
            exact ⟨sb.wipes, cb0, upd_same, RelL.nil, fun x hx => (hLb x hx).wipes plb, by simpa using e3, rfl⟩
          rintro i m H' ⟨rfl, hi, ρ', acc, zs, rest, s1, cb, hacc, hr, hL', e4, hz⟩
          obtain ⟨w1, w2⟩ := hW _ _ H' _ s1 hL' i
          by_cases hlt : i < p.2.length
          · obtain ⟨go, yld⟩ := w2 p.2[i] (List.getElem?_eq_getElem hlt)
            have tD : ∀ {σ' : L2.St} {ρ' : Ev}, Tt (g.hold D) σ' ρ' D := fun {_ _} => .inl (.inr rfl)
            refine .inr ⟨go, fun H' => ∃ ρ' acc zs rest, Sim c (g.hold D) (wipe σ t.vars) H' (wipes ρ' t.vars) ∧ CB g σ D (upd H1 D (.lst [])) ρb (Tt (g.hold D) (wipe σ t.vars) (wipes ρ' t.vars)) H' (wipes ρ' t.vars) ∧
              H' D = some (.lst acc) ∧ RelL c.K (Tt (g.hold D) (wipe σ t.vars) (wipes ρ' t.vars)) H' acc zs ∧ (∀ x ∈ L, Lk c (g.hold D) (wipe σ t.vars) H' (wipes ρ' t.vars) x) ∧
              compL t.vars t dt (bnd de coe) (p.2.drop (i + 1)) ρ' = .ok rest ρf ∧ zs ++ rest = ys, fun H' z => ⟨p.2.length - (i + 1), by omega, rfl, hlt, z⟩, fun x H2 y => ?_⟩
            have G1 := yld x H2 y
            rw [List.drop_eq_getElem_cons hlt] at e4
            unfold compL at e4
            cases e5 : asgD (wipes ρ' t.vars) t p.2[i] with
            | none => rw [e5] at e4; cases e4
            | some ρa =>
              rw [e5] at e4
              dsimp only at e4
              rw [hK]
              refine tg_store G1.sim G1.res.2 e5 fun xs G2 => ?_
              have hws : wipe (setS (wipe σ t.vars) t.vars xs) t.vars = wipe σ t.vars := by rw [wipe_setS, wipe_wipe]
              refine ⟨hws, ?_⟩
              refine ⟨g.hold D, ρa, G2.sim.nox, ?_⟩
              have cb2 : CB g σ D (upd H1 D (.lst [])) ρb (Tt (g.hold D) (setS (wipe σ t.vars) t.vars xs) ρa) H2 ρa := (cb.step G1.step).step G2.stp
              have hD2 : H2 D = some (.lst acc) := G1.step.fr D _ (fun z => z.2 rfl) hacc (fun _ z => by cases z)
              have hr2 : RelL c.K (Tt (g.hold D) (setS (wipe σ t.vars) t.vars xs) ρa) H2 acc zs := (hr.ext G1.step.ext).ext G2.stp.ext
              have hL2 : ∀ x ∈ L, Lk c (g.hold D) (setS (wipe σ t.vars) t.vars xs) H2 ρa x := fun x hx => ((hL' x hx).step G1.s).step G2
              -- the turn's end
              have fin : ∀ {H3 : Hp} {ρc : Ev} {acc' : List V} {zs' rest' : List PyData}, GoodX c (g.hold D) (setS (wipe σ t.vars) t.vars xs) H2 ρa H3 ρc → ∀ {us : List V}, H3 D = some (.lst us) → RelL c.K (Tt (g.hold D) (setS (wipe σ t.vars) t.vars xs) ρc) H3 acc' zs' →
                  compL t.vars t dt (bnd de coe) (p.2.drop (i + 1)) ρc = .ok rest' ρf → zs' ++ rest' = ys → ∀ H4, (H4 = upd H3 D (.lst acc') ∨ (H4 = H3 ∧ us = acc')) → ∃ ρ' acc zs rest, Sim c (g.hold D) (wipe σ t.vars) H4 (wipes ρ' t.vars) ∧ CB g σ D (upd H1 D (.lst [])) ρb (Tt (g.hold D) (wipe σ t.vars) (wipes ρ' t.vars)) H4 (wipes ρ' t.vars) ∧
                  H4 D = some (.lst acc) ∧ RelL c.K (Tt (g.hold D) (wipe σ t.vars) (wipes ρ' t.vars)) H4 acc zs ∧ (∀ x ∈ L, Lk c (g.hold D) (wipe σ t.vars) H4 (wipes ρ' t.vars) x) ∧
                  compL t.vars t dt (bnd de coe) (p.2.drop (i + 1)) ρ' = .ok rest ρf ∧ zs ++ rest = ys := by
                intro H3 ρc acc' zs' rest' G3 us hus hr3 e6 hz' H4 h4
                have hL3 : ∀ x ∈ L, Lk c (g.hold D) (setS (wipe σ t.vars) t.vars xs) H3 ρc x := fun x hx => (hL2 x hx).step G3.s
                have sub : ∀ a, Tt (g.hold D) (wipe σ t.vars) (wipes ρc t.vars) a → Tt (g.hold D) (setS (wipe σ t.vars) t.vars xs) ρc a := fun a z => by rw [← hws] at z; exact tt_wipes z
                -- first with the list as it is
                have s3 : Sim c (g.hold D) (wipe σ t.vars) H3 (wipes ρc t.vars) := by have := G3.sim.wipes (vs := t.vars); rw [hws] at this; exact this
                have cb3 : CB g σ D (upd H1 D (.lst [])) ρb (Tt (g.hold D) (wipe σ t.vars) (wipes ρc t.vars)) H3 (wipes ρc t.vars) := (cb2.step G3.stp).sub sub fun i p ds h1 h2 => lk_no i p ds h1 h2
                have hL4 : ∀ x ∈ L, Lk c (g.hold D) (wipe σ t.vars) H3 (wipes ρc t.vars) x := fun x hx => by
                  have hx3 := hL3 x hx
                  obtain ⟨v, ev, d⟩ := x
                  cases ev with
                  | fresh _ => exact hx3
                  | val d' => exact ⟨hx3.1, hx3.2.ext (Ext.weak sub)⟩
                  | loc j =>
                    obtain ⟨pj, dsj, ej, h1, h2⟩ := hLb _ hx
                    have hj : j ∉ t.vars := fun z => plb j z pj true dsj h1
                    obtain ⟨pk, dsk, ek, h3, h4⟩ := hx3
                    refine ⟨pk, dsk, ek, by rw [wipes_out hj]; exact h3, ?_⟩
                    rw [wipe_out hj]; exact h2
                have hr4 : RelL c.K (Tt (g.hold D) (wipe σ t.vars) (wipes ρc t.vars)) H3 acc' zs' := hr3.ext (Ext.weak sub)
                rcases h4 with rfl | ⟨rfl, rfl⟩
                · have x4 : Ext (Tt (g.hold D) (wipe σ t.vars) (wipes ρc t.vars)) H3 (Tt (g.hold D) (wipe σ t.vars) (wipes ρc t.vars)) (upd H3 D (.lst acc')) := fun a o h _ n => ⟨by rw [upd_ne (fun z => n (by rw [z]; exact tD))]; exact h, n⟩
                  refine ⟨ρc, acc', zs', rest', s3.grow hus, cb3.app tD my, upd_same, hr4.ext x4, fun x hx => ?_, e6, hz'⟩
                  have hx4 := hL4 x hx
                  obtain ⟨v, ev, d⟩ := x
                  cases ev with
                  | fresh _ => exact hx4
                  | val d' => exact ⟨hx4.1, hx4.2.ext x4⟩
                  | loc j => exact hx4
                · exact ⟨ρc, us, zs', rest', s3, cb3, hus, hr4, hL4, e6, hz'⟩
              cases e6 : dt ρa with
              | bad => rw [e6] at e4; cases e4
              | exc x ρ' => rw [e6] at e4; cases e4
              | ok tv ρc =>
                rw [e6] at e4
                intro H3 G3'
                have G3 := G3'.yox
                have hD3 : H3 D = some (.lst acc) := G3.stp.fr D _ (fun z => z.2 rfl) hD2 (fun _ z => by cases z)
                cases tv with
                | false =>
                  rw [if_neg Bool.false_ne_true]
                  exact fin G3 hD3 (hr2.ext G3.stp.ext) e4 hz H3 (.inr ⟨rfl, rfl⟩)
                | true =>
                  rw [if_pos rfl]
                  dsimp only at e4
                  refine ⟨g.hold D, ρc, G3.sim.nox, ?_⟩
                  cases e7 : de ρc with
                  | bad => rw [bnd_bad e7] at e4; cases e4
                  | exc x ρ' => rw [bnd_exc e7] at e4; cases e4
                  | ok ev ρd =>
                    rw [bnd_ok e7] at e4
                    intro y H4 G4'
                    have G4 := G4'.yox
                    rcases coe_inv G4.sim G4.ref rfl with e8 | ⟨yd, ρe, e8, G5⟩
                    · rw [e8] at e4; cases e4
                    · rw [e8] at e4
                      dsimp only at e4
                      cases e9 : compL t.vars t dt (bnd de coe) (p.2.drop (i + 1)) ρe with
                      | bad => rw [e9] at e4; cases e4
                      | exc x ρ' => rw [e9] at e4; cases e4
                      | ok rest' ρg =>
                        rw [e9] at e4
                        dsimp only at e4
                        by_cases hlen : rest'.length < line
                        · rw [if_pos hlen] at e4
                          cases e4
                          have G6 : GoodX c (g.hold D) (setS (wipe σ t.vars) t.vars xs) H2 ρa H4 ρe := ⟨G5.sim, (G3.stp.trans G4.step).trans G5.step⟩
                          have hD4 : H4 D = some (.lst acc) := G6.stp.fr D _ (fun z => z.2 rfl) hD2 (fun _ z => by cases z)
                          refine ⟨acc, hD4, ?_, ?_⟩
                          · have h1 : (zs ++ yd :: rest').length = ys.length := congrArg List.length hz
                            rw [List.length_append, List.length_cons] at h1
                            rw [hr.length, ← line_eq]
                            omega
                          · have hr6 := (hr2.ext G6.stp.ext).snoc G5.res.2
                            exact fin G6 hD4 hr6 e9 (by rw [← hz]; simp) _ (.inl rfl)
                        · rw [if_neg hlen] at e4; cases e4
          · refine .inl ⟨w1 (by omega), ?_⟩
            have hd : p.2.drop i = [] := List.drop_eq_nil_of_le (by omega)
            rw [hd] at e4
            cases e4
            have hz' : zs = ys := by simpa using hz
            subst hz'
            -- the slots
            have ll : ρ1.length = ρf.length := by
              have h1 := GL.sim.len
              have h2 := G0.sim.len
              have h3 := s1.len
              rw [wipe_length, wipes_len] at h3
              omega
            have tb : Tt g σ ρb = Tt g σ ρ1 := by
              cases ev : p.1 with
              | val d => rw [ev] at e2; cases e2; rfl
              | fresh d => rw [ev] at e2; cases e2; rfl
              | loc j =>
                obtain ⟨q, ds', h3, h4⟩ := hlk j ev
                rw [h4, tt_relock h3]
            have x1 : Ext (Tt g σ ρ1) H1 (Tt (g.hold D) (wipe σ t.vars) (wipes ρf t.vars)) H' := by
              rw [← tb]
              exact xb.trans cb.ext
            obtain ⟨te, s5⟩ := s1.restore ll hpl (fun j hj d hd => by
              obtain ⟨v, q1, q2⟩ := G0.sim.val j d hd
              exact ⟨v, q1, q2.ext x1⟩) fun j _ k e => G0.sim.err j k e
            have nD : ∀ {i : Nat} {p l : Bool} {ds : List PyData}, (restore ρ1 ρf t.vars)[i]? = some (.own p l ds) → σ[i]? ≠ some (some (.ref D)) := fun {i p l ds} e z => by
              obtain ⟨a, us, h1, _, _, h4, _⟩ := s5.own i p l ds e
              rw [z] at h1; cases h1
              exact h4.2 rfl
            have ntD : ¬ Tt g σ (restore ρ1 ρf t.vars) D := by
              rintro (z | ⟨i, p, l, ds, z1, z2⟩)
              · exact G0.sim.tcs D z hD
              · exact nD z1 z2
            have rs : Res c g σ H' (restore ρ1 ρf t.vars) (.ref D) (.fresh zs) := ⟨D, acc, rfl, s5.unhold, hacc, by
              have : Tt (g.plus D) σ (restore ρ1 ρf t.vars) = Tt (g.hold D) (wipe σ t.vars) (wipes ρf t.vars) := te
              rw [this]; exact hr, ntD, my⟩
            have st : ∀ {ρ4 : Ev}, (∀ (i : Nat) (p : Bool) (ds : List PyData), ρ1[i]? = some (.own p true ds) → (restore ρ1 ρf t.vars)[i]? = some (.own p true ds) → ρ4[i]? = some (.own p true ds)) → Stp c g σ H1 ρ1 (Tr g σ (restore ρ1 ρf t.vars) (.ref D) (.fresh zs)) H' ρ4 := fun {ρ4} hl => by
              rw [tr_fresh]
              have te' : Tt (g.plus D) σ (restore ρ1 ρf t.vars) = Tt (g.hold D) (wipe σ t.vars) (wipes ρf t.vars) := te
              rw [te']
              refine ⟨x1, fun a o n h t => cb.fr a o n ?_ t, fun a h => cb.dom a ?_, fun i p ds h => hl i p ds h ?_⟩
              · rw [upd_ne (ne_of_none h hD)]; exact h
              · by_cases q : a = D
                · subst q; exact absurd hD h
                · rw [upd_ne q]; exact h
              · have h1 := cb.lk i p ds (GL.stp.lk i p ds h)
                obtain ⟨hj, h2⟩ := wipes_get h1 (fun z => by cases z)
                rw [restore_out hj]; exact h2
            cases ev : p.1 with
            | val d => rw [ev] at k1; exact k1 (.ref D) H' ⟨rs, st fun _ _ _ _ h => h⟩
            | fresh d => rw [ev] at k1; exact k1 (.ref D) H' ⟨rs, st fun _ _ _ _ h => h⟩
            | loc j =>
              rw [ev] at k1
              unfold unlockE at k1
              dsimp only at k1
              obtain ⟨q0, ds0, h0, _⟩ := hlk j ev
              cases e5 : (restore ρ1 ρf t.vars)[j]? with
              | none => rw [e5] at k1; exact k1.elim
              | some sl =>
                rw [e5] at k1
                cases sl with
                | no => exact k1.elim
                | err _ => exact k1.elim
                | val _ => exact k1.elim
                | own q l es =>
                  cases l
                  · exact k1.elim
                  · obtain ⟨rs', tr'⟩ := Res.relock (l' := false) rs e5
                    refine k1 (.ref D) H' ⟨rs', ?_⟩
                    rw [tr']
                    refine st fun i p ds h h' => ?_
                    by_cases k : j = i
                    · subst k; rw [h0] at h; cases h
                    · rw [List.getElem?_set_ne k]; exact h'
    · rw [if_neg hpl] at k1; exact k1.elim
end
end Den
set_option autoImplicit false
set_option maxRecDepth 100000
set_option maxHeartbeats 4000000
/-! Den, part O: list comprehensions, the rules. -/
namespace Den
open PySem PySem.Spec PyProof.Rows L2 GxR
section
variable {X : Cx} {c : Ct} {g : Gh} {σ : L2.St} {H : Hp} {ρ : Ev} {tg e a b iter elt : Expr} {ifs : List Expr} {pos : Pos} {da db de : M EV}
theorem _root_.L2.PTs.weak {X : Cx} {e : List Expr} {t t' : TT} (h : PTs X e t) (w : ∀ σ H Q, t' σ H Q → t σ H Q) : PTs X e t' := ⟨fun pins s σ H Q I q => h.run pins s σ H Q I (w σ H Q q)⟩
theorem t_ts0 : PTs X [] (tT c (ret true)) := (pts_nil (X := X)).weak fun σ H Q ⟨g, ρ, s, k⟩ => k H ⟨s, Stp.refl⟩
theorem t_ts1 (h : PT X e (tT c (bnd de truthM))) : PTs X [e] (tT c (bnd de fun x => bnd (truthM x) fun t => if t then ret true else ret false)) := by
  have e1 : (fun x => bnd (truthM x) fun t => if t then ret true else ret false) = truthM := by
    funext x ρ
    unfold bnd
    cases truthM x ρ with
    | ok t ρ1 => cases t <;> rfl
    | exc k ρ1 => rfl
    | bad => rfl
  rw [e1]
  exact pts_one h
theorem r_lc {t : Tg} {dt : M Bool} {di : M (EV × List PyData)} {scope : Scope} {own : List (Str × Nat)} (hK : X.K = c.K) (hc : X.calm = true) (hN : X.N.Nodup) (hi : PI X tg iter (tI c di)) (ok : BlkOk X.N X.env.scope scope own) (ho : own.map (·.2) = t.vars)
    (hb : ∀ (s : Shared) (H : Hp) (C : Addr) (cl : List (Str × Addr)) (fp : List Addr), TgM (X.blk s H scope (compEnvC scope cl C X.env) fp) tg t ∧ PTs (X.blk s H scope (compEnvC scope cl C X.env) fp) ifs (tT c.nox dt) ∧ PE (X.blk s H scope (compEnvC scope cl C X.env) fp) elt (tE c.nox de))
    (hs : ∀ x, foldedSetIterable iter X.env x = pure x) :
    PE X (.ListComp elt [⟨tg, iter, ifs, 0⟩] scope pos) (tE c (bnd di (lcM t dt (bnd de coe)))) := by
  refine (pe_lc hc hN hi ok (g := gTg X.K t) (fun s H C cl fp => TgM.pg (X := X.blk s H scope (compEnvC scope cl C X.env) fp) hc hN (hb s H C cl fp).1) (fun s H C cl fp => (hb s H C cl fp).2.1) (fun s H C cl fp => (hb s H C cl fp).2.2) hs).weak fun σ H Q h => ?_
  rw [ho]
  exact lc_go hK h
theorem s_setLc {i : Nat} {y : Str} {py spos : Pos} {o : Bool} {t : Tg} {dt : M Bool} {di : M (EV × List PyData)} {scope : Scope} {own : List (Str × Nat)} (hK : X.K = c.K) (hc : X.calm = true) (hN : X.N.Nodup) (hy : X.N[i]? = some y) (hyl : X.env.scope.names.lookup y = some .local)
    (hsw : swapsWith (.ListComp elt [⟨tg, iter, ifs, 0⟩] scope pos) (some (.Name y py)) spos.line X.env = pure true) (hi : PI X tg iter (tI c di)) (ok : BlkOk X.N X.env.scope scope own) (ho : own.map (·.2) = t.vars)
    (hb : ∀ (s : Shared) (H : Hp) (C : Addr) (cl : List (Str × Addr)) (fp : List Addr), TgM (X.blk s H scope (compEnvC scope cl C X.env) fp) tg t ∧ PTs (X.blk s H scope (compEnvC scope cl C X.env) fp) ifs (tT c.nox dt) ∧ PE (X.blk s H scope (compEnvC scope cl C X.env) fp) elt (tE c.nox de))
    (hs : ∀ x, foldedSetIterable iter X.env x = pure x) :
    PS X (.Assign [.Name y py] (.ListComp elt [⟨tg, iter, ifs, 0⟩] scope pos) spos) (tS c (sE (bnd (bnd di (lcM t dt (bnd de coe))) soft) fun v ρ => match putL ρ [i] [o] [v] with | some ρ' => .nx ρ' | none => .bad)) := by
  refine (ps_setLc hc hN hy hyl hsw hi ok (g := gTg X.K t) (fun s H C cl fp => TgM.pg (X := X.blk s H scope (compEnvC scope cl C X.env) fp) hc hN (hb s H C cl fp).1) (fun s H C cl fp => (hb s H C cl fp).2.1) (fun s H C cl fp => (hb s H C cl fp).2.2) hs).weak fun D σ H h => ?_
  have h1 := asg_go h
  show tLc _ _ _ _ _ σ H _
  rw [ho]
  exact lc_go hK h1
/-- raise X('m') -/
theorem s_rse {C : Addr} {B newId initId : String} {bmB : List Value} {x m : Str} {j k : Nat} {p p2 pos' : Pos} (F : ExcBaseFacts B newId initId bmB) (q : PySem.W.excIn X.K C bmB newId = true) (gC : X.mg x = some (.ref C)) (kC : PySem.W.keepIn X.K (.ref C) = true) (r : Raises X (.ref C)) (hg : Gl X x)
    (hdb : (x == ("__debug__" : Str)) = false) (hc : X.calm = true) (tk : L2N.Takes X c.W) (hk : c.cls k = .ref C) : PS X (.Raise (some (.Call (.Name x p) [.Constant (.str m) j p2] [] pos')) none pos) (tS c fun ρ => .ex k ρ) := by
  refine (L2N.ps_raise hc tk (L2N.pmk_own F q gC kC r hg hdb)).weak fun D σ H ⟨g, ρ, s, h⟩ => ?_
  have := h σ H (GoodS.refl s)
  rw [hk] at this
  exact this
end
end Den
set_option autoImplicit false
set_option maxRecDepth 100000
set_option maxHeartbeats 4000000
/-! Den, part P: generator expressions walked by all, any. -/
namespace Den
open PySem PySem.Spec PyProof.Rows L2 GxR GenW
/-- the scope of a generator expression -/
structure GenOk (scope : Scope) : Prop where
  co : scope.isCoroutine = false
  cell : ∀ y ∈ scope.names, y.2 ≠ .cell
  dot : scope.names.lookup (".0" : Str) = some NameKind.local
/-- the context of a generator expression's code: it starts at s, its iterator's objects at fp, its own object pinned -/
abbrev _root_.L2.Cx.gen (X : Cx) (s : Shared) (H : Hp) (scope : Scope) (cenv : Env) (fp : List Addr) (pn : List (Addr × Obj)) : Cx :=
  { X with s_0 := s, H_0 := H, env := cenv, outer := X.stack, stack := cenv :: X.stack, ex := fp, fn := fun x => scope.names.lookup x == some .cell, A := X.A.in1.in1.deeper cenv, pn := pn, xe := fun _ _ => False }
theorem over_gen {A : Around} {elt : Expr} {gs : List Comprehension} {scope : Scope} {pos : Pos} {it acc : Value} {env : Env} : A.over (.compLoop (.GeneratorExp elt gs scope pos) 0 it acc env) [] = A.deeper env := by
  first
    | rfl
    | (obtain ⟨hd, d, fr, gs, u⟩ := A; simp [Around.over, Around.deeper, marksOver, frameCount, unitsOf, envsOf, guardsOf, pushEnvs, pushGuards, Code.envs, Code.env?, Code.isFrame, Code.guards, Code.isGuard, Code.weight, Code.frames, Code.isCreation, Code.isCaller, Code.cUnits])
theorem over_gen0 {A : Around} {elt : Expr} {gs : List Comprehension} {scope : Scope} {pos : Pos} {it acc : Value} {env : Env} : A.over (.compStart (.GeneratorExp elt gs scope pos) 0 it acc env) [] = A.deeper env := by
  first
    | rfl
    | (obtain ⟨hd, d, fr, gs, u⟩ := A; simp [Around.over, Around.deeper, marksOver, frameCount, unitsOf, envsOf, guardsOf, pushEnvs, pushGuards, Code.envs, Code.env?, Code.isFrame, Code.guards, Code.isGuard, Code.weight, Code.frames, Code.isCreation, Code.isCaller, Code.cUnits])
section
variable {X : Cx} {pins : List (Addr × Obj)} {σ : L2.St} {H : Hp} {s : Shared}
theorem gen_start {scope : Scope} {own : List (Str × Nat)} {fp : List Addr} {it code : Value} {h' : Heap} {G : Array GenState} {tk : Nat} {go : Obj} (I : Inv X pins σ H s) (ok : BlkOk X.N X.env.scope scope own) (gk : GenOk scope) (hN : X.N.Nodup) (hd0 : (".0" : Str) ∉ X.N) (hfp : ∀ b ∈ fp, FpOk X pins H b ∧ b < s.heap.objs.size)
    (hn : h'.Ns s.heap.objs.size (fun y => if y = ".0" then some it else none)) (hs : Heap.SameBut s.heap.objs.size (s.heap.push { cls := .type "frame", data := .dict #[] }) h') (hG : AllBare G) (hgo : ∀ v, go.data ≠ .cell v) (hgf : go.isFreed = false) :
    Inv (X.gen s H scope (genEnv scope (cloFrom X.env.cells scope.names []) s.heap.objs.size code builtinsNs X.env) fp [(h'.objs.size, go)]) [] (wipe σ (own.map (·.2))) H { s with gens := G, toks := tk, heap := h'.push go } := by
  have hfree : ∀ y ∈ scope.names, y.2 = .free → ∃ c, X.env.cells.lookup y.1 = some c := fun y hy e => by
    rcases ok.free y hy e with k | k
    · exact I.ok.has _ (.inl k)
    · exact I.ok.has _ (.inr k)
  generalize hcenv : genEnv scope (cloFrom X.env.cells scope.names []) s.heap.objs.size code builtinsNs X.env = cenv
  have hsz : h'.objs.size = s.heap.objs.size + 1 := by rw [hs.1, Heap.size_push]
  have kp : ∀ b o, s.heap.get? b = some o → (h'.push go).get? b = some o := fun b o e => Heap.get?_push_of_some _ (hs.extBut b o (Nat.ne_of_lt (Heap.lt_size e)) (Heap.get?_push_of_some _ e))
  have hL : cenv.locals = s.heap.objs.size := by rw [← hcenv]; rfl
  have hcl : cenv.cells = cloFrom X.env.cells scope.names [] := by rw [← hcenv]; rfl
  have hsc : cenv.scope = scope := by rw [← hcenv]; rfl
  have cm : ∀ {y c}, (y, c) ∈ cloFrom X.env.cells scope.names [] → X.env.cells.lookup y = some c ∧ c < s.heap.objs.size := fun {y c} hm => by
    rcases cloFrom_mem hm with hm | ⟨h1, rfl⟩
    · cases hm
    · obtain ⟨c, hc⟩ := hfree _ h1 rfl
      rw [hc]
      obtain ⟨w, z⟩ := I.cell _ _ hc
      exact ⟨rfl, z.lt⟩
  have mem : ∀ {y c}, cenv.cells.lookup y = some c → X.env.cells.lookup y = some c ∧ c < s.heap.objs.size := fun {y c} e => by
    rw [hcl] at e
    exact cm (PySem.mem_of_lookup e)
  have look : ∀ {y}, scope.names.lookup y = some .free → ∃ c, cenv.cells.lookup y = some c ∧ X.env.cells.lookup y = some c := fun {y} hl => by
    have hy : (y, NameKind.free) ∈ scope.names := PySem.mem_of_lookup hl
    obtain ⟨c', e'⟩ := mem_lookup (cloFrom_has (cells := X.env.cells) (acc := []) hy)
    rw [← hcl] at e'
    exact ⟨c', e', (mem e').1⟩
  have nocell : ∀ {y}, scope.names.lookup y ≠ some .cell := fun {y} e => gk.cell _ (PySem.mem_of_lookup e) rfl
  have okB : (X.gen s H scope cenv fp [(h'.objs.size, go)]).Ok := by
    refine ⟨I.ok.mod, by show cenv.scope.kind = _; rw [hsc]; exact ok.kind, by show cenv.globals = _; rw [← hcenv]; exact I.ok.glob, by show cenv.builtins = _; rw [← hcenv]; rfl, by show s.heap.objs.size ≤ cenv.locals; rw [hL]; exact Nat.le_refl _,
      fun y z c e1 e2 => ?_, fun y hy => ?_, fun y c z e => ?_, I.ok.hd, Around.frames_deeper I.ok.frames, .inr ⟨rfl, by show cenv.frame = some cenv.locals; rw [← hcenv]; rfl⟩, fun b hb => ⟨?_, fun y c e z => ?_⟩, I.bs, Nat.le_trans I.ok.bsz I.sz, fun b o e hb => ?_, fun b hb z => ?_, I.stack, I.stkFree⟩
    · exact I.ok.inj y z c (mem e1).1 (mem e2).1
    · show ∃ c, cenv.cells.lookup y = some c
      rcases hy with hy | hy
      · have hy : cenv.scope.names.lookup y = some .cell := hy
        rw [hsc] at hy
        exact absurd hy nocell
      · have hy : cenv.scope.names.lookup y = some .free := hy
        rw [hsc] at hy
        obtain ⟨c, h1, _⟩ := look hy
        exact ⟨c, h1⟩
    · have z : (scope.names.lookup y == some NameKind.cell) = true := z
      have z : scope.names.lookup y = some .cell := by simpa using z
      exact absurd z nocell
    · show b ≠ cenv.locals
      rw [hL]; exact Nat.ne_of_lt (hfp b hb).2
    · exact (hfp b hb).1.2.2.2.2.1 y c (mem e).1 z
    · rcases (hfp b hb).1.2.2.2.1 with z | z
      · exact I.ok.noex b o e z
      · exact absurd (Nat.lt_of_lt_of_le (Heap.lt_size e) (Nat.le_trans I.ok.bsz z)) (Nat.lt_irrefl _)
    · rcases List.mem_cons.mp (I.stkSub b z) with z | z
      · exact (hfp b hb).1.2.1 z
      · exact (hfp b hb).1.2.2.1 z
  refine ⟨okB, rfl, hG, Un.kept kp, ⟨fun y => if y = ".0" then some it else none, ?_, fun i y av e1 e2 e3 => ?_⟩, fun y c e => ?_, ?_, fun y c e => ?_, fun p hp => ?_, I.hok.kept kp, by rw [wipe_length]; exact I.len⟩
  · show Heap.Ns _ cenv.locals _
    rw [hL]
    exact hn.push _
  · obtain ⟨e2, hne⟩ := wipe_some e2
    have hfr : scope.names.lookup y = some .free := by
      have key : ∀ k, scope.names.lookup y = some k → k = .local ∨ k = .cell ∨ k = .free → scope.names.lookup y = some .free := fun k hk hk' => by
        rcases hk' with rfl | rfl | rfl
        · exfalso
          rcases ok.own _ (PySem.mem_of_lookup hk) (.inl rfl) with e' | e'
          · obtain ⟨p, hp, hpy⟩ := List.mem_map.mp e'
            have e3 := ok.ix p hp
            have : p.1 = y := hpy
            rw [this] at e3
            exact hne (List.mem_map.mpr ⟨p, hp, nodup_ix hN e3 e1⟩)
          · exact e' (List.mem_of_getElem? e1)
        · exact absurd hk nocell
        · exact hk
      have e3 : Vis cenv.scope y := e3
      rw [hsc] at e3
      rcases e3 with e3 | e3 | e3
      · exact key _ e3 (.inl rfl)
      · exact key _ e3 (.inr (.inl rfl))
      · exact key _ e3 (.inr (.inr rfl))
    obtain ⟨m, hn, hl⟩ := I.loc
    have hvis : Vis X.env.scope y := (ok.free _ (PySem.mem_of_lookup hfr) rfl).elim (fun k => .inr (.inl k)) (fun k => .inr (.inr k))
    obtain ⟨w, r, q⟩ := hl i y av e1 e2 hvis
    refine ⟨w, r, .inr ⟨.inr (by show cenv.scope.names.lookup y = _; rw [hsc]; exact hfr), ?_⟩⟩
    obtain ⟨c, h1, h2⟩ := look hfr
    rcases q with ⟨k, _⟩ | ⟨_, c', e', z⟩
    · have k : X.env.scope.names.lookup y = some .local := k
      rcases ok.free _ (PySem.mem_of_lookup hfr) rfl with k' | k' <;> rw [show X.env.scope.names.lookup y = _ from k'] at k <;> cases k
    · rw [h2] at e'; cases e'
      exact ⟨c, h1, z.keeps kp⟩
  · obtain ⟨w, z⟩ := I.cell y c (mem e).1
    exact ⟨w, z.keeps kp⟩
  · show H cenv.locals = none
    rw [hL]; exact I.hok.fresh (Nat.le_refl _)
  · exact I.freeC y c (mem e).1
  · have e : p = (h'.objs.size, go) := by simpa using (show p ∈ [(h'.objs.size, go)] ++ [] from hp)
    subst e
    refine ⟨Heap.get?_push_size _ hgf, I.hok.fresh (by rw [hsz]; exact Nat.le_succ _), ?_, ?_, hgo⟩
    · show h'.objs.size ≠ cenv.locals
      rw [hL, hsz]; exact Nat.succ_ne_self _
    · intro hb
      obtain ⟨_, o, ho, _⟩ := I.stack.mem hb
      have h1 : h'.objs.size < s.heap.objs.size := Heap.lt_size ho
      omega
/-- what is handed out turn by turn; the caller's state at the start: s3, H3 -/
def Back (X : Cx) (s3 : Shared) (H3 : Hp) (fp : List Addr) (a : Addr) (gn : Nat) (H : Hp) (s : Shared) : Prop :=
  s.os = s3.os ∧ AllBare s.gens ∧ Un (frs X.stack) fp H3 H s3.heap s.heap ∧ HOk X.prog X.w H s.heap ∧ s.heap.IsGen a gn ∧ s.heap.NoLimit
def YB (b : GB) (X : Cx) (s3 : Shared) (H3 : Hp) (fp : List Addr) (a : Addr) (gn : Nat) (Q : VK) : Protocol := fun n s₀ v s kap =>
  ∃ t H, v = .bool t ∧ Back X s3 H3 fp a gn H s ∧ (t = b.stop → Q (.bl t) H) ∧ (t ≠ b.stop → ∀ s', s'.os = s.os → AllBare s'.gens → (∀ b o, s.heap.get? b = some o → s'.heap.get? b = some o) → kap (.send .none) s')
def RB (b : GB) (X : Cx) (s3 : Shared) (H3 : Hp) (fp : List Addr) (a : Addr) (gn : Nat) (Q : VK) : GenEnd := fun n s₀ r s1 =>
  ((r = .ok (.ret .none) ∨ r = .ok .next) ∧ ∃ H, Back X s3 H3 fp a gn H s1 ∧ Q (.bl (!b.stop)) H) ∨ ∃ e, r = .error e ∧ False
/-- the turns of a generator expression -/
def tGw (b : GB) (J : It) (g : TG) (tt : TT) (te : TE) (vs : List Nat) (σ : L2.St) (Q : VK) (H2 : Hp) : Prop :=
  ∃ W : Nat → Nat → Hp → Prop, (∃ m, W 0 m H2) ∧ ∀ i m H, W i m H → (J.stop i H ∧ Q (.bl (!b.stop)) H) ∨ (J.go i H ∧ ∃ Nx : Hp → Prop, (∀ H', Nx H' → ∃ m', m' < m ∧ W (i + 1) m' H') ∧
    ∀ x H', J.yld i H x H' → g x (wipe σ vs) H' fun σ2 H2 => wipe σ2 vs = wipe σ vs ∧ tt σ2 H2 fun r H3 => if r = true then te σ2 H3 fun y H4 => ∃ t, y = .bl t ∧ (t = b.stop → Q (.bl t) H4) ∧ (t ≠ b.stop → Nx H4) else Nx H3)
theorem seg_gen {b : GB} {elt tg iter : Expr} {ifs : List Expr} {scope : Scope} {own : List (Str × Nat)} {pos : Pos} {g : TG} {tt : TT} {te : TE} {Q : VK} {cenv : Env} {fp : List Addr} {it a : Addr} {gn : Nat} {tn : Nat → Heap → Prop} {J : It} {go : Obj} {H3 : Hp} {s3 : Shared}
    (hc : X.calm = true) (hco : cenv.scope.isCoroutine = false) (T : Turn X.prog X.w X.K tg J fp it tn)
    (pg : PG (X.gen s3 H3 scope cenv fp [(a, go)]) tg g) (pt : PTs (X.gen s3 H3 scope cenv fp [(a, go)]) ifs tt) (pe : PE (X.gen s3 H3 scope cenv fp [(a, go)]) elt te) (hgo : ∀ h : Heap, h.get? a = some go → h.IsGen a gn) (hfa : ∀ p ∈ [(a, go)], ∀ b ∈ fp, p.1 ≠ b)
    {W : Nat → Nat → Hp → Prop} (turn : ∀ i m H, W i m H → (J.stop i H ∧ Q (.bl (!b.stop)) H) ∨ (J.go i H ∧ ∃ Nx : Hp → Prop, (∀ H', Nx H' → ∃ m', m' < m ∧ W (i + 1) m' H') ∧
    ∀ x H', J.yld i H x H' → g x (wipe σ (own.map (·.2))) H' fun σ2 H2 => wipe σ2 (own.map (·.2)) = wipe σ (own.map (·.2)) ∧ tt σ2 H2 fun r H3 => if r = true then te σ2 H3 fun y H4 => ∃ t, y = .bl t ∧ (t = b.stop → Q (.bl t) H4) ∧ (t ≠ b.stop → Nx H4) else Nx H3)) :
    ∀ (m n i : Nat) (H : Hp) (s s₀ : Shared), m + 1 ≤ n → Inv (X.gen s3 H3 scope cenv fp [(a, go)]) [] (wipe σ (own.map (·.2))) H s → tn i s.heap → (∀ b ∈ fp, H b = none) → W i m H →
      Seg (model X.prog X.w) X.A.in1.in1 (RB b X s3 H3 fp a gn Q) (YB b X s3 H3 fp a gn Q) n s₀ (.compLoop (.GeneratorExp elt [⟨tg, iter, ifs, 0⟩] scope pos) 0 (.ref it) .none cenv)
        ((model X.prog X.w).den (.compLoop (.GeneratorExp elt [⟨tg, iter, ifs, 0⟩] scope pos) 0 (.ref it) .none cenv)) [] s := by
  have back : ∀ {pins : List (Addr × Obj)} {σ' : L2.St} {H : Hp} {s : Shared}, Inv (X.gen s3 H3 scope cenv fp [(a, go)]) pins σ' H s → Back X s3 H3 fp a gn H s := fun {pins σ' H s} I =>
    ⟨I.os, I.bare, I.base, I.hok, hgo _ (I.pin (a, go) (List.mem_append_left _ (List.mem_singleton.mpr rfl))).1, I.nolimit⟩
  have stat : ∀ {σ' : L2.St} {H' : Hp} {s' : Shared}, Inv (X.gen s3 H3 scope cenv fp [(a, go)]) [] σ' H' s' → (∀ b ∈ fp, H' b = none) → ∀ b ∈ fp, FpOk (X.gen s3 H3 scope cenv fp [(a, go)]) [] H' b := fun {σ' H' s'} I' hn b hb =>
    ⟨hn b hb, (I'.ok.exf b hb).1, I'.ok.exfs b hb, .inl hb, fun x c e => (I'.ok.exf b hb).2 x c e, fun p hp => hfa p (by rw [List.append_nil] at hp; exact hp) b hb⟩
  intro m
  induction m using Nat.strongRecOn with
  | ind m ih =>
    intro n i H5 s5 s₀ hmn I5 st5 n5 w5
    show Seg _ _ _ _ n s₀ _ ((compTurn (.GeneratorExp elt [⟨tg, iter, ifs, 0⟩] scope pos) 0 (.ref it) .none cenv).onRaise (leaving cenv)) [] s5
    rw [compTurn_gen, Sem.onRaise_eq_wrap]
    refine seg_bind_wrap (wpAny_standAt ?_)
    refine seg_bind_wrap ?_
    rw [over_gen]
    rcases turn i m H5 w5 with ⟨stop, qq⟩ | ⟨go', Nx, hNx, step⟩
    · have td := T.done (X.gen s3 H3 scope cenv fp [(a, go)]) rfl rfl rfl hc i [] s5 _ H5 (fun _ _ => False) I5 (stat I5 n5) st5 stop
      refine thnF td fun r s6 ⟨hr, I6⟩ => ?_
      subst hr
      exact seg_end (.ok .next) (.inl ⟨.inr rfl, H5, back I6, qq⟩)
    · have ti := T.item (X.gen s3 H3 scope cenv fp [(a, go)]) rfl rfl rfl hc i [] s5 _ H5 (fun _ _ => False) I5 (stat I5 n5) st5 go'
      refine thnF ti fun r s6 ⟨u, hr, h6⟩ => ?_
      subst hr
      refine seg_bind_wrap ?_
      rw [over_gen]
      refine thnF h6 fun _ s7 ⟨x, H7, I7, r7, y7, st7, n7⟩ => ?_
      have I7' := I7.pinned (stat I7 n7) (T.obj _ _ st7)
      refine seg_bind_wrap ?_
      rw [over_gen]
      refine thnF (pg.run _ s7 _ H7 x u _ I7' r7 (step x H7 y7)) fun _ s8 ⟨σ8, H8, I8, hw8, q8⟩ => ?_
      refine seg_bind_wrap ?_
      rw [over_gen]
      refine thnF (pt.run _ s8 σ8 H8 _ I8 q8) fun r s9 ⟨H9, I9, q9⟩ => ?_
      -- the turn's end
      have fin : ∀ {s' : Shared} {H' : Hp} {n' : Nat} {s₀' : Shared}, Inv (X.gen s3 H3 scope cenv fp [(a, go)]) ([] ++ pinsAt fp s7.heap) σ8 H' s' → Nx H' → m ≤ n' → Seg (model X.prog X.w) X.A.in1.in1 (RB b X s3 H3 fp a gn Q) (YB b X s3 H3 fp a gn Q) n' s₀' (.compLoop (.GeneratorExp elt [⟨tg, iter, ifs, 0⟩] scope pos) 0 (.ref it) .none cenv)
          ((model X.prog X.w).den (.compLoop (.GeneratorExp elt [⟨tg, iter, ifs, 0⟩] scope pos) 0 (.ref it) .none cenv)) [] s' := fun {s' H' n' s₀'} I' nx hn' => by
        obtain ⟨m', hm, w'⟩ := hNx H' nx
        have pin' : ∀ b ∈ fp, ∀ o, s7.heap.get? b = some o → s'.heap.get? b = some o ∧ H' b = none := fun b hb o e =>
          let z := I'.pin (b, o) (List.mem_append_right _ (List.mem_append_right _ (mem_pinsAt hb e)))
          ⟨z.1, z.2.1⟩
        have hl : (wipe σ (own.map (·.2))).length = σ8.length := by rw [← hw8, wipe_length]
        refine ih m' hm n' (i + 1) H' s' s₀' (by omega) ((I'.unpinned (pins := [])).weak hl (fun j v e => ?_)) (T.keep _ _ _ st7 fun b hb o e => (pin' b hb o e).1) (fun b hb => ?_) w'
        · rw [← hw8] at e
          exact (wipe_some e).1
        · obtain ⟨o, e, _⟩ := T.obj _ _ st7 b hb
          exact (pin' b hb o e).2
      cases r with
      | false =>
        simp only [Bool.false_eq_true, if_false] at q9 ⊢
        exact seg_again rfl (fin I9 q9 (by omega))
      | true =>
        simp only [if_true] at q9 ⊢
        have hy : ∀ v, yieldOut cenv v = yieldValue v := fun v => by simp only [yieldOut, hco, Bool.false_eq_true, if_false]
        simp only [hy]
        rw [Sem.bind_eq_wrap', Sem.bind_eq_wrap', Sem.wrap_wrap, Sem.wrap_wrap]
        refine seg_wrap ?_
        rw [over_gen]
        refine thnF (pe.run _ s9 σ8 H9 _ I9 q9) fun z s10 ⟨yv, H10, I10, r10, t, ht, q1, q2⟩ => ?_
        subst ht
        have hz : z = .bool t := r10
        subst hz
        obtain ⟨n', rfl⟩ : ∃ n', n = n' + 1 := ⟨n - 1, by omega⟩
        refine seg_at (seg_yield rfl rfl rfl ⟨t, H10, rfl, back I10, q1, fun hne s'' ho hb hk => ?_⟩)
        have I11 : Inv (X.gen s3 H3 scope cenv fp [(a, go)]) ([] ++ pinsAt fp s7.heap) σ8 H10 s'' := I10.call' (ch := []) ho (Un.kept hk) (I10.hok.kept hk) hb fun b z => absurd z (by simp)
        exact seg_again rfl (fin I11 (q2 hne) (by omega))
theorem seg_gen0 {b : GB} {elt tg iter : Expr} {ifs : List Expr} {scope : Scope} {pos : Pos} {Q : VK} {cenv : Env} {fp : List Addr} {it a : Addr} {gn : Nat} {tn : Nat → Heap → Prop} {J : It} {H3 : Hp} {s3 s₀ s5 : Shared} {i n : Nat}
    (T : Turn X.prog X.w X.K tg J fp it tn) (st5 : tn i s5.heap)
    (loop : Seg (model X.prog X.w) X.A.in1.in1 (RB b X s3 H3 fp a gn Q) (YB b X s3 H3 fp a gn Q) n s₀ (.compLoop (.GeneratorExp elt [⟨tg, iter, ifs, 0⟩] scope pos) 0 (.ref it) .none cenv)
        ((model X.prog X.w).den (.compLoop (.GeneratorExp elt [⟨tg, iter, ifs, 0⟩] scope pos) 0 (.ref it) .none cenv)) [] s5) :
    Seg (model X.prog X.w) X.A.in1.in1 (RB b X s3 H3 fp a gn Q) (YB b X s3 H3 fp a gn Q) n s₀ (.compStart (.GeneratorExp elt [⟨tg, iter, ifs, 0⟩] scope pos) 0 (.ref it) .none cenv)
        ((model X.prog X.w).den (.compStart (.GeneratorExp elt [⟨tg, iter, ifs, 0⟩] scope pos) 0 (.ref it) .none cenv)) [] s5 := by
  show Seg _ _ _ _ _ s₀ _ ((compStart (.GeneratorExp elt [⟨tg, iter, ifs, 0⟩] scope pos) 0 (.ref it) .none cenv).onRaise (leaving cenv)) [] s5
  unfold compStart
  rw [Sem.onRaise_eq_wrap]
  show Seg _ _ _ _ _ s₀ _ ((ask >>= _).wrap _ _ _ _) [] s5
  refine seg_bind_wrap (wpAny_askSetting ?_)
  split
  · exact seg_again rfl loop
  · first
      | exact seg_bind_wrap (wpAny_rule (seg_bind_wrap (wpAny_standAt (seg_bind_wrap (T.self _ i s5 _ _ st5 (seg_again rfl loop))))))
      | (refine seg_bind_wrap (wpAny_rule ?_); show Seg _ _ _ _ _ s₀ _ ((standAt iter.pos >>= _).wrap _ _ _ _) [] s5; exact seg_bind_wrap (wpAny_standAt (seg_bind_wrap (T.self _ i s5 _ _ st5 (seg_again rfl loop)))))

/-- the consumer's loop -/
def GB.loopId : GB → String
  | .all => "all.loop"
  | .any => "any.loop"
theorem drainB {b : GB} {Q : VK} {fp : List Addr} {a : Addr} {gn : Nat} {H3 : Hp} {s3 : Shared} {R : Result → Shared → Prop} (hh : X.A.handled = none) (hd : X.A.depth < recursionLimit)
    (hend : ∀ t H s', s'.os = s3.os → AllBare s'.gens → Un (frs X.stack) fp H3 H s3.heap s'.heap → HOk X.prog X.w H s'.heap → Q (.bl t) H → R (.ok (.ret (.bool t))) s') :
    ∀ (n : Nat) (s : Shared), s.heap.IsGen a gn → s.heap.NoLimit →
      (∃ gs, s.gens[gn]? = some gs ∧ gs.Goes (model X.prog X.w) X.A.in1.in1 (RB b X s3 H3 fp a gn Q) (YB b X s3 H3 fp a gn Q) n (.send .none) (s.setGen gn .running)) →
      codeAny (model X.prog X.w) X.A (.builtin b.loopId ⟨[.ref a], []⟩) R s := by
  have goes : ∀ {gs : GenState} {B : Around} {n : Nat} {r : Resume} {s : Shared}, gs.Goes (model X.prog X.w) B (RB b X s3 H3 fp a gn Q) (YB b X s3 H3 fp a gn Q) n r s →
      gs.Goes (model X.prog X.w) B (fun n s₀ r s1 => ((r = .ok (.ret .none) ∨ r = .ok .next) ∧ (∃ H, Back X s3 H3 fp a gn H s1 ∧ Q (.bl (!b.stop)) H)) ∨ ∃ e, r = .error e ∧ False) (YB b X s3 H3 fp a gn Q) n r s := fun h => h
  intro n
  induction n with
  | zero =>
    intro s hg hl ⟨gs, hgs, hgo⟩
    have fin0 : ∀ (s₁ : Shared), (∃ H, Back X s3 H3 fp a gn H s₁ ∧ Q (.bl (!b.stop)) H) → ∀ h', (∀ b o, s₁.heap.get? b = some o → h'.get? b = some o) → R (.ok (.ret (.bool (!b.stop)))) { s₁.setGen gn .finished with heap := h' } := by
      intro s₁ ⟨H, ⟨os1, hb1, un, hok, _, _⟩, hQ⟩ h' hk
      exact hend _ H _ os1 (allBare_setGen hb1 rfl) (un.trans (Un.kept hk)) (hok.kept hk) hQ
    have stopped : ∀ (t : Bool) (s₁ : Shared) (gs' : GenState), gs'.bare = true → (∃ H, Back X s3 H3 fp a gn H s₁ ∧ Q (.bl t) H) → R (.ok (.ret (.bool t))) (s₁.setGen gn gs') := by
      intro t s₁ gs' hb ⟨H, ⟨os1, hb1, un, hok, _, _⟩, hQ⟩
      exact hend _ H _ os1 (allBare_setGen hb1 hb) un hok hQ
    cases b with
    | all =>
      show codeAny (model X.prog X.w) X.A (.builtin "all.loop" ⟨[.ref a], []⟩) R s
      refine codeAny_builtin F.entry_all_loop ?_
      rw [Around.under_plainId F.plain_all_loop _]
      show wpAny _ X.A.in1 (pyNext (.ref a) >>= _) _ _ s
      refine wpAny_bind (next_genG (A := X.A.in1) hh hl hd hg hgs (goes hgo) (fun v s₁ gs' hbare hv => ?_) (fun s₁ hp h' hk => ?_) fun e s₁ he => he.elim)
      · obtain ⟨t, H, rfl, bk, q1, q2⟩ := hv
        refine wpAny_bind (wpAny_holding (wpAny_truthy_bool ?_))
        refine wpAny_bind (wpAny_letGo ?_)
        cases t with
        | true =>
          exact (q2 (by decide) s₁ rfl bk.2.1 fun _ _ e => e).elim
        | false =>
          simp only [Bool.false_eq_true, if_false]
          refine wpAny_bind (wpAny_rule (wpAny_pure ?_))
          exact stopped false s₁ gs' hbare ⟨H, bk, q1 rfl⟩
      · exact wpAny_bind (wpAny_rule (wpAny_pure (fin0 s₁ hp h' hk)))
    | any =>
      show codeAny (model X.prog X.w) X.A (.builtin "any.loop" ⟨[.ref a], []⟩) R s
      refine codeAny_builtin F.entry_any_loop ?_
      rw [Around.under_plainId F.plain_any_loop _]
      show wpAny _ X.A.in1 (pyNext (.ref a) >>= _) _ _ s
      refine wpAny_bind (next_genG (A := X.A.in1) hh hl hd hg hgs (goes hgo) (fun v s₁ gs' hbare hv => ?_) (fun s₁ hp h' hk => ?_) fun e s₁ he => he.elim)
      · obtain ⟨t, H, rfl, bk, q1, q2⟩ := hv
        refine wpAny_bind (wpAny_holding (wpAny_truthy_bool ?_))
        refine wpAny_bind (wpAny_letGo ?_)
        cases t with
        | false =>
          exact (q2 (by decide) s₁ rfl bk.2.1 fun _ _ e => e).elim
        | true =>
          simp only [if_true]
          refine wpAny_bind (wpAny_rule (wpAny_pure ?_))
          exact stopped true s₁ gs' hbare ⟨H, bk, q1 rfl⟩
      · exact wpAny_bind (wpAny_rule (wpAny_pure (fin0 s₁ hp h' hk)))
  | succ n ih =>
    intro s hg hl ⟨gs, hgs, hgo⟩
    have hgl : gn < s.gens.size := (Array.getElem?_eq_some_iff.mp hgs).1
    have fin0 : ∀ (s₁ : Shared), (∃ H, Back X s3 H3 fp a gn H s₁ ∧ Q (.bl (!b.stop)) H) → ∀ h', (∀ b o, s₁.heap.get? b = some o → h'.get? b = some o) → R (.ok (.ret (.bool (!b.stop)))) { s₁.setGen gn .finished with heap := h' } := by
      intro s₁ ⟨H, ⟨os1, hb1, un, hok, _, _⟩, hQ⟩ h' hk
      exact hend _ H _ os1 (allBare_setGen hb1 rfl) (un.trans (Un.kept hk)) (hok.kept hk) hQ
    have stopped : ∀ (t : Bool) (s₁ : Shared) (gs' : GenState), gs'.bare = true → (∃ H, Back X s3 H3 fp a gn H s₁ ∧ Q (.bl t) H) → R (.ok (.ret (.bool t))) (s₁.setGen gn gs') := by
      intro t s₁ gs' hb ⟨H, ⟨os1, hb1, un, hok, _, _⟩, hQ⟩
      exact hend _ H _ os1 (allBare_setGen hb1 hb) un hok hQ
    -- once more
    have more : ∀ (s₁ : Shared) (gs' : GenState) (H : Hp), gs'.bare = true → gn + 1 ≤ (s₁.setGen gn gs').gens.size → Back X s3 H3 fp a gn H s₁ →
        (∀ s', s'.os = s₁.os → AllBare s'.gens → (∀ b o, s₁.heap.get? b = some o → s'.heap.get? b = some o) → gs'.Goes (model X.prog X.w) X.A.in1.in1 (RB b X s3 H3 fp a gn Q) (YB b X s3 H3 fp a gn Q) n (.send .none) s') →
        codeAny (model X.prog X.w) X.A (.builtin b.loopId ⟨[.ref a], []⟩) R (s₁.setGen gn gs') := by
      intro s₁ gs' H hb hsz ⟨os1, hb1, un, hok, hg1, hl1⟩ hk
      have hsz1 : gn < s₁.gens.size := by
        have q : (s₁.setGen gn gs').gens.size = s₁.gens.size := setGen_size _ _ _
        omega
      exact ih (s₁.setGen gn gs') hg1 hl1 ⟨gs', setGen_at hsz1, hk _ rfl (allBare_setGen (s := s₁.setGen gn gs') (allBare_setGen hb1 hb) rfl) fun _ _ e => e⟩
    cases b with
    | all =>
      show codeAny (model X.prog X.w) X.A (.builtin "all.loop" ⟨[.ref a], []⟩) R s
      refine codeAny_builtin F.entry_all_loop ?_
      rw [Around.under_plainId F.plain_all_loop _]
      show wpAny _ X.A.in1 (pyNext (.ref a) >>= _) _ _ s
      refine wpAny_bind (wpAny_gsz (n := gn + 1) hgl (next_genG (A := X.A.in1) hh hl hd hg hgs (goes hgo) (fun v s₁ gs' hbare hv => ?_) (fun s₁ hp h' hk => ?_) fun e s₁ he => he.elim))
      · obtain ⟨t, H, rfl, bk, q1, q2⟩ := hv
        intro hsz
        refine wpAny_bind (wpAny_holding (wpAny_truthy_bool ?_))
        refine wpAny_bind (wpAny_letGo ?_)
        cases t with
        | true =>
          simp only [if_true]
          exact wpAny_pure ⟨plainId_quiet F.plain_all_loop _, more s₁ gs' H hbare hsz bk fun s' h1 h2 h3 => q2 (by decide) s' h1 h2 h3⟩
        | false =>
          simp only [Bool.false_eq_true, if_false]
          refine wpAny_bind (wpAny_rule (wpAny_pure ?_))
          exact stopped false s₁ gs' hbare ⟨H, bk, q1 rfl⟩
      · intro _
        exact wpAny_bind (wpAny_rule (wpAny_pure (fin0 s₁ hp h' hk)))
    | any =>
      show codeAny (model X.prog X.w) X.A (.builtin "any.loop" ⟨[.ref a], []⟩) R s
      refine codeAny_builtin F.entry_any_loop ?_
      rw [Around.under_plainId F.plain_any_loop _]
      show wpAny _ X.A.in1 (pyNext (.ref a) >>= _) _ _ s
      refine wpAny_bind (wpAny_gsz (n := gn + 1) hgl (next_genG (A := X.A.in1) hh hl hd hg hgs (goes hgo) (fun v s₁ gs' hbare hv => ?_) (fun s₁ hp h' hk => ?_) fun e s₁ he => he.elim))
      · obtain ⟨t, H, rfl, bk, q1, q2⟩ := hv
        intro hsz
        refine wpAny_bind (wpAny_holding (wpAny_truthy_bool ?_))
        refine wpAny_bind (wpAny_letGo ?_)
        cases t with
        | false =>
          simp only [Bool.false_eq_true, if_false]
          exact wpAny_pure ⟨plainId_quiet F.plain_any_loop _, more s₁ gs' H hbare hsz bk fun s' h1 h2 h3 => q2 (by decide) s' h1 h2 h3⟩
        | true =>
          simp only [if_true]
          refine wpAny_bind (wpAny_rule (wpAny_pure ?_))
          exact stopped true s₁ gs' hbare ⟨H, bk, q1 rfl⟩
      · intro _
        exact wpAny_bind (wpAny_rule (wpAny_pure (fin0 s₁ hp h' hk)))
/-- all(..), any(..) of a generator expression; P: the running def's table -/
def tGx (b : GB) (P : Addr) (wi : TI) (g : TG) (tt : TT) (te : TE) (vs : List Nat) : TE := fun σ H Q => wi σ H fun J H1 => TabG H1 P ∧ ∀ H2, Tabbed P H1 H2 → tGw b J g tt te vs σ Q H2
def GB.name : GB → String
  | .all => "all"
  | .any => "any"
theorem boot_gb (b : GB) : bootBuiltins (Str.ofString b.name) = some (.builtin b.name) := by cases b <;> decide +kernel
theorem gen_go {b : GB} {c P : Addr} {elt tg iter : Expr} {ifs : List Expr} {gpos : Pos} {scope : Scope} {own : List (Str × Nat)} {wi : TI} {g : TG} {tt : TT} {te : TE} {k : Nat} {Q : VK} {Q' : Value → Shared → Prop}
    (hr : Room k X.A) (hc : X.calm = true) (hN : X.N.Nodup) (hd0 : (".0" : Str) ∉ X.N) (TB : TabB X.base X.mg c P) (hcode : X.env.code = .ref c) (gk : GenOk scope) (hi : PI X tg iter wi) (ok : BlkOk X.N X.env.scope scope own)
    (hb : ∀ (s : Shared) (H : Hp) (C : Addr) (code : Value) (fp : List Addr) (pn : List (Addr × Obj)), PG (X.gen s H scope (genEnv scope (cloFrom X.env.cells scope.names []) C code builtinsNs X.env) fp pn) tg g ∧ PTs (X.gen s H scope (genEnv scope (cloFrom X.env.cells scope.names []) C code builtinsNs X.env) fp pn) ifs tt ∧
      PE (X.gen s H scope (genEnv scope (cloFrom X.env.cells scope.names []) C code builtinsNs X.env) fp pn) elt te)
    (hs : ∀ v, genFold iter X.env v = pure v) (I : Inv X pins σ H s) (h : tGx b P wi g tt te (own.map (·.2)) σ H Q)
    (hQ : ∀ (a : Addr) (gn m : Nat) (fp : List Addr) (H3 : Hp) (s3 s5 : Shared) (gs : GenState), Inv X pins σ H3 s3 → (∀ b ∈ fp, FpOk X pins H3 b) → s5.heap.IsGen a gn → s5.heap.NoLimit → s5.gens[gn]? = some gs → s5.os = s3.os → AllBare s5.gens →
      gs.Goes (model X.prog X.w) X.A.in1.in1 (RB b X s3 H3 fp a gn Q) (YB b X s3 H3 fp a gn Q) m (.send .none) (s5.setGen gn .running) → Q' (.ref a) s5) :
    wpAny (model X.prog X.w) X.A (eval (.GeneratorExp elt [⟨tg, iter, ifs, 0⟩] scope gpos) X.env) Q' X.xe s := by
  have hfree : ∀ y ∈ scope.names, y.2 = .free → ∃ c, X.env.cells.lookup y.1 = some c := fun y hy e => by
    rcases ok.free y hy e with k | k
    · exact I.ok.has _ (.inl k)
    · exact I.ok.has _ (.inr k)
  refine wpAny_GeneratorExp_make gk.co (closure_ok hfree) gk.cell gk.dot ok.kind (by have := hr.dp; omega) (thn (hi.run pins s σ H _ I h) fun xv s1 h1 => thn h1 fun itv s2 h2 => ?_) hs
  obtain ⟨it, fp, tn, J, H2, rfl, I2, T, st2, f2, ⟨ps, hP, ht⟩, q⟩ := h2
  refine ⟨I2.nolimit, ?_⟩
  have hPs : s2.heap.get? P = some { cls := .none, data := .fields ps } := I2.hok P _ hP
  have cd : PySem.W.CodeHd s2.heap c P := TB.code.keeps fun b u e => I2.bk b u e
  have fpP : ∀ b ∈ fp, b ≠ P := fun b hb z => by
    have := (f2 b hb).1
    rw [z, hP] at this; cases this
  have cont : ∀ (code : Value) (h3 : Heap) (tk : Nat) (ps' : Array Value), Heap.ExtBut P s2.heap h3 → h3.get? P = some { cls := .none, data := .fields ps' } → (∃ more, ps' = ps ++ more) → TriplesOk ps'.toList →
      wpAny (model X.prog X.w) X.A (builtinsFor X.env.globals X.env.builtins) (fun bi s₄ => ∀ h', h'.Ns s₄.heap.objs.size (fun y => if y = ".0" then some (Value.ref it) else none) → Heap.SameBut s₄.heap.objs.size (s₄.heap.push { cls := .type "frame", data := .dict #[] }) h' →
          Q' (.ref h'.objs.size) { s₄ with
            gens := s₄.gens.push (.fresh (.compStart (.GeneratorExp elt [⟨tg, iter, ifs, 0⟩] scope gpos) 0 (.ref it) .none (genEnv scope (cloFrom X.env.cells scope.names []) s₄.heap.objs.size code bi X.env))),
            toks := s₄.toks + 1 + 1 + 1,
            heap := h'.push { cls := .type "generator", data := .fields #[.int s₄.gens.size 0, .str "<genexpr>" (s₄.toks + 1), .str (X.env.qual ++ "<genexpr>") (s₄.toks + 1 + 1)] } }) X.xe { s2 with heap := h3, toks := tk } := by
    intro code h3 tk ps' hx hP3 hmore ht3
    obtain ⟨more, rfl⟩ := hmore
    obtain ⟨bm, ob, e1, e2, e3, e4, e5, e6, e7, e8⟩ := TB.bm
    have keep3 : ∀ b u, b ≠ P → s2.heap.get? b = some u → h3.get? b = some u := fun b u hb e => hx b u hb e
    refine wpAny_builtinsFor (m := X.mg) (by rw [I2.ok.glob]; exact (I2.mod.glob.keeps I2.bk).extBut hx TB.gP) e1 e2 (keep3 _ _ e4 (I2.bk _ _ e5)) e6 e7 e8 ?_
    have I3 : Inv X pins σ (upd H2 P (.tbl (ps ++ more))) { s2 with heap := h3, toks := tk } := inv_tab (d' := s2.drawn) I2 hP keep3 hP3 I2.bare
    intro h' hn' hs'
    have hsz : h'.objs.size = h3.objs.size + 1 := by rw [hs'.1, Heap.size_push]
    have lt3 : ∀ b ∈ fp, b < h3.objs.size := fun b hb => by
      obtain ⟨o, e, _⟩ := T.obj _ _ st2 b hb
      exact Heap.lt_size (keep3 b o (fpP b hb) e)
    have f3 : ∀ b ∈ fp, FpOk X pins (upd H2 P (.tbl (ps ++ more))) b ∧ b < h3.objs.size := fun b hb => by
      refine ⟨⟨?_, (f2 b hb).2⟩, lt3 b hb⟩
      rw [upd_ne (fpP b hb)]
      exact (f2 b hb).1
    generalize hgo : ({ cls := .type "generator", data := .fields #[.int s2.gens.size 0, .str "<genexpr>" (tk + 1), .str (X.env.qual ++ "<genexpr>") (tk + 1 + 1)] } : Obj) = go
    have hgen : ∀ h : Heap, h.get? h'.objs.size = some go → h.IsGen h'.objs.size s2.gens.size := fun h e => ⟨go, _, _, e, by rw [← hgo], by rw [← hgo], by rw [← hgo]⟩
    have hgf : go.isFreed = false := by rw [← hgo]; rfl
    generalize hcenv : genEnv scope (cloFrom X.env.cells scope.names []) h3.objs.size code builtinsNs X.env = cenv
    have I4 : ∀ G : Array GenState, AllBare G → Inv (X.gen { s2 with heap := h3, toks := tk } (upd H2 P (.tbl (ps ++ more))) scope cenv fp [(h'.objs.size, go)]) [] (wipe σ (own.map (·.2))) (upd H2 P (.tbl (ps ++ more))) { s2 with gens := G, toks := tk + 1 + 1 + 1, heap := h'.push go } := fun G hG => by
      rw [← hcenv]
      exact gen_start (s := { s2 with heap := h3, toks := tk }) I3 ok gk hN hd0 f3 hn' hs' hG (fun v z => by rw [← hgo] at z; cases z) hgf
    have keep5 : ∀ b u, h3.get? b = some u → (h'.push go).get? b = some u := fun b u e => Heap.get?_push_of_some _ (hs'.extBut b u (Nat.ne_of_lt (Heap.lt_size e)) (Heap.get?_push_of_some _ e))
    have st5 : tn 0 (h'.push go) := T.keep _ _ _ st2 fun b hb o e => keep5 b o (keep3 b o (fpP b hb) e)
    obtain ⟨W, ⟨m0, w0⟩, turn⟩ := q (upd H2 P (.tbl (ps ++ more))) ⟨⟨ps ++ more, upd_same, ht3⟩, fun b hb => upd_ne hb⟩
    have hb5 : ∀ x : GenState, x.bare = true → AllBare (s2.gens.push x) := fun x hx => I2.bare.push hx
    refine hQ h'.objs.size s2.gens.size (m0 + 1) fp (upd H2 P (.tbl (ps ++ more))) { s2 with heap := h3, toks := tk } _ _ I3 (fun b hb => (f3 b hb).1) (hgen _ (Heap.get?_push_size _ hgf)) (I4 _ I2.bare).nolimit (Array.getElem?_push_size ..) rfl (hb5 _ rfl) ?_
    have hbC := hb { s2 with heap := h3, toks := tk } (upd H2 P (.tbl (ps ++ more))) h3.objs.size code fp [(h'.objs.size, go)]
    rw [hcenv] at hbC
    obtain ⟨pg, pt, pe⟩ := hbC
    have hco : cenv.scope.isCoroutine = false := by rw [← hcenv]; exact gk.co
    have hfa : ∀ p ∈ [(h'.objs.size, go)], ∀ b ∈ fp, p.1 ≠ b := fun p hp b hb z => by
      rw [List.mem_singleton.mp hp] at z
      have h1 : b < h3.objs.size := lt3 b hb
      have z' : h'.objs.size = b := z
      have h2 : h3.objs.size + 1 < h3.objs.size := by rw [← hsz, z']; exact h1
      exact absurd h2 (Nat.not_lt.mpr (Nat.le_succ _))
    refine ⟨rfl, ?_⟩
    refine seg_gen0 (i := 0) T st5 ?_
    refine seg_gen hc hco T pg pt pe hgen hfa turn m0 (m0 + 1) 0 _ _ _ (Nat.le_refl _) (I4 _ ?_) st5 (fun b hb => (f3 b hb).1.1) w0
    exact allBare_setGen (s := { s2 with gens := s2.gens.push _ }) (hb5 _ rfl) rfl
  cases hf : codeAmong gpos ps.toList with
  | none =>
    refine wpAny_genexprCodeX hcode (cd.code hPs ht) (cd.tab hPs) hf fun c' h' tk hx hge hlt hco' _ htab' _ => ?_
    obtain ⟨o1, vs, f1, tf, fl, tg, inF, tx, tt, op, _, _, _, _, _, _, _, _, _, htr, _⟩ := hco'
    exact cont _ h' tk _ hx htab'.2 ⟨_, rfl⟩ htr
  | some cv =>
    refine wpAny_genexprCode_hit hcode (cd.code hPs ht) hf ?_
    exact cont cv s2.heap s2.toks ps (Heap.ExtBut.refl _ _) hPs ⟨#[], by simp⟩ ht
theorem pe_gx {b : GB} {c P : Addr} {elt tg iter : Expr} {ifs : List Expr} {p gpos pos : Pos} {scope : Scope} {own : List (Str × Nat)} {wi : TI} {g : TG} {tt : TT} {te : TE} {k : Nat}
    (hr : Room k X.A) (hc : X.calm = true) (hN : X.N.Nodup) (hd0 : (".0" : Str) ∉ X.N) (hgl : Gl X (Str.ofString b.name)) (hm : X.mg (Str.ofString b.name) = none) (TB : TabB X.base X.mg c P) (hcode : X.env.code = .ref c) (gk : GenOk scope) (hi : PI X tg iter wi) (ok : BlkOk X.N X.env.scope scope own)
    (hb : ∀ (s : Shared) (H : Hp) (C : Addr) (code : Value) (fp : List Addr) (pn : List (Addr × Obj)), PG (X.gen s H scope (genEnv scope (cloFrom X.env.cells scope.names []) C code builtinsNs X.env) fp pn) tg g ∧ PTs (X.gen s H scope (genEnv scope (cloFrom X.env.cells scope.names []) C code builtinsNs X.env) fp pn) ifs tt ∧
      PE (X.gen s H scope (genEnv scope (cloFrom X.env.cells scope.names []) C code builtinsNs X.env) fp pn) elt te)
    (hs : ∀ v, genFold iter X.env v = pure v) :
    PE X (.Call (.Name (Str.ofString b.name) p) [.GeneratorExp elt [⟨tg, iter, ifs, 0⟩] scope gpos] [] pos) (tGx b P wi g tt te (own.map (·.2))) := by
  refine ⟨fun pins s σ H Q I h => ?_⟩
  refine wpAny_Call_Name_kw (ld_blt I hgl hm (boot_gb b) ?_ (by cases b <;> decide) (by cases b <;> decide))
  refine PyProof.Rows.callWith_builtin1 ?_ (by rfl) (by rfl)
  show wpAny _ _ (spliced ((false, eval (.GeneratorExp elt [⟨tg, iter, ifs, 0⟩] scope gpos) X.env) :: backTo pos (starEach [] X.env))) _ _ s
  refine Calls.spliced_cons (gen_go hr hc hN hd0 TB hcode gk hi ok hb hs I h fun a gn m fp H3 s3 s5 gs I3 f3 hg hl hgs hos hba hgo => ?_)
  refine Calls.spliced_nil ?_
  have fin : ∀ t H' s', s'.os = s3.os → AllBare s'.gens → Un (frs X.stack) fp H3 H' s3.heap s'.heap → HOk X.prog X.w H' s'.heap → Q (.bl t) H' → EP X pins σ Q (.bool t) s' := fun t H' s' os ba un hok q =>
    ⟨.bl t, H', I3.call' (ch := fp) os un hok ba fun b hb => ⟨(f3 b hb).2.2.2.1, (f3 b hb).2.1, (f3 b hb).2.2.2.2.1, (f3 b hb).2.2.2.2.2⟩, rfl, q⟩
  cases b with
  | all =>
    refine call_function_tree F.kind_all F.plain_all F.entry_all (F.args_all1 _) ?_
    unfold Builtin.«all»
    refine wpAny_bind (m := oneArg "all" _) (wpAny_pure ?_)
    refine wpAny_bind (wpAny_pyIter_gen hg ?_)
    exact wpAny_pure ⟨plainId_quiet F.plain_all_loop _, drainB (b := .all) hr.hd (by have := hr.dp; omega) (fun t H' s' os ba un hok q => fin t H' s' os ba un hok q) m s5 hg hl ⟨gs, hgs, hgo⟩⟩
  | any =>
    refine call_function_tree F.kind_any F.plain_any F.entry_any (F.args_any1 _) ?_
    unfold Builtin.«any»
    refine wpAny_bind (m := oneArg "any" _) (wpAny_pure ?_)
    refine wpAny_bind (wpAny_pyIter_gen hg ?_)
    exact wpAny_pure ⟨plainId_quiet F.plain_any_loop _, drainB (b := .any) hr.hd (by have := hr.dp; omega) (fun t H' s' os ba un hok q => fin t H' s' os ba un hok q) m s5 hg hl ⟨gs, hgs, hgo⟩⟩
end
end Den
set_option autoImplicit false
set_option maxRecDepth 100000
set_option maxHeartbeats 4000000
/-! Den, part Q: generator expressions, the rule. -/
namespace Den
open PySem PySem.Spec PyProof.Rows L2 GxR
section
variable {X : Cx} {c : Ct} {g : Gh} {σ σ1 : L2.St} {H H1 H2 : Hp} {ρ ρ1 ρ2 : Ev} {tg e iter elt : Expr} {ifs : List Expr} {pos : Pos} {da db de : M EV}
theorem ext_tab {P : Addr} {T : Addr → Prop} (h : Tabbed P H1 H2) (hP : ∃ ps, H1 P = some (.tbl ps)) : Ext T H1 T H2 := fun a o e n t => by
  obtain ⟨ps, hP⟩ := hP
  have hne : a ≠ P := fun z => by rw [z, hP] at e; exact n ps (Option.some.inj e).symm
  exact ⟨by rw [h.2 a hne]; exact e, t⟩
theorem Sim.tabbed {P : Addr} (s : Sim c g σ H1 ρ) (h : Tabbed P H1 H2) (hP : ∃ ps, H1 P = some (.tbl ps)) : Sim c g σ H2 ρ ∧ Stp c g σ H1 ρ (Tt g σ ρ) H2 ρ := by
  have x : Ext (Tt g σ ρ) H1 (Tt g σ ρ) H2 := ext_tab h hP
  obtain ⟨ps, hP⟩ := hP
  obtain ⟨⟨qs, hq, tq⟩, hb⟩ := h
  have dom : ∀ a, H1 a ≠ none → H2 a ≠ none := fun a z e => by
    by_cases q : a = P
    · rw [q, hq] at e; cases e
    · rw [hb a q] at e; exact z e
  refine ⟨⟨s.len, fun i d e => ?_, fun i p l ds e => ?_, s.inj, fun a e => s.new a ?_, fun a t => dom a (s.tcs a t), fun P' t => ?_, s.err⟩, ⟨x, fun a o _ e n => ?_, dom, fun _ _ _ h => h⟩⟩
  · obtain ⟨v, h1, h2⟩ := s.val i d e
    exact ⟨v, h1, h2.ext x⟩
  · obtain ⟨a, us, h1, h2, h3, h4⟩ := s.own i p l ds e
    exact ⟨a, us, h1, by rw [hb a (fun z => by rw [z, hP] at h2; cases h2)]; exact h2, h3.ext x, h4⟩
  · by_cases q : a = P
    · rw [q, hq] at e; cases e
    · rw [hb a q] at e; exact e
  · by_cases q : P' = P
    · rw [q]; exact ⟨qs, hq, tq⟩
    · obtain ⟨rs, h1, h2⟩ := s.tab P' t
      exact ⟨rs, by rw [hb P' q]; exact h1, h2⟩
  · exact (hb a (fun z => by rw [z, hP] at e; exact n ps (Option.some.inj e).symm)).trans e
theorem gx_go {b : GB} {P : Addr} {t : Tg} {dt : M Bool} {di : M (EV × List PyData)} {Q : VK} (hK : X.K = c.K) (hP : c.TB P) (h : tE c (bnd di (gxM b t dt (bnd de boolM))) σ H Q) : tGx b P (tI c di) (gTg X.K t) (tT c.nox dt) (tE c.nox de) t.vars σ H Q := by
  obtain ⟨g, ρ, s, k⟩ := h
  refine ⟨g, ρ, s, ?_⟩
  cases e1 : di ρ with
  | bad => rw [bnd_bad e1] at k; exact k
  | exc x ρ1 => rw [bnd_exc e1] at k; exact k
  | ok p ρ1 =>
    rw [bnd_ok e1] at k
    intro H1 J L G0 hL0 hloc hW
    have tabP := G0.sim.tab P hP
    refine ⟨tabP, fun H2 hT => ?_⟩
    have hPt : ∃ ps, H1 P = some (.tbl ps) := by obtain ⟨ps, h, _⟩ := tabP; exact ⟨ps, h⟩
    obtain ⟨sT, stT⟩ := G0.sim.tabbed hT hPt
    have k1 := Kont.step (G0.stp.trans stT) k
    unfold gxM at k1
    by_cases hpl : plainAt ρ1 t.vars = true
    · rw [if_pos hpl] at k1
      cases e2 : lock ρ1 p.1 with
      | none => rw [e2] at k1; exact k1.elim
      | some ρb =>
        rw [e2] at k1
        dsimp only at k1
        obtain ⟨GL, hlk⟩ := lock_good sT e2
        have hL : ∀ x ∈ L, Lk c g σ H2 ρb x := fun x hx => by
          have hx0 := hL0 ρb e2 x hx
          obtain ⟨v, ev, d⟩ := x
          cases ev with
          | fresh _ => exact hx0
          | val d' => exact ⟨hx0.1, hx0.2.ext (ext_tab hT hPt)⟩
          | loc i => exact hx0
        have plb : ∀ i ∈ t.vars, ∀ p l ds, ρb[i]? ≠ some (.own p l ds) := by
          intro i hi p' l ds z
          obtain ⟨sl, h1, h2⟩ := plainAt_no hpl i hi
          cases ev : p.1 with
          | val d => rw [ev] at e2; cases e2; rw [h1] at z; exact h2 p' l ds (Option.some.inj z)
          | fresh d => rw [ev] at e2; cases e2; rw [h1] at z; exact h2 p' l ds (Option.some.inj z)
          | loc j =>
            obtain ⟨q, ds', h3, h4⟩ := hlk j ev
            subst h4
            rcases set_get z with ⟨hj, _⟩ | ⟨_, z⟩
            · subst hj
              rw [h1] at h3
              exact h2 _ _ _ (Option.some.inj h3)
            · rw [h1] at z; exact h2 p' l ds (Option.some.inj z)
        cases e3 : gxL b t.vars t dt (bnd de boolM) p.2 (wipes ρb t.vars) with
        | bad => rw [e3] at k1; exact k1.elim
        | exc x ρ' => rw [e3] at k1; exact k1.elim
        | ok yy ρf =>
          rw [e3] at k1
          dsimp only at k1
          have lk_no : ∀ (i : Nat) (p : Bool) (ds : List PyData) {ρ1 : Ev}, ρb[i]? = some (.own p true ds) → ρ1[i]? = some (.own p true ds) → (wipes ρ1 t.vars)[i]? = some (.own p true ds) := fun i p ds ρ1 h1 h2 => by
            rw [wipes_out (fun z => plb i z p true ds h1)]
            exact h2
          have st0 : Stp c g σ H2 ρb (Tt g (wipe σ t.vars) (wipes ρb t.vars)) H2 (wipes ρb t.vars) := ⟨Ext.weak fun a z => tt_wipes z, fun _ _ _ h _ => h, fun _ h => h, fun i p ds h => lk_no i p ds h h⟩
          -- the end
          have fin : ∀ {H' : Hp}, Sim c g (wipe σ t.vars) H' (wipes ρf t.vars) → Stp c g σ H2 ρb (Tt g (wipe σ t.vars) (wipes ρf t.vars)) H' (wipes ρf t.vars) → Q (.bl yy) H' := by
            intro H' s1 cb
            have ll : ρ1.length = ρf.length := by
              have h1 := GL.sim.len
              have h2 := G0.sim.len
              have h3 := s1.len
              rw [wipe_length, wipes_len] at h3
              omega
            have tb : Tt g σ ρb = Tt g σ ρ1 := by
              cases ev : p.1 with
              | val d => rw [ev] at e2; cases e2; rfl
              | fresh d => rw [ev] at e2; cases e2; rfl
              | loc j =>
                obtain ⟨q, ds', h3, h4⟩ := hlk j ev
                rw [h4, tt_relock h3]
            have x1 : Ext (Tt g σ ρ1) H2 (Tt g (wipe σ t.vars) (wipes ρf t.vars)) H' := by
              rw [← tb]
              exact cb.ext
            obtain ⟨te, s5⟩ := s1.restore ll hpl (fun j hj d hd => by
              obtain ⟨v, q1, q2⟩ := sT.val j d hd
              exact ⟨v, q1, q2.ext x1⟩) fun j _ k e => sT.err j k e
            have st : ∀ {ρ4 : Ev}, (∀ (i : Nat) (p : Bool) (ds : List PyData), ρ1[i]? = some (.own p true ds) → (restore ρ1 ρf t.vars)[i]? = some (.own p true ds) → ρ4[i]? = some (.own p true ds)) → Stp c g σ H2 ρ1 (Tt g σ (restore ρ1 ρf t.vars)) H' ρ4 := fun {ρ4} hl => by
              rw [te]
              refine ⟨x1, cb.fr, cb.dom, fun i p ds h => hl i p ds h ?_⟩
              have h1 := cb.lk i p ds (GL.stp.lk i p ds h)
              obtain ⟨hj, h2⟩ := wipes_get h1 (fun z => by cases z)
              rw [restore_out hj]; exact h2
            have rs : Res c g σ H' (restore ρ1 ρf t.vars) (.bl yy) (.val (.bool yy)) := ⟨s5, rel_bl⟩
            cases ev : p.1 with
            | val d => rw [ev] at k1; exact k1 (.bl yy) H' ⟨rs, st fun _ _ _ _ h => h⟩
            | fresh d => rw [ev] at k1; exact k1 (.bl yy) H' ⟨rs, st fun _ _ _ _ h => h⟩
            | loc j =>
              rw [ev] at k1
              unfold unlockE at k1
              dsimp only at k1
              obtain ⟨q0, ds0, h0, _⟩ := hlk j ev
              cases e5 : (restore ρ1 ρf t.vars)[j]? with
              | none => rw [e5] at k1; exact k1.elim
              | some sl =>
                rw [e5] at k1
                cases sl with
                | no => exact k1.elim
                | err _ => exact k1.elim
                | val _ => exact k1.elim
                | own q l es =>
                  cases l
                  · exact k1.elim
                  · obtain ⟨rs', tr'⟩ := Res.relock (l' := false) rs e5
                    refine k1 (.bl yy) H' ⟨rs', ?_⟩
                    rw [tr']
                    refine st fun i p ds h h' => ?_
                    by_cases k : j = i
                    · subst k; rw [h0] at h; cases h
                    · rw [List.getElem?_set_ne k]; exact h'
          refine ⟨fun i m H' => m = p.2.length - i ∧ i ≤ p.2.length ∧ ∃ ρ', Sim c g (wipe σ t.vars) H' (wipes ρ' t.vars) ∧ Stp c g σ H2 ρb (Tt g (wipe σ t.vars) (wipes ρ' t.vars)) H' (wipes ρ' t.vars) ∧
              (∀ x ∈ L, Lk c g (wipe σ t.vars) H' (wipes ρ' t.vars) x) ∧ gxL b t.vars t dt (bnd de boolM) (p.2.drop i) ρ' = .ok yy ρf,
            ⟨p.2.length, by simp, Nat.zero_le _, wipes ρb t.vars, ?_⟩, ?_⟩
          · rw [wipes_wipes]
            exact ⟨GL.sim.wipes, st0, fun x hx => (hL x hx).wipes plb, by simpa using e3⟩
          rintro i m H' ⟨rfl, hi, ρ', s1, cb, hL', e4⟩
          obtain ⟨w1, w2⟩ := hW _ _ H' _ s1 hL' i
          by_cases hlt : i < p.2.length
          · obtain ⟨go, yld⟩ := w2 p.2[i] (List.getElem?_eq_getElem hlt)
            refine .inr ⟨go, fun H' => ∃ ρ', Sim c g (wipe σ t.vars) H' (wipes ρ' t.vars) ∧ Stp c g σ H2 ρb (Tt g (wipe σ t.vars) (wipes ρ' t.vars)) H' (wipes ρ' t.vars) ∧
              (∀ x ∈ L, Lk c g (wipe σ t.vars) H' (wipes ρ' t.vars) x) ∧ gxL b t.vars t dt (bnd de boolM) (p.2.drop (i + 1)) ρ' = .ok yy ρf, fun H' z => ⟨p.2.length - (i + 1), by omega, rfl, hlt, z⟩, fun x H2' y => ?_⟩
            have G1 := yld x H2' y
            rw [List.drop_eq_getElem_cons hlt] at e4
            unfold gxL at e4
            cases e5 : asgD (wipes ρ' t.vars) t p.2[i] with
            | none => rw [e5] at e4; cases e4
            | some ρa =>
              rw [e5] at e4
              dsimp only at e4
              rw [hK]
              refine tg_store G1.sim G1.res.2 e5 fun xs G2 => ?_
              have hws : wipe (setS (wipe σ t.vars) t.vars xs) t.vars = wipe σ t.vars := by rw [wipe_setS, wipe_wipe]
              refine ⟨hws, ?_⟩
              refine ⟨g, ρa, G2.sim.nox, ?_⟩
              have cb2 : Stp c g σ H2 ρb (Tt g (setS (wipe σ t.vars) t.vars xs) ρa) H2' ρa := (cb.trans2 G1.step).trans2 G2.stp
              have hL2 : ∀ x ∈ L, Lk c g (setS (wipe σ t.vars) t.vars xs) H2' ρa x := fun x hx => ((hL' x hx).step G1.s).step G2
              -- back at the block's start
              have home : ∀ {H3 : Hp} {ρc : Ev}, GoodX c g (setS (wipe σ t.vars) t.vars xs) H2' ρa H3 ρc → Sim c g (wipe σ t.vars) H3 (wipes ρc t.vars) ∧ Stp c g σ H2 ρb (Tt g (wipe σ t.vars) (wipes ρc t.vars)) H3 (wipes ρc t.vars) ∧ ∀ x ∈ L, Lk c g (wipe σ t.vars) H3 (wipes ρc t.vars) x := by
                intro H3 ρc G3
                have hL3 : ∀ x ∈ L, Lk c g (setS (wipe σ t.vars) t.vars xs) H3 ρc x := fun x hx => (hL2 x hx).step G3.s
                have sub : ∀ a, Tt g (wipe σ t.vars) (wipes ρc t.vars) a → Tt g (setS (wipe σ t.vars) t.vars xs) ρc a := fun a z => by rw [← hws] at z; exact tt_wipes z
                have s3 : Sim c g (wipe σ t.vars) H3 (wipes ρc t.vars) := by have := G3.sim.wipes (vs := t.vars); rw [hws] at this; exact this
                have cb3 := cb2.trans2 G3.stp
                refine ⟨s3, ⟨cb3.ext.trans (Ext.weak sub), cb3.fr, cb3.dom, fun i p ds h => lk_no i p ds h (cb3.lk i p ds h)⟩, fun x hx => ?_⟩
                have hx3 := hL3 x hx
                obtain ⟨v, ev, d⟩ := x
                cases ev with
                | fresh _ => exact hx3
                | val d' => exact ⟨hx3.1, hx3.2.ext (Ext.weak sub)⟩
                | loc j =>
                  obtain ⟨pj, dsj, ej, h1, h2⟩ := hL _ hx
                  have hj : j ∉ t.vars := fun z => plb j z pj true dsj h1
                  obtain ⟨pk, dsk, ek, h3, h4⟩ := hx3
                  refine ⟨pk, dsk, ek, by rw [wipes_out hj]; exact h3, ?_⟩
                  rw [wipe_out hj]; exact h2
              cases e6 : dt ρa with
              | bad => rw [e6] at e4; cases e4
              | exc x ρ' => rw [e6] at e4; cases e4
              | ok tv ρc =>
                rw [e6] at e4
                intro H3 G3'
                have G3 := G3'.yox
                cases tv with
                | false =>
                  rw [if_neg Bool.false_ne_true]
                  obtain ⟨z1, z2, z3⟩ := home G3
                  exact ⟨ρc, z1, z2, z3, e4⟩
                | true =>
                  rw [if_pos rfl]
                  dsimp only at e4
                  refine ⟨g, ρc, G3.sim.nox, ?_⟩
                  cases e7 : de ρc with
                  | bad => rw [bnd_bad e7] at e4; cases e4
                  | exc x ρ' => rw [bnd_exc e7] at e4; cases e4
                  | ok ev ρd =>
                    rw [bnd_ok e7] at e4
                    intro y H4 G4'
                    have G4 := G4'.yox
                    have G5 : GoodX c g (setS (wipe σ t.vars) t.vars xs) H2' ρa H4 ρd := ⟨G4.sim, G3.stp.trans G4.step⟩
                    obtain ⟨z1, z2, z3⟩ := home G5
                    cases ev with
                    | loc _ => cases e4
                    | fresh _ => cases e4
                    | val d =>
                      cases d <;> first | (cases e4; done) | skip
                      rename_i tt
                      have hy : y = .bl tt := by
                        have := G4.res.2
                        unfold Rel at this
                        exact this
                      subst hy
                      have e4' : (if tt = b.stop then R.ok tt ρd else gxL b t.vars t dt (bnd de boolM) (p.2.drop (i + 1)) ρd) = .ok yy ρf := e4
                      refine ⟨tt, rfl, fun h => ?_, fun h => ?_⟩
                      · rw [if_pos h] at e4'
                        cases e4'
                        exact fin z1 z2
                      · rw [if_neg h] at e4'
                        exact ⟨ρd, z1, z2, z3, e4'⟩
          · refine .inl ⟨w1 (by omega), ?_⟩
            have hd : p.2.drop i = [] := List.drop_eq_nil_of_le (by omega)
            rw [hd] at e4
            cases e4
            exact fin s1 cb
    · rw [if_neg hpl] at k1; exact k1.elim
theorem r_gx {b : GB} {cc P : Addr} {p gpos : Pos} {t : Tg} {dt : M Bool} {di : M (EV × List PyData)} {scope : Scope} {own : List (Str × Nat)} {k : Nat} (hK : X.K = c.K) (hr : Room k X.A) (hc : X.calm = true) (hN : X.N.Nodup) (hd0 : (".0" : Str) ∉ X.N) (hgl : Gl X (Str.ofString b.name)) (hm : X.mg (Str.ofString b.name) = none)
    (TB : TabB X.base X.mg cc P) (hP : c.TB P) (hcode : X.env.code = .ref cc) (gk : GenOk scope) (hi : PI X tg iter (tI c di)) (ok : BlkOk X.N X.env.scope scope own) (ho : own.map (·.2) = t.vars)
    (hb : ∀ (s : Shared) (H : Hp) (C : Addr) (code : Value) (fp : List Addr) (pn : List (Addr × Obj)), TgM (X.gen s H scope (genEnv scope (cloFrom X.env.cells scope.names []) C code builtinsNs X.env) fp pn) tg t ∧ PTs (X.gen s H scope (genEnv scope (cloFrom X.env.cells scope.names []) C code builtinsNs X.env) fp pn) ifs (tT c.nox dt) ∧
      PE (X.gen s H scope (genEnv scope (cloFrom X.env.cells scope.names []) C code builtinsNs X.env) fp pn) elt (tE c.nox de))
    (hs : ∀ v, genFold iter X.env v = pure v) :
    PE X (.Call (.Name (Str.ofString b.name) p) [.GeneratorExp elt [⟨tg, iter, ifs, 0⟩] scope gpos] [] pos) (tE c (bnd di (gxM b t dt (bnd de boolM)))) := by
  refine (pe_gx (g := gTg X.K t) hr hc hN hd0 hgl hm TB hcode gk hi ok (fun s H C code fp pn => ⟨TgM.pg (X := X.gen s H scope (genEnv scope (cloFrom X.env.cells scope.names []) C code builtinsNs X.env) fp pn) hc hN (hb s H C code fp pn).1, (hb s H C code fp pn).2⟩) hs).weak fun σ H Q h => ?_
  rw [ho]
  exact gx_go hK hP h
end
end Den
set_option autoImplicit false
set_option maxRecDepth 100000
set_option maxHeartbeats 4000000
/-! Den, part R: defs. -/
namespace Den
open PySem PySem.Spec PyProof.Rows L2 GxR
theorem outs_at : ∀ {as ρ as' : List Sl}, outs as ρ = some as' → as'.length = as.length ∧ as.length ≤ ρ.length ∧ ∀ (k : Nat) (a : Sl), as[k]? = some a →
    ((∃ p l ds ds', a = .own p l ds ∧ ρ[k]? = some (.own true false ds') ∧ as'[k]? = some (.own true false ds')) ∨ ((∀ p l ds, a ≠ .own p l ds) ∧ as'[k]? = some a))
  | [], ρ, as', h => by cases h; exact ⟨rfl, Nat.zero_le _, fun k a e => by cases e⟩
  | .own p l ds :: as, [], as', h => by simp [outs] at h
  | .no :: as, [], as', h => by simp [outs] at h
  | .val d :: as, [], as', h => by simp [outs] at h
  | .err d :: as, [], as', h => by simp [outs] at h
  | .own p l ds :: as, .no :: ρ, as', h => by simp [outs] at h
  | .own p l ds :: as, .val _ :: ρ, as', h => by simp [outs] at h
  | .own p l ds :: as, .err _ :: ρ, as', h => by simp [outs] at h
  | .own p l ds :: as, .own q m fs :: ρ, as', h => by
    cases q
    · simp [outs] at h
    · cases m
      · have h' : (outs as ρ).map (Sl.own true false fs :: ·) = some as' := h
        cases e : outs as ρ with
        | none => rw [e] at h'; cases h'
        | some bs =>
          rw [e] at h'
          cases h'
          obtain ⟨h1, h2, h3⟩ := outs_at e
          refine ⟨by simp [h1], by simp [h2], fun k a ea => ?_⟩
          cases k with
          | zero => cases ea; exact .inl ⟨p, l, ds, fs, rfl, rfl, rfl⟩
          | succ k => exact h3 k a ea
      · simp [outs] at h
  | .no :: as, b :: ρ, as', h => by
    have h' : (outs as ρ).map (Sl.no :: ·) = some as' := by
      cases b <;> exact h
    cases e : outs as ρ with
    | none => rw [e] at h'; cases h'
    | some bs =>
      rw [e] at h'
      cases h'
      obtain ⟨h1, h2, h3⟩ := outs_at e
      refine ⟨by simp [h1], by simp [h2], fun k a ea => ?_⟩
      cases k with
      | zero => cases ea; exact .inr ⟨(fun _ _ _ z => nomatch z), rfl⟩
      | succ k => exact h3 k a ea
  | .val d :: as, b :: ρ, as', h => by
    have h' : (outs as ρ).map (Sl.val d :: ·) = some as' := by
      cases b <;> exact h
    cases e : outs as ρ with
    | none => rw [e] at h'; cases h'
    | some bs =>
      rw [e] at h'
      cases h'
      obtain ⟨h1, h2, h3⟩ := outs_at e
      refine ⟨by simp [h1], by simp [h2], fun k a ea => ?_⟩
      cases k with
      | zero => cases ea; exact .inr ⟨(fun _ _ _ z => nomatch z), rfl⟩
      | succ k => exact h3 k a ea
  | .err d :: as, b :: ρ, as', h => by
    have h' : (outs as ρ).map (Sl.err d :: ·) = some as' := by
      cases b <;> exact h
    cases e : outs as ρ with
    | none => rw [e] at h'; cases h'
    | some bs =>
      rw [e] at h'
      cases h'
      obtain ⟨h1, h2, h3⟩ := outs_at e
      refine ⟨by simp [h1], by simp [h2], fun k a ea => ?_⟩
      cases k with
      | zero => cases ea; exact .inr ⟨(fun _ _ _ z => nomatch z), rfl⟩
      | succ k => exact h3 k a ea
theorem outs_nw {as ρ as' : List Sl} (av : Av as) (h : outs as ρ = some as') : NwO as as' := by
  intro k p l ds e
  obtain ⟨h1, h2, h3⟩ := outs_at h
  obtain ⟨a, ea⟩ := lt_get (l := as) (i := k) (by have := get_lt e; omega)
  rcases h3 k a ea with ⟨p', l', ds', ds'', rfl, _, e2⟩ | ⟨n, e2⟩
  · obtain ⟨rfl, rfl⟩ := av k p' l' ds' ea
    rw [e] at e2; cases e2
    exact ⟨ds', ea⟩
  · rw [e] at e2; cases e2
    exact absurd rfl (n p l ds)
/-- behind a body's end -/
def retR (as : List Sl) : SR → FR
  | .nx ρ => match outs as ρ with
      | some as' => .ok (.val .none) as'
      | none => .bad
  | .rt v ρ => match v with
      | .val d => match outs as ρ with
        | some as' => .ok (.val d) as'
        | none => .bad
      | .fresh ds => match outs as ρ with
        | some as' => .ok (.fresh ds) as'
        | none => .bad
      | .loc i => match ρ[i]? with
        | some (.own false false ds) => match outs as ρ with
          | some as' => .ok (.fresh ds) as'
          | none => .bad
        | _ => .bad
  | .ex c ρ => match outs as ρ with
      | some as' => .exc c as'
      | none => .bad
  | _ => .bad
theorem runF_eq {Γ : Fns} {C : List PyData} {f : Fd} {as : List Sl} (h : as.length = f.np ∧ f.np ≤ f.ns) : runF Γ C f as = retR as (evB Γ C f.body (as ++ List.replicate (f.ns - f.np) .no)) := by
  unfold runF
  rw [if_pos h]
  rfl
theorem runF_bad {Γ : Fns} {C : List PyData} {f : Fd} {as : List Sl} (h : ¬ (as.length = f.np ∧ f.np ≤ f.ns)) : runF Γ C f as = .bad := by
  unfold runF
  rw [if_neg h]
theorem retR_ok {as as' : List Sl} {r : SR} {ev : EV} (h : retR as r = .ok ev as') : (∀ i, ev ≠ .loc i) ∧ ∃ ρ, outs as ρ = some as' := by
  cases r with
  | nx ρ =>
    simp only [retR] at h
    split at h
    · cases h; exact ⟨(fun _ z => nomatch z), ρ, by assumption⟩
    · cases h
  | rt v ρ =>
    cases v with
    | val d =>
      simp only [retR] at h
      split at h
      · cases h; exact ⟨(fun _ z => nomatch z), ρ, by assumption⟩
      · cases h
    | fresh d =>
      simp only [retR] at h
      split at h
      · cases h; exact ⟨(fun _ z => nomatch z), ρ, by assumption⟩
      · cases h
    | loc i =>
      simp only [retR] at h
      split at h
      · split at h
        · cases h; exact ⟨(fun _ z => nomatch z), ρ, by assumption⟩
        · cases h
      · cases h
  | bk ρ => cases h
  | ct ρ => cases h
  | bad => cases h
  | ex c ρ =>
    simp only [retR] at h
    split at h <;> cases h
theorem retR_exc {as as' : List Sl} {r : SR} {k : Nat} (h : retR as r = .exc k as') : ∃ ρ, outs as ρ = some as' := by
  cases r with
  | nx ρ =>
    simp only [retR] at h
    split at h <;> cases h
  | rt v ρ =>
    cases v with
    | val d =>
      simp only [retR] at h
      split at h <;> cases h
    | fresh d =>
      simp only [retR] at h
      split at h <;> cases h
    | loc i =>
      simp only [retR] at h
      split at h
      · split at h <;> cases h
      · cases h
  | bk ρ => cases h
  | ct ρ => cases h
  | bad => cases h
  | ex c ρ =>
    simp only [retR] at h
    split at h
    · cases h; exact ⟨ρ, by assumption⟩
    · cases h
theorem runF_wf {Γ : Fns} {C : List PyData} {f : Fd} : WfF f.np (runF Γ C f) := by
  refine ⟨fun as h => ?_, fun as ev as' av h => ?_, fun as k as' av h => ?_⟩
  · by_cases q : as.length = f.np ∧ f.np ≤ f.ns
    · exact q.1
    · exact absurd (runF_bad q) h
  · by_cases q : as.length = f.np ∧ f.np ≤ f.ns
    · rw [runF_eq q] at h
      obtain ⟨h1, ρ, h2⟩ := retR_ok h
      exact ⟨h1, outs_nw av h2⟩
    · rw [runF_bad q] at h; cases h
  · by_cases q : as.length = f.np ∧ f.np ≤ f.ns
    · rw [runF_eq q] at h
      obtain ⟨ρ, h2⟩ := retR_exc h
      exact outs_nw av h2
    · rw [runF_bad q] at h; cases h
section
variable {c : Ct} {g : Gh} {H H1 : Hp} {σ1 : L2.St} {vs : List V} {as as' : List Sl} {ρ1 : Ev} {T1 E E' : Addr → Prop}
/-- the handed-in slots with the frame's other ones -/
theorem own_pad {n m : Nat} (hl : vs.length = as.length) (a : Addr) : Own (vs.map some ++ List.replicate n none) (as ++ List.replicate m .no) a ↔ Own (vs.map some) as a := by
  constructor
  · rintro ⟨i, p, l, ds, e1, e2⟩
    by_cases hi : i < as.length
    · rw [List.getElem?_append_left hi] at e1
      rw [List.getElem?_append_left (by simpa [hl] using hi)] at e2
      exact ⟨i, p, l, ds, e1, e2⟩
    · rw [List.getElem?_append_right (by omega), List.getElem?_replicate] at e1
      split at e1 <;> cases e1
  · rintro ⟨i, p, l, ds, e1, e2⟩
    have hi := get_lt e1
    exact ⟨i, p, l, ds, by rw [List.getElem?_append_left hi]; exact e1, by rw [List.getElem?_append_left (by simpa [hl] using hi)]; exact e2⟩
theorem tt_pad {n m : Nat} (hl : vs.length = as.length) : Tt g (vs.map some ++ List.replicate n none) (as ++ List.replicate m .no) = Tt g (vs.map some) as := by
  funext a
  apply propext
  show (g.Tc a ∨ _) ↔ (g.Tc a ∨ _)
  rw [own_pad hl]
theorem Sim.pad {n m : Nat} (s : Sim c g (vs.map some) H as) (hn : n = m) : Sim c g (vs.map some ++ List.replicate n none) H (as ++ List.replicate m .no) := by
  have hl : vs.length = as.length := by have := s.len; simpa using this
  have te := tt_pad (g := g) (n := n) (m := m) hl
  have left : ∀ {i : Nat} {sl : Sl}, (as ++ List.replicate m .no)[i]? = some sl → sl ≠ .no → as[i]? = some sl ∧ i < (vs.map some).length := fun {i sl} e h => by
    by_cases hi : i < as.length
    · rw [List.getElem?_append_left hi] at e
      exact ⟨e, by simpa [hl] using hi⟩
    · rw [List.getElem?_append_right (by omega), List.getElem?_replicate] at e
      split at e
      · cases e; exact absurd rfl h
      · cases e
  refine ⟨by simp [hl, hn], fun i d e => ?_, fun i p l ds e => ?_, fun i j p l ds p' l' ds' a e e' e1 e2 => ?_, s.new, s.tcs, s.tab, fun i k e => ?_⟩
  · obtain ⟨h1, h2⟩ := left e (fun z => by cases z)
    obtain ⟨v, q1, q2⟩ := s.val i d h1
    rw [te]
    exact ⟨v, by rw [List.getElem?_append_left h2]; exact q1, q2⟩
  · obtain ⟨h1, h2⟩ := left e (fun z => by cases z)
    obtain ⟨a, us, q1, q2⟩ := s.own i p l ds h1
    rw [te]
    exact ⟨a, us, by rw [List.getElem?_append_left h2]; exact q1, q2⟩
  · obtain ⟨h1, h2⟩ := left e (fun z => by cases z)
    obtain ⟨h3, h4⟩ := left e' (fun z => by cases z)
    rw [List.getElem?_append_left h2] at e1
    rw [List.getElem?_append_left h4] at e2
    exact s.inj i j p l ds p' l' ds' a h1 h3 e1 e2
  · obtain ⟨h1, h2⟩ := left e (fun z => by cases z)
    obtain ⟨a, q1, q2⟩ := s.err i k h1
    exact ⟨a, q1, by rw [List.getElem?_append_left h2]; exact q2⟩
/-- behind a def's body, as its caller sees it -/
theorem out_sim (s0 : Sim c g (vs.map some) H as) (av : Av as) (s1 : Sim c (g.ex E) σ1 H1 ρ1) (x : Ext (Tt g (vs.map some) as) H (Tt (g.ex E) σ1 ρ1) H1) (dom : ∀ a, H a ≠ none → H1 a ≠ none)
    (h : outs as ρ1 = some as') (hE : ∀ a, E' a → Tt (g.ex E) σ1 ρ1 a ∧ H1 a ≠ none) :
    Sim c (g.ex E') (vs.map some) H1 as' ∧ (∀ a, Tt (g.ex E') (vs.map some) as' a → Tt (g.ex E) σ1 ρ1 a) ∧ ∀ a, Own (vs.map some) as' a → ∃ (i : Nat) (ds : List PyData), ρ1[i]? = some (.own true false ds) ∧ σ1[i]? = some (some (.ref a)) := by
  obtain ⟨h1, h2, h3⟩ := outs_at h
  have own_at : ∀ {i : Nat} {p l : Bool} {ds : List PyData}, as'[i]? = some (.own p l ds) → p = true ∧ l = false ∧ ρ1[i]? = some (.own true false ds) ∧ ∃ ds0, as[i]? = some (.own true false ds0) := fun {i p l ds} e => by
    obtain ⟨a, ea⟩ := lt_get (l := as) (i := i) (by have := get_lt e; omega)
    rcases h3 i a ea with ⟨p', l', ds', ds'', rfl, e1, e2⟩ | ⟨n, e2⟩
    · obtain ⟨rfl, rfl⟩ := av i p' l' ds' ea
      rw [e] at e2; cases e2
      exact ⟨rfl, rfl, e1, ds', ea⟩
    · rw [e] at e2; cases e2
      exact absurd rfl (n p l ds)
  -- the same address
  have addr : ∀ {i : Nat} {p l : Bool} {ds : List PyData}, as'[i]? = some (.own p l ds) → ∃ a us, (vs.map some)[i]? = some (some (.ref a)) ∧ σ1[i]? = some (some (.ref a)) ∧ H1 a = some (.lst us) ∧ RelL c.K (Tt (g.ex E) σ1 ρ1) H1 us ds ∧ g.My a ∧ a = g.pa i := fun {i p l ds} e => by
    obtain ⟨_, _, e1, ds0, e2⟩ := own_at e
    obtain ⟨a, us, q1, q2, q3, q4, q5, _⟩ := s0.own i true false ds0 e2
    obtain ⟨a1, us1, r1, r2, r3, r4, r5, _⟩ := s1.own i true false ds e1
    have ea : a1 = a := (r5 rfl).trans (q5 rfl).symm
    subst ea
    exact ⟨a1, us1, q1, r1, r2, r3, q4, q5 rfl⟩
  have sub : ∀ a, Tt (g.ex E') (vs.map some) as' a → Tt (g.ex E) σ1 ρ1 a := by
    rintro a ((t | t) | ⟨i, p, l, ds, e1, e2⟩)
    · exact .inl (.inl t)
    · exact (hE a t).1
    · obtain ⟨_, _, e3, _⟩ := own_at e1
      obtain ⟨b, us, q1, q2, _⟩ := addr e1
      rw [e2] at q1; cases q1
      exact .inr ⟨i, true, false, ds, e3, q2⟩
  have w : Ext (Tt (g.ex E) σ1 ρ1) H1 (Tt (g.ex E') (vs.map some) as') H1 := Ext.weak sub
  refine ⟨⟨by rw [h1]; exact s0.len, fun i d e => ?_, fun i p l ds e => ?_, fun i j p l ds p' l' ds' a e e' e1 e2 => ?_, s1.new, fun a t => ?_, s1.tab, fun i k e => ?_⟩, sub, ?_⟩
  · obtain ⟨a, ea⟩ := lt_get (l := as) (i := i) (by have := get_lt e; omega)
    rcases h3 i a ea with ⟨p', l', ds', ds'', rfl, e1, e2⟩ | ⟨n, e2⟩
    · rw [e] at e2; cases e2
    · rw [e] at e2; cases e2
      obtain ⟨v, q1, q2⟩ := s0.val i d ea
      exact ⟨v, q1, (q2.ext x).ext w⟩
  · obtain ⟨hp, hl, _⟩ := own_at e
    subst hp hl
    obtain ⟨a, us, q1, q2, q3, q4, q5, q6⟩ := addr e
    exact ⟨a, us, q1, q3, q4.ext w, q5, fun _ => q6, fun z => (Bool.false_ne_true z.symm).elim⟩
  · obtain ⟨_, _, _, ds0, e3⟩ := own_at e
    obtain ⟨_, _, _, ds1, e4⟩ := own_at e'
    exact s0.inj i j _ _ _ _ _ _ a e3 e4 e1 e2
  · rcases t with t | t
    · exact dom a (s0.tcs a t)
    · exact (hE a t).2
  · obtain ⟨a, ea⟩ := lt_get (l := as) (i := i) (by have := get_lt e; omega)
    rcases h3 i a ea with ⟨p', l', ds', ds'', rfl, e1, e2⟩ | ⟨n, e2⟩
    · rw [e] at e2; cases e2
    · rw [e] at e2; cases e2
      exact s0.err i k ea
  · rintro a ⟨i, p, l, ds, e1, e2⟩
    obtain ⟨_, _, e3, _⟩ := own_at e1
    obtain ⟨b, us, q1, q2, _⟩ := addr e1
    rw [e2] at q1; cases q1
    exact ⟨i, ds, e3, q2⟩
theorem fn_body {Γ : Fns} {C : List PyData} {f : Fd} {n : Nat} {Q : VK} {X : XK} (hns : n = f.ns - f.np) (h : spF c f.np (runF Γ C f) vs H Q X) :
    tS { c with W := fun cls d _ H' => X cls d H' } (evB Γ C f.body) { nx := fun _ H' => Q .non H', rt := Q } (vs.map some ++ List.replicate n none) H := by
  obtain ⟨hv, g, as, av, s, k⟩ := h
  have hl : vs.length = as.length := by have := s.len; simpa using this
  by_cases q : as.length = f.np ∧ f.np ≤ f.ns
  · rw [runF_eq q] at k
    have sp := s.pad (n := n) (m := f.ns - f.np) hns
    have sp' : Sim { c with W := fun cls d _ H' => X cls d H' } g (vs.map some ++ List.replicate n none) H (as ++ List.replicate (f.ns - f.np) .no) := ⟨sp.len, sp.val, sp.own, sp.inj, sp.new, sp.tcs, sp.tab, sp.err⟩
    have te := tt_pad (g := g) (n := n) (m := f.ns - f.np) hl
    refine ⟨g, _, sp', ?_⟩
    -- back
    have lkn : ∀ {as' : List Sl} (i : Nat) (p : Bool) (ds : List PyData), as[i]? = some (.own p true ds) → as'[i]? = some (.own p true ds) := fun i p ds e => by
      have := (av i p true ds e).2
      cases this
    have outX : ∀ {σ1 : L2.St} {H1 : Hp} {ρ1 : Ev} {as' : List Sl}, Sim { c with W := fun cls d _ H' => X cls d H' } g σ1 H1 ρ1 → Stp { c with W := fun cls d _ H' => X cls d H' } g (vs.map some ++ List.replicate n none) H (as ++ List.replicate (f.ns - f.np) .no) (Tt g σ1 ρ1) H1 ρ1 → outs as ρ1 = some as' →
        Sim c g (vs.map some) H1 as' ∧ Stp c g (vs.map some) H as (Tt g (vs.map some) as') H1 as' ∧ ∀ a, Tt g (vs.map some) as' a → Tt g σ1 ρ1 a := by
      intro σ1 H1 ρ1 as' s1 st ho
      have s1' : Sim c g σ1 H1 ρ1 := ⟨s1.len, s1.val, s1.own, s1.inj, s1.new, s1.tcs, s1.tab, s1.err⟩
      have x := st.ext
      rw [te] at x
      obtain ⟨z1, z2, _⟩ := out_sim (E := fun _ => False) (E' := fun _ => False) s av (by rw [Gh.ex_no]; exact s1') (by rw [Gh.ex_no]; exact x) st.dom ho fun a z => z.elim
      rw [Gh.ex_no] at z1 z2
      exact ⟨z1, ⟨x.trans (Ext.weak z2), st.fr, st.dom, lkn⟩, z2⟩
    cases e1 : evB Γ C f.body (as ++ List.replicate (f.ns - f.np) .no) with
    | bad => rw [e1] at k; exact k
    | bk ρ1 => rw [e1] at k; exact k.elim
    | ct ρ1 => rw [e1] at k; exact k.elim
    | nx ρ1 =>
      rw [e1] at k
      intro σ1 H1 G
      simp only [retR] at k
      cases e2 : outs as ρ1 with
      | none => rw [e2] at k; exact k.elim
      | some as' =>
        rw [e2] at k
        obtain ⟨z1, z2, z3⟩ := outX G.sim G.stp e2
        exact k.2.2 .non H1 ⟨⟨z1, rel_non⟩, z2⟩
    | ex x ρ1 =>
      rw [e1] at k
      intro σ1 H1 G
      simp only [retR] at k
      cases e2 : outs as ρ1 with
      | none => rw [e2] at k; exact k.elim
      | some as' =>
        rw [e2] at k
        obtain ⟨z1, z2, z3⟩ := outX G.sim G.stp e2
        exact k.2 H1 ⟨z1, z2⟩
    | rt ev ρ1 =>
      rw [e1] at k
      intro σ1 v H1 G
      cases ev with
      | val d =>
        simp only [retR] at k
        cases e2 : outs as ρ1 with
        | none => rw [e2] at k; exact k.elim
        | some as' =>
          rw [e2] at k
          obtain ⟨z1, z2, z3⟩ := outX G.res.1 G.stp e2
          exact k.2.2 v H1 ⟨⟨z1, Rel.ext (Ext.weak z3) G.res.2⟩, z2⟩
      | fresh ds =>
        simp only [retR] at k
        cases e2 : outs as ρ1 with
        | none => rw [e2] at k; exact k.elim
        | some as' =>
          rw [e2] at k
          obtain ⟨a, us, rfl, s1, ha, hr, nt, my⟩ := G.res
          have st := G.stp
          rw [tr_fresh] at st
          have s1' : Sim c (g.ex fun x => x = a) σ1 H1 ρ1 := ⟨s1.len, s1.val, s1.own, s1.inj, s1.new, s1.tcs, s1.tab, s1.err⟩
          have x := st.ext
          rw [te] at x
          have ea : Tt (g.plus a) σ1 ρ1 = Tt (g.ex fun x => x = a) σ1 ρ1 := rfl
          rw [ea] at x
          obtain ⟨z1, z2, z3⟩ := out_sim (E := fun x => x = a) (E' := fun x => x = a) s av s1' x st.dom e2 fun b z => ⟨.inl (.inr z), by rw [z, ha]; simp⟩
          have na : ¬ Tt g (vs.map some) as' a := by
            rintro (t | t)
            · exact nt (.inl t)
            · obtain ⟨i, ds', q1, q2⟩ := z3 a t
              exact nt (.inr ⟨i, true, false, ds', q1, q2⟩)
          refine k.2.2 (.ref a) H1 ⟨⟨a, us, rfl, z1, ha, hr.ext (Ext.weak z2), na, my⟩, ?_⟩
          rw [tr_fresh]
          exact ⟨x.trans (Ext.weak z2), st.fr, st.dom, lkn⟩
      | loc i =>
        simp only [retR] at k
        obtain ⟨s1, e3⟩ := G.res
        cases e4 : ρ1[i]? with
        | none => rw [e4] at k; exact k.elim
        | some sl =>
          rw [e4] at k
          cases sl with
          | no => exact k.elim
          | err _ => exact k.elim
          | val _ => exact k.elim
          | own p l ds =>
            cases p <;> cases l <;> first | exact k.elim | skip
            dsimp only at k
            cases e2 : outs as ρ1 with
            | none => rw [e2] at k; exact k.elim
            | some as' =>
              rw [e2] at k
              obtain ⟨a, us, h1, h2, h3, h4, _, h6⟩ := s1.own i false false ds e4
              rw [e3] at h1; cases h1
              have s1' : Sim c (g.ex fun _ => False) σ1 H1 ρ1 := by rw [Gh.ex_no]; exact ⟨s1.len, s1.val, s1.own, s1.inj, s1.new, s1.tcs, s1.tab, s1.err⟩
              have st := G.stp
              have st' : Stp { c with W := fun cls d _ H' => X cls d H' } g (vs.map some ++ List.replicate n none) H (as ++ List.replicate (f.ns - f.np) .no) (Tt g σ1 ρ1) H1 ρ1 := st
              have x := st'.ext
              rw [te] at x
              have ta : Tt g σ1 ρ1 a := .inr ⟨i, false, false, ds, e4, e3⟩
              obtain ⟨z1, z2, z3⟩ := out_sim (E := fun _ => False) (E' := fun x => x = a) s av s1' (by rw [Gh.ex_no]; exact x) st'.dom e2 fun b z => ⟨by rw [Gh.ex_no, z]; exact ta, by rw [z, h2]; simp⟩
              rw [Gh.ex_no] at z2
              have na : ¬ Tt g (vs.map some) as' a := by
                rintro (t | t)
                · exact h6 rfl t
                · obtain ⟨j, ds', q1, q2⟩ := z3 a t
                  have := s1.inj i j false false ds true false ds' a e4 q1 e3 q2
                  subst this
                  rw [e4] at q1; cases q1
              refine k.2.2 (.ref a) H1 ⟨⟨a, us, rfl, z1, h2, RelL.ext (Ext.weak z2) h3, na, h4⟩, ?_⟩
              rw [tr_fresh]
              exact ⟨x.trans (Ext.weak z2), st'.fr, st'.dom, lkn⟩
  · rw [runF_bad q] at k; exact k.elim
end
end Den
set_option autoImplicit false
set_option maxRecDepth 100000
set_option maxHeartbeats 4000000
/-! Den, part Ha: walks' ends where an exception is handled. -/
namespace Den
open PySem PySem.Spec PyProof.Rows L2 GxR HotX
section
variable {prog : Program} {w : World} {A : Around} {E : Value → Shared → Prop} {s : Shared}
/-- StopIteration made and raised amid a handled exception -/
theorem stop_hot {x1 it : Addr} {f : Obj → Obj} {o : Obj} {P : Value → Shared → Prop} (hot : HotAt A x1 s.heap) (ho : s.heap.get? it = some o) (hd : ∃ a b, o.data = .fields #[a, b])
    (hP : ∀ h' y, Heap.ExtBut it s.heap h' → (∃ oy, h'.get? y = some oy ∧ oy.cls = .type "StopIteration") → P (.ref y) { s with heap := h' }) {α : Type} {Q : α → Shared → Prop} :
    wpAny (model prog w) A ((newExc (.type "StopIteration") [] >>= fun e => raiseNew e) : Sem α) Q P { s with heap := s.heap.update it f } := by
  obtain ⟨hh, o1, vs1, h1, d1, c1⟩ := hot
  have ne : it ≠ x1 := fun z => by
    subst z
    obtain ⟨a, b, hd⟩ := hd
    rw [ho] at h1; cases h1
    rw [hd] at d1; cases d1
    simp at c1
  have k1 : (s.heap.update it f).get? x1 = some o1 := by rw [Heap.get?_update_other _ _ ne]; exact h1
  refine wpAny_bind ?_
  simp only [newExc, newTuple]
  refine wpAny_bind (wpAny_newObj_type ?_ (by size_fits))
  refine wpAny_bind (m := firstArgMember _ _) (wpAny_of_eq (a := Value.none) (by first | rfl | (simp only [firstArgMember]; rfl)) ?_)
  refine wpAny_newObj_type ?_ (by size_fits)
  refine raiseNew_hot ⟨hh, o1, vs1, Heap.get?_push_of_some _ (Heap.get?_push_of_some _ k1), d1, c1⟩ (Nat.ne_of_lt (Heap.lt_size (Heap.get?_push_of_some _ k1))) (Heap.get?_push_size _ rfl) rfl (by first | (simp; done) | (simp; omega) | (simp only [Array.size_append]; simp; omega)) ?_
  refine hP _ _ (fun b o' hb e => ?_) ⟨_, Heap.get?_update_self _ (Heap.get?_push_size _ rfl) rfl, rfl⟩
  have kb : (s.heap.update it f).get? b = some o' := by rw [Heap.get?_update_other _ _ (Ne.symm hb)]; exact e
  rw [Heap.get?_update_other _ _ (Nat.ne_of_gt (Heap.lt_size (Heap.get?_push_of_some _ kb)))]
  exact Heap.get?_push_of_some _ (Heap.get?_push_of_some _ kb)
theorem listEnd_hot {it l x1 : Addr} {i : Nat} {items : Array Value} {Q : Option Value → Shared → Prop} (hot : HotAt A x1 s.heap) (hit : s.heap.IsListIter it l i) (hl : s.heap.IsList l items) (hx : items[i]? = none)
    (hQ : ∀ h', Heap.ExtBut it s.heap h' → Q none { s with heap := h' }) : wpAny (model prog w) A (pyNext (.ref it)) Q E s := by
  obtain ⟨o, ho, hc, hd⟩ := id hit
  obtain ⟨ol, hol, _, nl, hdl⟩ := hl
  unfold pyNext
  refine wpAny_bind (wpAny_attempt (wpAny_callSpecial?_slot (name := Str.ofString "__next__") hit.typeIs slot_listiter_next
    (wpAny_call_entry slot_listiter_next hit.typeIs entry_listiter_next ?_ (args_listiter_next _))))
  show wpAny _ _ (field (.ref it) 0 >>= _) _ _ s
  refine wpAny_bind (wpAny_field ho hd (x := .ref l) rfl ?_)
  show wpAny _ _ (if (Value.ref l == Value.none) = true then _ else _) _ _ s
  rw [if_neg (show ¬ ((Value.ref l == Value.none) = true) from Bool.false_ne_true)]
  show wpAny _ _ (field (.ref it) 1 >>= _) _ _ s
  refine wpAny_bind (wpAny_field ho hd (x := .int i 0) rfl ?_)
  show wpAny _ _ (seqItems? (.ref l) >>= _) _ _ s
  refine wpAny_bind (wpAny_seqItems hol hdl ?_)
  simp only [Int.toNat_natCast, hx]
  refine wpAny_bind (wpAny_rule (wpAny_bind (wpAny_setField ho hd (by simp) ?_)))
  refine stop_hot (A := A.in1) hot ho ⟨_, _, hd⟩ fun h' y hk hy => ?_
  obtain ⟨oy, e1, e2⟩ := hy
  refine wpAny_bind (wpAny_isInstance (T := "StopIteration") (b := true) ⟨_, e1, e2⟩ isSubtype_stop ?_)
  exact wpAny_pure (hQ _ hk)
theorem tupEnd_hot {it l x1 : Addr} {i : Nat} {items : Array Value} {Q : Option Value → Shared → Prop} (hot : HotAt A x1 s.heap) (hit : s.heap.IsTupleIter it l i) (hl : s.heap.IsTuple l items) (hx : items[i]? = none)
    (hQ : ∀ h', Heap.ExtBut it s.heap h' → Q none { s with heap := h' }) : wpAny (model prog w) A (pyNext (.ref it)) Q E s := by
  obtain ⟨o, ho, hc, hd⟩ := id hit
  obtain ⟨ol, hol, _, nl, hdl⟩ := hl
  unfold pyNext
  refine wpAny_bind (wpAny_attempt (wpAny_callSpecial?_slot (name := Str.ofString "__next__") hit.typeIs F.slot_tuple_iterator_next
    (wpAny_call_entry F.slot_tuple_iterator_next hit.typeIs F.entry_tuple_iterator_next ?_ (F.args_tuple_iterator_next_1 _))))
  show wpAny _ _ (field (.ref it) 0 >>= _) _ _ s
  refine wpAny_bind (wpAny_field ho hd (x := .ref l) rfl ?_)
  show wpAny _ _ (if (Value.ref l == Value.none) = true then _ else _) _ _ s
  rw [if_neg (show ¬ ((Value.ref l == Value.none) = true) from Bool.false_ne_true)]
  show wpAny _ _ (field (.ref it) 1 >>= _) _ _ s
  refine wpAny_bind (wpAny_field ho hd (x := .int i 0) rfl ?_)
  show wpAny _ _ (seqItems? (.ref l) >>= _) _ _ s
  refine wpAny_bind (wpAny_seqItems hol hdl ?_)
  simp only [Int.toNat_natCast, hx]
  refine wpAny_bind (wpAny_rule (wpAny_bind (wpAny_setField ho hd (by simp) ?_)))
  refine stop_hot (A := A.in1) hot ho ⟨_, _, hd⟩ fun h' y hk hy => ?_
  obtain ⟨oy, e1, e2⟩ := hy
  refine wpAny_bind (wpAny_isInstance (T := "StopIteration") (b := true) ⟨_, e1, e2⟩ isSubtype_stop ?_)
  exact wpAny_pure (hQ _ hk)
end
end Den
set_option autoImplicit false
set_option maxRecDepth 100000
set_option maxHeartbeats 4000000
/-! Den, part Hb: list comprehensions where an exception is handled. -/
namespace Den
open PySem PySem.Spec PyProof.Rows L2 GxR HotX
abbrev Pin := Addr × Obj
theorem hot_at {X : Cx} {pins : List Pin} {σ : L2.St} {H : Hp} {s : Shared} {p : Pin} (hot : L2H.Hot1 X.A p) (hp : p ∈ X.pn ++ pins) (I : Inv X pins σ H s) : HotAt X.A p.1 s.heap := by
  obtain ⟨hh, vs, e1, e2⟩ := hot
  exact ⟨hh, p.2, vs, (I.pin p hp).1, e1, e2⟩
structure TurnP (p : Pin) (P : Program) (w : World) (K : Fg) (tg : Expr) (J : It) (it : Addr) (tn : Nat → Heap → Prop) : Prop where
  obj : ∀ i h, tn i h → ∃ o, h.get? it = some o ∧ ∀ v, o.data ≠ .cell v
  keep : ∀ i h h', tn i h → (∀ o, h.get? it = some o → h'.get? it = some o) → tn i h'
  item : ∀ (X : Cx), X.prog = P → X.w = w → X.K = K → ∀ (i : Nat) (pins : List Pin) (s : Shared) (σ : L2.St) (H : Hp) (E : Value → Shared → Prop), Inv X pins σ H s → FpOk X pins H it → tn i s.heap → J.go i H →
    wpAny (model P w) X.A (pyNext (.ref it)) (fun r s1 => ∃ u, r = some u ∧
      wpAny (model P w) X.A (letOwnedTupleGo tg (.ref it) u) (fun _ s2 => ∃ x H', Inv X pins σ H' s2 ∧ RelV x u ∧ J.yld i H x H' ∧ tn (i + 1) s2.heap ∧ H' it = none) E s1) E s
  done : ∀ (X : Cx), X.prog = P → X.w = w → X.K = K → L2H.Hot1 X.A p → ∀ (i : Nat) (pins : List Pin) (s : Shared) (σ : L2.St) (H : Hp) (E : Value → Shared → Prop), p ∈ X.pn ++ pins → Inv X pins σ H s → FpOk X pins H it → tn i s.heap → J.stop i H →
    wpAny (model P w) X.A (pyNext (.ref it)) (fun r s1 => r = none ∧ Inv X pins σ H s1) E s
  self : ∀ (A : Around) (i : Nat) (s : Shared) (Q : Value → Shared → Prop) (E : Value → Shared → Prop), tn i s.heap → Q (.ref it) s → wpAny (model P w) A (pyIter (.ref it)) Q E s
theorem turnP_list {p : Pin} {P : Program} {w : World} {K : Fg} {tg : Expr} (a it : Addr) : TurnP p P w K tg (Itl K a) it (fun i h => h.IsListIter it a i) where
  obj := fun i h st => by
    obtain ⟨o, e, c, d⟩ := st
    exact ⟨o, e, fun v z => by rw [d] at z; cases z⟩
  keep := fun i h h' st k => st.at k
  item := by
    intro X hP hw hK i pins s σ H E I hf st hg
    subst hP hw hK
    obtain ⟨xs, x, hq, hx⟩ := hg
    obtain ⟨its, rv, pl, hz⟩ := I.list hq
    obtain ⟨u, hu, ru⟩ := rv.get hx
    obtain ⟨f0, f1, f2, f3, f4, f5⟩ := hf
    refine wpAny_pyNext_list_item st pl.isList (x := u) (by simpa using hu) fun h' st' sb => ?_
    have I1 : Inv X pins σ H { s with heap := h' } := I.turned (t' := s.toks) (fun b o hb e => (sb.2 b hb).trans e) f0 f1 f3 f4 f5
    obtain ⟨o, e, c, d⟩ := id st'
    exact ⟨u, rfl, go_of (s := { s with heap := h' }) e c d (by decide) ⟨x, H, I1, ru, ⟨rfl, fun ys hy => by rw [I.list_inj hy hq]; exact hx⟩, st', f0⟩⟩
  done := by
    intro X hP hw hK hot i pins s σ H E hp I hf st hg
    subst hP hw hK
    obtain ⟨xs, hq, hx⟩ := hg
    obtain ⟨its, rv, pl, hz⟩ := I.list hq
    obtain ⟨f0, f1, f2, f3, f4, f5⟩ := hf
    have hl := rv.length
    exact listEnd_hot (hot_at hot hp I) st pl.isList (by simp; omega) fun h' eb => ⟨rfl, I.turned (t' := s.toks) (fun b o hb e => eb b o hb e) f0 f1 f3 f4 f5⟩
  self := fun _ _ _ _ _ st h => wpAny_pyIter_listiter st h
theorem turnP_tuple {p : Pin} {P : Program} {w : World} {K : Fg} {tg : Expr} (a it : Addr) : TurnP p P w K tg (Itt K a) it (fun i h => h.IsTupleIter it a i) where
  obj := fun i h st => by
    obtain ⟨o, e, c, d⟩ := st
    exact ⟨o, e, fun v z => by rw [d] at z; cases z⟩
  keep := fun i h h' st k => st.at k
  item := by
    intro X hP hw hK i pins s σ H E I hf st hg
    subst hP hw hK
    obtain ⟨xs, x, hq, hx⟩ := hg
    obtain ⟨its, rv, pl, hz⟩ := I.tuple hq
    obtain ⟨u, hu, ru⟩ := rv.get hx
    obtain ⟨f0, f1, f2, f3, f4, f5⟩ := hf
    refine wpAny_pyNext_tuple_item st (show s.heap.IsTuple a its.toArray from pl) (x := u) (by simpa using hu) fun h' st' sb => ?_
    have I1 : Inv X pins σ H { s with heap := h' } := I.turned (t' := s.toks) (fun b o hb e => (sb.2 b hb).trans e) f0 f1 f3 f4 f5
    obtain ⟨o, e, c, d⟩ := id st'
    exact ⟨u, rfl, go_of (s := { s with heap := h' }) e c d (by decide) ⟨x, H, I1, ru, ⟨rfl, fun ys hy => by rw [I.tuple_inj hy hq]; exact hx⟩, st', f0⟩⟩
  done := by
    intro X hP hw hK hot i pins s σ H E hp I hf st hg
    subst hP hw hK
    obtain ⟨xs, hq, hx⟩ := hg
    obtain ⟨its, rv, pl, hz⟩ := I.tuple hq
    obtain ⟨f0, f1, f2, f3, f4, f5⟩ := hf
    have hl := rv.length
    exact tupEnd_hot (hot_at hot hp I) st (show s.heap.IsTuple a its.toArray from pl) (by simp; omega) fun h' eb => ⟨rfl, I.turned (t' := s.toks) (fun b o hb e => eb b o hb e) f0 f1 f3 f4 f5⟩
  self := fun _ _ _ _ _ st h => wpAny_pyIter_tupleiter st h
/-- an iterator has come -/
def PIEp (p : Pin) (X : Cx) (pins : List Pin) (σ : L2.St) (tg : Expr) (R : It → Hp → Prop) (itv : Value) (s2 : Shared) : Prop :=
  ∃ (it : Addr) (tn : Nat → Heap → Prop) (J : It) (H' : Hp), itv = .ref it ∧ Inv X pins σ H' s2 ∧ TurnP p X.prog X.w X.K tg J it tn ∧ tn 0 s2.heap ∧ FpOk X pins H' it ∧ R J H'
structure PIp (p : Pin) (X : Cx) (tg iter : Expr) (wi : TI) : Prop where
  run : ∀ (pins : List Pin) (s : Shared) (σ : L2.St) (H : Hp) (R : It → Hp → Prop), Inv X pins σ H s → wi σ H R →
    wpAny (model X.prog X.w) X.A (eval iter X.env) (fun v s1 => wpAny (model X.prog X.w) X.A (pyIter v) (PIEp p X pins σ tg R) X.xe s1) X.xe s
theorem PIp.weak {p : Pin} {X : Cx} {tg e : Expr} {t t' : TI} (h : PIp p X tg e t) (w : ∀ σ H Q, t' σ H Q → t σ H Q) : PIp p X tg e t' := ⟨fun pins s σ H Q I q => h.run pins s σ H Q I (w σ H Q q)⟩
def iSeq (K : Fg) (tl : TE) : TI := fun σ H R => tl σ H fun x H1 => (∃ a, x = .ref a ∧ (∃ xs, SqL K H1 a xs) ∧ R (Itl K a) H1) ∨ ∃ a, x = .ref a ∧ (∃ xs, SqT K H1 a xs) ∧ R (Itt K a) H1
theorem pip_seq {p : Pin} {X : Cx} {tg l : Expr} {tl : TE} (hl : PE X l tl) : PIp p X tg l (iSeq X.K tl) := by
  refine ⟨fun pins s σ H R I h => ?_⟩
  refine thn (hl.run pins s σ H _ I h) fun v s1 ⟨x, H1, I1, r1, q1⟩ => ?_
  have fr : FpOk X pins H1 s1.heap.objs.size := I1.fpOk (Nat.le_refl _) (I1.hok.fresh (Nat.le_refl _))
  rcases q1 with ⟨a, e, ⟨xs, hq⟩, q⟩ | ⟨a, e, ⟨xs, hq⟩, q⟩
  · subst e
    cases r1
    obtain ⟨its, rv, pl, hz⟩ := I1.list hq
    refine wpAny_pyIter_list pl.isList ?_
    exact ⟨s1.heap.objs.size, _, _, H1, rfl, I1.kept (t' := s1.toks) fun b o e => Heap.get?_push_of_some _ e, turnP_list a _, ⟨_, Heap.get?_push_size _ rfl, rfl, rfl⟩, fr, q⟩
  · subst e
    cases r1
    obtain ⟨its, rv, pl, hz⟩ := I1.tuple hq
    refine wpAny_pyIter_tuple (show s1.heap.IsTuple a its.toArray from pl) ?_
    exact ⟨s1.heap.objs.size, _, _, H1, rfl, I1.kept (t' := s1.toks) fun b o e => Heap.get?_push_of_some _ e, turnP_tuple a _, ⟨_, Heap.get?_push_size _ rfl, rfl, rfl⟩, fr, q⟩
/-- a target's store amid a handled exception -/
structure PGp (p : Pin) (X : Cx) (tg : Expr) (t : TG) : Prop where
  run : ∀ (pins : List Pin) (s : Shared) (σ : L2.St) (H : Hp) (v : V) (u : Value) (Q : L2.St → Hp → Prop), p ∈ X.pn ++ pins → Inv X pins σ H s → RelV v u → t v σ H Q →
    wpAny (model X.prog X.w) X.A (assign tg X.env u) (fun _ s' => ∃ σ' H', Inv X pins σ' H' s' ∧ Q σ' H') X.xe s
theorem PGp.of {p : Pin} {X : Cx} {tg : Expr} {t : TG} (h : PG X tg t) : PGp p X tg t := ⟨fun pins s σ H v u Q _ I r hw => h.run pins s σ H v u Q I r hw⟩
section
variable {X : Cx} {p : Pin} {pos : Pos}
theorem unpackH {prog : Program} {w : World} {A : Around} {E : Value → Shared → Prop} {s : Shared} {t x1 : Addr} {items : Array Value} {targets : List (Bool × (Value → Sem Unit))} {Q : Unit → Shared → Prop} (hot : HotAt A x1 s.heap) (ht : s.heap.IsTuple t items)
    (hn : targets.length = items.size) (hstar : targets.findIdx? (·.1) = none)
    (h : ∀ h', Heap.ExtBut s.heap.objs.size s.heap h' → wpAny (model prog w) A (assignInOrder (targets.map (·.2)) items.toList) Q E { s with heap := h' }) : wpAny (model prog w) A (unpack (.ref t) targets) Q E s := by
  have hlt : t ≠ s.heap.objs.size := by obtain ⟨o, ho, _⟩ := ht; exact Nat.ne_of_lt (Heap.lt_size ho)
  have hx1 : x1 < s.heap.objs.size := by obtain ⟨_, o, _, ho, _⟩ := hot; exact Heap.lt_size ho
  unfold unpack
  rw [hn, hstar]
  refine wpAny_bind (wpAny_holding ?_)
  unfold unpackItems
  refine wpAny_bind ?_
  unfold notIterableAtAll
  refine wpAny_bind (wpAny_specialOf ht.typeIs slot_tuple_iter.lookup ?_)
  refine wpAny_pure ?_
  simp only [Bool.false_eq_true, if_false]
  refine wpAny_bind (wpAny_holding (wpAny_pyIter_tuple ht ?_))
  refine wpAny_bind (wpAny_holding (wpAny_draw_tuple hlt items.size 0 _ _ ⟨_, Heap.get?_push_size _ rfl, rfl, rfl⟩ (ht.push _) (by omega) fun h₁ hit₁ hs₁ => ?_))
  have hall : List.take items.size (List.drop 0 items.toList) = items.toList := by
    rw [List.drop_zero]; exact List.take_of_length_le (by simp)
  rw [hall]
  rw [if_neg (by simp)]
  have ht₁ : h₁.IsTuple t items := (ht.push _).extBut hs₁.extBut hlt
  have hot₁ : HotAt A x1 h₁ := by
    obtain ⟨hh, o, vs, e1, e2, e3⟩ := hot
    exact ⟨hh, o, vs, hs₁.extBut x1 o (Nat.ne_of_lt hx1) (Heap.get?_push_of_some _ e1), e2, e3⟩
  refine wpAny_bind (wpAny_holding (tupEnd_hot (s := { s with heap := h₁ }) hot₁ hit₁ ht₁ (by simp) fun h₂ he₂ => ?_))
  simp only [Option.isSome_none, Bool.false_eq_true, if_false]
  exact wpAny_pure (h h₂ fun b o hb e => he₂ b o hb (hs₁.extBut b o hb (Heap.get?_push_of_some _ e)))
theorem pgp_tup {es : List Expr} {k : Nat} {t : TGs} {n : Nat} (hot : L2H.Hot1 X.A p) (h : PGs X es t) (hn : (assignEach es X.env).length = n) (hst : (assignEach es X.env).findIdx? (·.1) = none) : PGp p X (.Tuple es k pos) (gTup X.K n t) := by
  refine ⟨fun pins s σ H v u Q hp I r hw => ?_⟩
  obtain ⟨a, xs, e1, hq, hl, hw⟩ := hw
  subst e1
  cases r
  obtain ⟨its, rv, ht, hz⟩ := I.tuple hq
  rw [PyProof.Rows.assign_Tuple]
  refine wpAny_bind (wpAny_standAt (unpackH (hot_at hot hp I) (show s.heap.IsTuple a its.toArray from ht) (by simp [hn, ← hl, rv.length]) hst fun h' hx => ?_))
  have I1 : Inv X pins σ H { s with heap := h' } := I.kept (t' := s.toks) fun b o e => hx b o (Nat.ne_of_lt (Heap.lt_size e)) e
  exact h.run pins _ σ H xs _ Q I1 (by simpa using rv) hw
end
end Den
set_option autoImplicit false
set_option maxRecDepth 100000
set_option maxHeartbeats 4000000
/-! Den, part Hc: a list comprehension where an exception is handled. -/
namespace Den
open PySem PySem.Spec PyProof.Rows L2 GxR HotX
section
variable {X : Cx} {p : Pin}
theorem lcH_core {pins : List Pin} {s : Shared} {σ : L2.St} {H : Hp} {Q : VK} {elt tg iter : Expr} {ifs : List Expr} {scope : Scope} {own : List (Str × Nat)} {pos pos' : Pos} {wi : TI} {g : TG} {tt : TT} {te : TE} {use : Option (Value → Sem Unit)} {Qf : Value → Shared → Prop}
    (hot : L2H.Hot1 X.A p) (hp : p ∈ X.pn ++ pins) (hN : X.N.Nodup) (I : Inv X pins σ H s) (hi : PIp p X tg iter wi) (ok : BlkOk X.N X.env.scope scope own)
    (hg : ∀ (s : Shared) (H : Hp) (C : Addr) (cl : List (Str × Addr)) (fp : List Addr), PGp p (X.blk s H scope (compEnvC scope cl C X.env) fp) tg g) (ht : ∀ (s : Shared) (H : Hp) (C : Addr) (cl : List (Str × Addr)) (fp : List Addr), PTs (X.blk s H scope (compEnvC scope cl C X.env) fp) ifs tt)
    (he : ∀ (s : Shared) (H : Hp) (C : Addr) (cl : List (Str × Addr)) (fp : List Addr), PE (X.blk s H scope (compEnvC scope cl C X.env) fp) elt te) (hs : ∀ x, foldedSetIterable iter X.env x = pure x)
    (h : tLc wi g tt te (own.map (·.2)) σ H Q)
    (hRR : ∀ D C s' m H', Inv X pins σ H' s' → Q (.ref D) H' → s'.heap.Ns C m → FpOk X pins H' C → compPost (model X.prog X.w) X.A X.xe use Qf (.ref D) C (.ok .next) s') :
    wpAny (model X.prog X.w) X.A (comprehension (.ListComp elt [⟨tg, iter, ifs, 0⟩] scope pos) scope X.env pos' (newList []) false (eval iter X.env) use) Qf X.xe s := by
  have hfree : ∀ y ∈ scope.names, y.2 = .free → ∃ c, X.env.cells.lookup y.1 = some c := fun y hy e => by
    rcases ok.free y hy e with k | k
    · exact I.ok.has _ (.inl k)
    · exact I.ok.has _ (.inr k)
  refine wpAny_comprehension_free (use := use) rfl hs (closure_ok hfree) ok.kind (fun y hy e => by rw [ok.uniq y hy, e])
    (thn (hi.run pins s σ H _ I h) fun xv s1 hx => thn hx fun itv s2 h2 => ?_)
  obtain ⟨it, tn, J, H2, e, I2, T, st2, f2, q⟩ := h2
  subst e
  refine wpAny_newObj_type (newEnv_comp ?_) (by show 0 ≤ sizeLine; decide)
  generalize hD : s2.heap.objs.size = D
  have hDn : H2 D = none := I2.hok.fresh (Nat.le_of_eq hD)
  obtain ⟨W, ⟨m0, w0⟩, turn⟩ := q D hDn
  generalize hs3 : ({ s2 with heap := s2.heap.push { cls := .type "list", data := .seq ([] : List Value).toArray } } : Shared) = s3
  have I3 : Inv X pins σ (upd H2 D (.lst [])) s3 := by
    rw [← hs3]
    refine I2.laid (t' := s2.toks) (fun b o e => Heap.get?_push_of_some _ e) (Nat.le_of_eq hD) ⟨Nat.zero_le _, [], 0, .nil, ?_⟩
    rw [← hD]
    exact Heap.get?_push_size _ rfl
  have h3 : s3.heap = s2.heap.push { cls := .type "list", data := .seq ([] : List Value).toArray } := by rw [← hs3]
  have itlt : it < s2.heap.objs.size := by
    obtain ⟨o, e, _⟩ := T.obj _ _ st2
    exact Heap.lt_size e
  have f3 : ∀ b ∈ [it], FpOk X pins (upd H2 D (.lst [])) b ∧ b < s3.heap.objs.size := fun b hb => by
    have e : b = it := by simpa using hb
    subst e
    refine ⟨⟨?_, f2.2⟩, by rw [h3, Heap.size_push]; exact Nat.lt_succ_of_lt itlt⟩
    rw [upd_ne (by rw [← hD]; exact Nat.ne_of_lt itlt)]
    exact f2.1
  have st3 : tn 0 s3.heap := T.keep _ _ _ st2 fun o e => by rw [h3]; exact Heap.get?_push_of_some _ e
  have I4 := block_start I3 ok hN f3
  have P3 := I3.pin p hp
  have npi : p.1 ≠ it := f2.2.2.2.2.2 p hp
  have pg := hg s3 (upd H2 D (.lst [])) s3.heap.objs.size (cellsFrom (s3.heap.objs.size + 1) scope.names (cloFrom X.env.cells scope.names [])) [it]
  have pt := ht s3 (upd H2 D (.lst [])) s3.heap.objs.size (cellsFrom (s3.heap.objs.size + 1) scope.names (cloFrom X.env.cells scope.names [])) [it]
  have pe := he s3 (upd H2 D (.lst [])) s3.heap.objs.size (cellsFrom (s3.heap.objs.size + 1) scope.names (cloFrom X.env.cells scope.names [])) [it]
  show codeAny _ _ (.compStart (.ListComp elt [⟨tg, iter, ifs, 0⟩] scope pos) 0 (.ref it) (.ref D) (compEnvC scope (cellsFrom (s3.heap.objs.size + 1) scope.names (cloFrom X.env.cells scope.names [])) s3.heap.objs.size X.env)) (compPost (model X.prog X.w) X.A X.xe use Qf (.ref D) s3.heap.objs.size) { s3 with heap := pushCells (s3.heap.push { cls := .type "dict", data := .dict #[] }) scope.names }
  have nit : (upd H2 D (.lst [])) it = none := (f3 it (by simp)).1.1
  have kp4 : ∀ b o, s3.heap.get? b = some o → (pushCells (s3.heap.push { cls := .type "dict", data := .dict #[] }) scope.names).get? b = some o := fun b o e => pushCells_keeps _ _ _ _ (Heap.get?_push_of_some _ e)
  generalize hce : compEnvC scope (cellsFrom (s3.heap.objs.size + 1) scope.names (cloFrom X.env.cells scope.names [])) s3.heap.objs.size X.env = ce at I4 pg pt pe ⊢
  have cL : ce.locals = s3.heap.objs.size := by subst hce; rfl
  generalize hH3 : upd H2 D (.lst []) = H3 at I3 I4 pg pt pe w0 nit f3 P3
  generalize hs4 : ({ s3 with heap := pushCells (s3.heap.push { cls := .type "dict", data := .dict #[] }) scope.names } : Shared) = s4 at I4 ⊢
  have k4 : ∀ b o, s3.heap.get? b = some o → s4.heap.get? b = some o := fun b o e => by rw [← hs4]; exact kp4 b o e
  have st4 : tn 0 s4.heap := T.keep _ _ _ st3 fun o e => k4 _ _ e
  have I4p : Inv (X.blk s3 H3 scope ce [it]) [p] (wipe σ (own.map (·.2))) H3 s4 := I4.pins_of fun q hq => by
    have e : q = p := by simpa using hq
    subst e
    refine ⟨k4 _ _ P3.1, P3.2.1, ?_, fun hm => ?_, P3.2.2.2.2⟩
    · show q.1 ≠ ce.locals
      rw [cL]; exact Nat.ne_of_lt (Heap.lt_size P3.1)
    · exact (List.mem_cons.mp (I3.stkSub q.1 hm)).elim P3.2.2.1 P3.2.2.2.1
  have stat : ∀ {σ' : L2.St} {H' : Hp} {s' : Shared}, Inv (X.blk s3 H3 scope ce [it]) [p] σ' H' s' → H' it = none → FpOk (X.blk s3 H3 scope ce [it]) [p] H' it := fun {σ' H' s'} I' hn =>
    ⟨hn, (I'.ok.exf it (by simp)).1, I'.ok.exfs it (by simp), .inl (by simp), fun x c e => (I'.ok.exf it (by simp)).2 x c e, fun q hq => by
      have e : q = p := by simpa using hq
      rw [e]; exact npi⟩
  have hpb : p ∈ (X.blk s3 H3 scope ce [it]).pn ++ [p] := List.mem_append_right _ (by simp)
  have loop : codeAny (model X.prog X.w) X.A (.compLoop (.ListComp elt [⟨tg, iter, ifs, 0⟩] scope pos) 0 (.ref it) (.ref D) ce) (compPost (model X.prog X.w) X.A X.xe use Qf (.ref D) s3.heap.objs.size) s4 := by
    refine compLoop_any (fun n s' => ∃ i H', Inv (X.blk s3 H3 scope ce [it]) [p] (wipe σ (own.map (·.2))) H' s' ∧ tn i s'.heap ∧ H' it = none ∧ W i n H') ?_ m0 ⟨0, H3, I4p, st4, nit, w0⟩
    rintro n s5 ⟨i, H5, I5, st5, n5, w5⟩
    rcases turn i n H5 w5 with ⟨stop, qq⟩ | ⟨go, Nx, hNx, step⟩
    · have td := T.done (X.blk s3 H3 scope ce [it]) rfl rfl rfl hot i [p] s5 _ H5 (fun _ _ => False) hpb I5 (stat I5 n5) st5 stop
      refine thnF td fun r s6 ⟨hr, I6⟩ => ?_
      subst hr
      have I7 : Inv X pins σ H5 s6 := I3.call' (ch := [it]) I6.os I6.base I6.hok I6.bare fun b hb => ⟨(f3 b hb).1.2.2.2.1, (f3 b hb).1.2.1, (f3 b hb).1.2.2.2.2.1, (f3 b hb).1.2.2.2.2.2⟩
      have nC : H5 s3.heap.objs.size = none := by
        have z : H5 ce.locals = none := I6.free
        rw [cL] at z
        exact z
      obtain ⟨m, hn, _⟩ := I6.loc
      have hn : s6.heap.Ns ce.locals m := hn
      rw [cL] at hn
      exact hRR D s3.heap.objs.size s6 m H5 I7 qq hn (I3.fpOk (Nat.le_refl _) nC)
    · have ti := T.item (X.blk s3 H3 scope ce [it]) rfl rfl rfl i [p] s5 _ H5 (fun _ _ => False) I5 (stat I5 n5) st5 go
      refine thnF ti fun r s6 ⟨u, hr, h6⟩ => ?_
      subst hr
      refine thnF h6 fun _ s7 ⟨x, H7, I7, r7, y7, st7, n7⟩ => ?_
      have I7' : Inv (X.blk s3 H3 scope ce [it]) ([p] ++ pinsAt [it] s7.heap) _ H7 s7 := I7.pinned (fun b hb => by
        have e : b = it := by simpa using hb
        subst e; exact stat I7 n7) (fun b hb => by
        have e : b = it := by simpa using hb
        subst e; exact T.obj _ _ st7)
      refine thnF (pg.run _ s7 _ H7 x u _ (List.mem_append_right _ (List.mem_append_left _ (by simp))) I7' r7 (step x H7 y7)) fun _ s8 ⟨σ8, H8, I8, hw8, q8⟩ => ?_
      refine thnF (pt.run _ s8 σ8 H8 _ I8 q8) fun b s9 ⟨H9, I9, q9⟩ => ?_
      have fin : ∀ {s' : Shared} {H' : Hp}, Inv (X.blk s3 H3 scope ce [it]) ([p] ++ pinsAt [it] s7.heap) σ8 H' s' → Nx H' → ∃ m, m < n ∧ ∃ i H', Inv (X.blk s3 H3 scope ce [it]) [p] (wipe σ (own.map (·.2))) H' s' ∧ tn i s'.heap ∧ H' it = none ∧ W i m H' := fun {s' H'} I' nx => by
        obtain ⟨m', hm, w'⟩ := hNx H' nx
        obtain ⟨o7, e7, _⟩ := T.obj _ _ st7
        have pin' : ∀ o, s7.heap.get? it = some o → s'.heap.get? it = some o ∧ H' it = none := fun o e =>
          let z := I'.pin (it, o) (List.mem_append_right _ (List.mem_append_right _ (mem_pinsAt (by simp) e)))
          ⟨z.1, z.2.1⟩
        have hl : (wipe σ (own.map (·.2))).length = σ8.length := by rw [← hw8, wipe_length]
        refine ⟨m', hm, i + 1, H', (I'.unpinned (pins := [p])).weak hl (fun j v e => ?_), T.keep _ _ _ st7 fun o e => (pin' o e).1, (pin' o7 e7).2, w'⟩
        rw [← hw8] at e
        exact (wipe_some e).1
      cases b with
      | false =>
        simp only [Bool.false_eq_true, if_false] at q9 ⊢
        exact fin I9 q9
      | true =>
        simp only [if_true] at q9 ⊢
        refine thnF (pe.run _ s9 σ8 H9 _ I9 q9) fun z s10 ⟨yv, H10, I10, r10, acc, hD10, hz10, nx⟩ => ?_
        exact app_ok (X := X.blk s3 H3 scope ce [it]) I10 hD10 hz10 r10 fun s11 I11 => fin I11 nx
  exact codeAny_compStart_list loop (T.self X.A 0 _ _ _ st4 loop)
/-- as a value -/
theorem pe_lcH {elt tg iter : Expr} {ifs : List Expr} {scope : Scope} {own : List (Str × Nat)} {pos : Pos} {wi : TI} {g : TG} {tt : TT} {te : TE} (hot : L2H.Hot1 X.A p) (hp : p ∈ X.pn) (hN : X.N.Nodup) (hi : PIp p X tg iter wi) (ok : BlkOk X.N X.env.scope scope own)
    (hg : ∀ (s : Shared) (H : Hp) (C : Addr) (cl : List (Str × Addr)) (fp : List Addr), PGp p (X.blk s H scope (compEnvC scope cl C X.env) fp) tg g) (ht : ∀ (s : Shared) (H : Hp) (C : Addr) (cl : List (Str × Addr)) (fp : List Addr), PTs (X.blk s H scope (compEnvC scope cl C X.env) fp) ifs tt)
    (he : ∀ (s : Shared) (H : Hp) (C : Addr) (cl : List (Str × Addr)) (fp : List Addr), PE (X.blk s H scope (compEnvC scope cl C X.env) fp) elt te) (hs : ∀ x, foldedSetIterable iter X.env x = pure x) :
    PE X (.ListComp elt [⟨tg, iter, ifs, 0⟩] scope pos) (tLc wi g tt te (own.map (·.2))) := by
  refine ⟨fun pins s σ H Q I h => ?_⟩
  rw [eval_ListComp]
  refine lcH_core hot (List.mem_append_left _ hp) hN I hi ok hg ht he hs h fun D C s' m H' I' q hn f => ⟨m, hn, fun h'' sb => ?_⟩
  obtain ⟨f0, f1, f2, f3, f4, f5⟩ := f
  exact ⟨.ref D, H', I'.turned (t' := s'.toks) (fun b o hb e => (sb.2 b hb).trans e) f0 f1 f3 f4 f5, rfl, q⟩
/-- name = [..] on one line, the name a local -/
theorem ps_setLcH {i : Nat} {y : Str} {py : Pos} {elt tg iter : Expr} {ifs : List Expr} {scope : Scope} {own : List (Str × Nat)} {pos spos : Pos} {wi : TI} {g : TG} {tt : TT} {te : TE} (hot : L2H.Hot1 X.A p) (hp : p ∈ X.pn) (hN : X.N.Nodup) (hy : X.N[i]? = some y) (hyl : X.env.scope.names.lookup y = some .local)
    (hsw : swapsWith (.ListComp elt [⟨tg, iter, ifs, 0⟩] scope pos) (some (.Name y py)) spos.line X.env = pure true) (hi : PIp p X tg iter wi) (ok : BlkOk X.N X.env.scope scope own)
    (hg : ∀ (s : Shared) (H : Hp) (C : Addr) (cl : List (Str × Addr)) (fp : List Addr), PGp p (X.blk s H scope (compEnvC scope cl C X.env) fp) tg g) (ht : ∀ (s : Shared) (H : Hp) (C : Addr) (cl : List (Str × Addr)) (fp : List Addr), PTs (X.blk s H scope (compEnvC scope cl C X.env) fp) ifs tt)
    (he : ∀ (s : Shared) (H : Hp) (C : Addr) (cl : List (Str × Addr)) (fp : List Addr), PE (X.blk s H scope (compEnvC scope cl C X.env) fp) elt te) (hs : ∀ x, foldedSetIterable iter X.env x = pure x) :
    PS X (.Assign [.Name y py] (.ListComp elt [⟨tg, iter, ifs, 0⟩] scope pos) spos) (tAsg (tLc wi g tt te (own.map (·.2))) (gName i)) := by
  refine ⟨fun pins s σ H D I h => ?_⟩
  rw [exec_Assign_Name_used _ _ _ _ hsw]
  refine wpAny_bind (wpAny_standAt (wpAny_bind ?_))
  show wpAny _ X.A (do let _ ← comprehension (.ListComp elt [⟨tg, iter, ifs, 0⟩] scope pos) scope X.env (firstIterPos [⟨tg, iter, ifs, 0⟩] pos) (newList []) false (eval iter X.env) (some (assign (.Name y py) X.env))) _ _ s
  have h : tLc wi g tt te (own.map (·.2)) σ H (fun x H1 => gName i x σ H1 D.nx) := h
  refine wpAny_bind (thn (lcH_core (Qf := fun _ s' => SP X pins D .next s') hot (List.mem_append_left _ hp) hN I hi ok hg ht he hs h fun L C s' m H' I' q hn f => ?_) fun _ s' hq => wpAny_pure (wpAny_pure hq))
  show wpAny _ _ (assign (.Name y py) X.env (.ref L)) _ _ _
  refine wpAny_assign_Name (store_ok2 (v := V.ref L) I' hN hy (.inl hyl) rfl (fun s2 I2 ⟨a, sb, ha⟩ => ?_) (.inr hyl))
  obtain ⟨f0, f1, f2, f3, f4, f5⟩ := f
  have haC : C ≠ a := by
    rcases ha with z | z
    · rw [z]; exact f1
    · exact fun e => f4 y a z e.symm
  refine ⟨m, hn.sameBut sb haC, fun h3 sb3 => ?_⟩
  exact ⟨_, H', I2.turned (t' := s2.toks) (fun b o hb e => (sb3.2 b hb).trans e) f0 f1 f3 f4 f5, q⟩
end
end Den
set_option autoImplicit false
set_option maxRecDepth 100000
set_option maxHeartbeats 4000000
/-! Den, part Hd: calls and tests where an exception is handled; try. -/
namespace Den
open PySem PySem.Spec PyProof.Rows L2 GxR HotX L2H
/-- what a def promises while p is handled -/
structure FnE (p : Pin) (P : Program) (w : World) (K : Fg) (mg : Str → Option Value) (base : Heap) (CX : CXT) (k : Nat) (f : Addr) (fd : FuncData) (ps : List Str) (sp : Sp) : Prop where
  len : ∀ vs H Q E, sp vs H Q E → vs.length = ps.length
  run : ∀ (A : Around) (outer : List Env) (s : Shared) (H : Hp) (args : Args) (us : List Value) (vs : List V) (Q : VK) (E : XK), RoomH k A → Hot1 A p → PinOk outer H s p → Env0 P w K mg base A outer s H → BindsTo s fd args (ps.zip us) → Vals vs us → sp vs H Q E →
    codeAny (model P w) A (.call (.ref f) args) (CR CX outer P w H s Q E) s
theorem fn_ofE {p : Pin} {CX : CXT} {P : Program} {w : World} {K : Fg} {mg : Str → Option Value} {base : Heap} {k : Nat} {f : Addr} {name qual : Str} {params : Arguments} {body : List Stmt} {scope : Scope} {dV kV doc pm cdv ct oc : Value} {an od : Option Addr}
    {osl : Array (Option Value)} {N ps : List Str} {sp : Sp} (lk : K.lookup f = some ⟨oc, od, .func (PySem.W.fnOf name qual params body scope dV kV doc pm an cdv ct), osl⟩) (hcd : PySem.W.codeIn K cdv qual = true) (S : FnScope N ps scope)
    (len : ∀ vs H Q E, sp vs H Q E → vs.length = ps.length)
    (hbody : ∀ (A : Around) (outer : List Env) (s : Shared) (H : Hp) (vs : List V) (Q : VK) (E : XK), Hot1 A p → RoomH k (A.deeper (envOfC qual scope s.heap.objs.size f cdv)) → sp vs H Q E →
      ∃ t, PSs (cxH CX P w K mg base N qual scope f cdv A outer s H E p) body t ∧ t { nx := fun _ H' => Q .non H', rt := Q } (L2.start N vs) H) :
    FnE p P w K mg base CX (k + 1) f (PySem.W.fnOf name qual params body scope dV kV doc pm an cdv ct) ps sp := by
  refine ⟨len, fun A outer s H args us vs Q E hr hot hpin e0 hb r hsp => ?_⟩
  have hl := len _ _ _ _ hsp
  have kb : ∀ b o, base.get? b = some o → s.heap.get? b = some o := fun b o e => (e0.bs b o e).1
  have hkind : ∀ y ∈ ps.zip us, scope.names.lookup y.1 = some .local ∨ (scope.names.lookup y.1 = some .cell ∧ ((cellsFrom (s.heap.objs.size + 1) scope.names []).lookup y.1).isSome = true) := fun ⟨n, v⟩ hy =>
    (S.par n (List.of_mem_zip hy).1).elim .inl fun q => .inr ⟨q, PySem.W.cellsFrom_some _ _ _ (.inl q)⟩
  have KX : K.In s.heap := e0.mod.kin.keeps kb
  refine codeAny_call_function hr.depth (KX _ _ lk) rfl S.co S.gen rfl (PySem.W.codeRec_of KX hcd) (hb _ _ _ _ ?_)
  refine wpAny_newFunctionEnv_cells S.kind hkind fun env he s1 x => ?_
  subst he
  refine ⟨(e0.mod.nolimit.keeps kb).keeps x.toInCall.keep, codeAny_func ?_⟩
  obtain ⟨t, ht, hq⟩ := hbody A outer s H vs Q E hot (hr.deeper _) hsp
  have I : Inv (cxH CX P w K mg base N qual scope f cdv A outer s H E p) [] (L2.start N vs) H s1 := inv_startH S hpin e0 hl r x
  refine wpAny_mono (ht.run [] s1 (L2.start N vs) H _ I hq) (fun fl s' hs => ?_) fun e s' hs => hs
  cases fl with
  | ret u =>
    obtain ⟨v, σ', H', J, rv, q⟩ := hs
    exact ⟨v, H', J.os, J.bare, J.base, J.hok, rv, q⟩
  | next =>
    obtain ⟨σ', H', J, q⟩ := hs
    exact ⟨.non, H', J.os, J.bare, J.base, J.hok, rfl, q⟩
  | brk =>
    obtain ⟨_, _, _, q⟩ := hs
    exact q.elim
  | cont =>
    obtain ⟨_, _, _, q⟩ := hs
    exact q.elim
section
variable {X : Cx} {p : Pin}
theorem run_fnE {CX : CXT} {k : Nat} {f : Addr} {fd : FuncData} {ps : List Str} {sp : Sp} {E : L2.St → XK} {pins : List Pin} {σ : L2.St} {H : Hp} {s : Shared} {Q : VK} {us : List Value} {vs : List V} (F : FnE p X.prog X.w X.K X.mg X.base CX k f fd ps sp) (hr : RoomH k X.A) (hot : Hot1 X.A p) (hp : p ∈ X.pn) (hb : Binds X.K fd ps []) (hx : PassesAt CX X σ (E σ))
    (I : Inv X pins σ H s) (r : Vals vs us) (h : sp vs H Q (E σ)) : wpAny (model X.prog X.w) X.A (call (.ref f) us) (EP X pins σ Q) X.xe s := by
  have hl : us.length = ps.length := by rw [← r.length]; exact F.len _ _ _ _ h
  have b := hb s us I.kIn (by rw [List.append_nil]; exact hl)
  rw [List.append_nil] at b
  have P1 := I.pin p (List.mem_append_left _ hp)
  have hpin : PinOk X.stack H s p := ⟨P1.1, P1.2.1, fun hm => (List.mem_cons.mp (I.stkSub p.1 hm)).elim P1.2.2.1 P1.2.2.2.1, P1.2.2.2.2⟩
  refine wpAny_call (codeAny_mono (F.run X.A X.stack s H ⟨us, []⟩ us vs Q (E σ) hr hot hpin I.env0 b r h) fun r s' hq => ?_)
  cases r with
  | error e => exact hx pins H s e s' I hq
  | ok fl =>
    cases fl with
    | ret u => exact I.after hq
    | next => exact hq.elim
    | brk => exact hq.elim
    | cont => exact hq.elim
/-- isinstance(e, c), e the handled exception -/
theorem call_isP {D : Addr} (C : ExcC X.K D) (hz : Zc (.ref D) none p.2) (hot : Hot1 X.A p) (hp : p ∈ X.pn) : CallR X (.builtin "isinstance") (rIsE X.K D p.1) := by
  intro pins s σ H xs us Q I r h
  obtain ⟨c, cv, b, rfl, hcv, e, q⟩ := h
  cases r with
  | cons rx rr =>
    cases rr with
    | cons rt rr =>
      cases rr
      cases rx
      have ec := hcv _ rt
      subst ec
      have hget := (I.pin p (List.mem_append_left _ hp)).1
      obtain ⟨_, vs, hv, _⟩ := hot
      have J : PySem.W.InstAt s.heap p.1 p.2 D none := by
        obtain ⟨pa, oc, od, oda, osl⟩ := p
        obtain ⟨h1, h2⟩ := hz
        dsimp only at h1 h2 hv
        subst h1 h2 hv
        exact ⟨hget, rfl, rfl, trivial⟩
      exact PySem.W.kia_one (PySem.W.handS_kitx_exc C.hg C.hk C.hs C.hd C.ha C.hn C.ht C.hm) I.kIn J e (fun z => nomatch z) fun tk => ⟨.bl b, H, I.kept (t' := tk) fun _ _ z => z, rfl, q⟩
theorem r_isx {c : Ct} {i : Nat} {ks : List Nat} {k : Nat} {x n : Str} {D Ca : Addr} {q q2 pos p3 : Pos} (C : ExcC X.K D) (hz : Zc (.ref D) none p.2) (hot : Hot1 X.A p) (hp : p ∈ X.pn) (he : c.err = some (p.1, k)) (hg : Gl X "isinstance") (hm : X.mg "isinstance" = none)
    (hN : X.N[i]? = some n) (hv : Vis X.env.scope n) (hd : (n == ("__debug__" : Str)) = false) (hcd : (n == ("__classdict__" : Str)) = false) (hgx : Gl X x) (hmx : X.mg x = some (.ref Ca)) (hdx : (x == ("__debug__" : Str)) = false)
    (hk : PySem.W.kitOne X.K (.ref D) (.ref Ca) = some (ks.contains k)) :
    PE X (.Call (.Name "isinstance" q) [.Name n q2, .Name x p3] [] pos) (tE c (isxM i ks)) := by
  refine (pe_callB (call_isP C hz hot hp) hg hm PyProof.Rows.boot_isinstance (pa_cons (pe_var hN hv hd hcd) (pa_cons (pe_glob (v := .ref Ca) hgx hmx rfl hdx) pa_nil (by rfl)) (by rfl)) (by decide) (by decide) (by rfl) (by rfl)).weak fun σ H Q ⟨g, ρ, s, kk⟩ => ?_
  unfold isxM at kk
  cases e : ρ[i]? with
  | none => rw [e] at kk; exact kk.elim
  | some sl =>
    rw [e] at kk
    cases sl with
    | no => exact kk.elim
    | val _ => exact kk.elim
    | own _ _ _ => exact kk.elim
    | err k' =>
      obtain ⟨a, h1, h2⟩ := s.err i k' e
      rw [he] at h1
      cases h1
      exact ⟨_, h2, .ref Ca, .ref Ca, _, rfl, fun u hu => hu, hk, kk _ H (Good.of_val s rel_bl)⟩
/-! ### a call with the error -/
theorem tt_none {g : Gh} {σ : L2.St} {ρ : Ev} (h : ∀ (k : Nat) (p l : Bool) (ds : List PyData), ρ[k]? ≠ some (.own p l ds)) : Tt g σ ρ = g.Tc := by
  funext a
  apply propext
  exact ⟨fun z => z.elim id fun ⟨i, p, l, ds, e, _⟩ => absurd e (h i p l ds), .inl⟩
theorem Sim.bare {c : Ct} {g : Gh} {σ : L2.St} {H : Hp} {ρ : Ev} (s : Sim c g σ H ρ) : Sim c g [] H [] :=
  ⟨rfl, fun i d e => (by cases e), fun i p l ds e => (by cases e), fun i j p l ds p' l' ds' a e => (by cases e), s.new, s.tcs, s.tab, fun i k e => (by cases e)⟩
theorem callX_go {c : Ct} {g : Gh} {σ : L2.St} {H : Hp} {ρ : Ev} {Γ : Fns} {f i : Nat} {Q : VK} {E : XK} {v : V} (wf : WfF 1 (Γ f)) (s : Sim c g σ H ρ) (hi : σ[i]? = some (some v)) (k : Kont c g σ H ρ (callXM Γ f i ρ) Q) : spF c 1 (Γ f) [v] H Q E := by
  unfold callXM at k
  cases e : ρ[i]? with
  | none => rw [e] at k; exact k.elim
  | some sl =>
    rw [e] at k
    cases sl with
    | no => exact k.elim
    | val _ => exact k.elim
    | own _ _ _ => exact k.elim
    | err kk =>
      obtain ⟨a, h1, h2⟩ := s.err i kk e
      rw [hi] at h2
      cases h2
      dsimp only at k
      have no1 : ∀ (j : Nat) (p l : Bool) (ds : List PyData), ([Sl.err kk] : List Sl)[j]? ≠ some (.own p l ds) := fun j p l ds z => by
        cases j <;> cases z
      have no0 : ∀ (j : Nat) (p l : Bool) (ds : List PyData), ([] : List Sl)[j]? ≠ some (.own p l ds) := fun j p l ds z => by cases z
      have av : Av [.err kk] := fun j p l ds z => absurd z (no1 j p l ds)
      have gs : Sim c (gCall g σ H ρ [] []) ([V.ref a].map some) H [.err kk] := by
        refine ⟨rfl, fun j d z => ?_, fun j p l ds z => absurd z (no1 j p l ds), fun j j' p l ds p' l' ds' b z => absurd z (no1 j p l ds), fun b z => .inl z, fun b t => ?_, s.tab, fun j k' z => ?_⟩
        · cases j <;> cases z
        · rcases t.1 with t | ⟨j, p, l, ds, e1, e2⟩
          · exact s.tcs b t
          · obtain ⟨b', us, q1, q2, _⟩ := s.own j p l ds e1
            rw [e2] at q1; cases q1
            rw [q2]; simp
        · cases j with
          | zero => cases z; exact ⟨a, h1, rfl⟩
          | succ j => cases z
      refine ⟨rfl, _, [.err kk], av, gs, ?_⟩
      cases e2 : Γ f [.err kk] with
      | bad => rw [e2] at k; exact k.elim
      | exc x as' => rw [e2] at k; exact k.elim
      | ok ev as' =>
        rw [e2] at k
        obtain ⟨hl, hw⟩ := wf.ok _ ev as' av e2
        refine ⟨hl, hw, fun v' H' G => ?_⟩
        have no2 : ∀ (j : Nat) (p l : Bool) (ds : List PyData), as'[j]? ≠ some (.own p l ds) := fun j p l ds z => by
          obtain ⟨ds0, z0⟩ := hw j p l ds z
          exact no1 j p l ds0 z0
        have r0 : Refs c g σ H ρ [] [] := trivial
        have nw0 : ∀ (j : Nat) (p l : Bool) (ds : List PyData), ([] : List Sl)[j]? = some (.own p l ds) → ∃ ds0, ([] : List Sl)[j]? = some (.own p l ds0) := fun j p l ds z => absurd z (no0 j p l ds)
        cases ev with
        | loc j => exact (hl j rfl).elim
        | val d =>
          have st : Stp c (gCall g σ H ρ [] []) [] H [] (gCall g σ H ρ [] []).Tc H' [] := by
            have z := G.stp
            refine ⟨?_, z.fr, z.dom, fun j p ds h => absurd h (no0 j p true ds)⟩
            have := z.ext
            rw [tt_none no1] at this
            rw [tt_none no0]
            have e3 : Tr (gCall g σ H ρ [] []) ([V.ref a].map some) as' v' (.val d) = (gCall g σ H ρ [] []).Tc := tt_none no2
            rw [e3] at this
            exact this
          obtain ⟨z1, z2, z3⟩ := call_out (E := fun _ => False) (as' := []) (ρ' := ρ) s r0 rfl List.nodup_nil rfl nw0 (fun _ z => z.elim) (by rw [Gh.ex_no]; exact G.res.1.bare) st (by rw [Gh.ex_no, tt_none no0])
          rw [Gh.ex_no] at z1 z2
          refine k v' H' ⟨⟨z2, ?_⟩, ?_⟩
          · have := G.res.2
            rw [tt_none no2] at this
            rw [← z1]; exact this
          · show Stp c g σ H ρ (Tt g σ ρ) H' ρ
            exact z1 ▸ z3
        | fresh ds =>
          obtain ⟨b, us, rfl, s', hb, hr, nt, my⟩ := G.res
          have hE : ∀ x, x = b → H x = none := fun x hx => by
            subst hx
            rcases my with z | ⟨j, p, l, ds', z, _⟩
            · exact z
            · exact absurd z (no0 j p l ds')
          have ee : ((gCall g σ H ρ [] []).ex fun x => x = b) = (gCall g σ H ρ [] []).plus b := rfl
          have st : Stp c (gCall g σ H ρ [] []) [] H [] ((gCall g σ H ρ [] []).plus b).Tc H' [] := by
            have z := G.stp
            rw [tr_fresh] at z
            refine ⟨?_, z.fr, z.dom, fun j p ds h => absurd h (no0 j p true ds)⟩
            have := z.ext
            rw [tt_none no1, tt_none no2] at this
            rw [tt_none no0]
            exact this
          obtain ⟨z1, z2, z3⟩ := call_out (E := fun x => x = b) (as' := []) (ρ' := ρ) s r0 rfl List.nodup_nil rfl nw0 hE s'.bare st (by rw [ee, tt_none no0])
          have nb : ¬ Tt g σ ρ b := by
            rintro (t | ⟨j, p, l, ds', o1, o2⟩)
            · exact s.tcs b t (hE b rfl)
            · obtain ⟨b', us', q1, q2, _⟩ := s.own j p l ds' o1
              rw [o2] at q1; cases q1
              rw [hE b rfl] at q2; cases q2
          refine k (.ref b) H' ⟨⟨b, us, rfl, z2, hb, ?_, nb, s.new b (hE b rfl)⟩, ?_⟩
          · rw [tt_none no2] at hr
            show RelL c.K (Tt (g.ex fun x => x = b) σ ρ) H' us ds
            rw [← z1]; exact hr
          · rw [tr_fresh]
            exact z1 ▸ z3
theorem r_callX {c : Ct} {i f kk : Nat} {x n : Str} {fa : Addr} {fd : FuncData} {ps : List Str} {Γ : Fns} {q q2 pos : Pos} (wf : WfF 1 (Γ f)) (hot : Hot1 X.A p) (hp : p ∈ X.pn) (F : FnE p X.prog X.w X.K X.mg X.base (L2N.CX X.prog X.w) kk fa fd ps (spF c 1 (Γ f))) (hr : RoomH kk X.A)
    (hg : Gl X x) (hm : X.mg x = some (.ref fa)) (hk : PySem.W.keepIn X.K (.ref fa) = true) (hb : Binds X.K fd ps []) (hdb : (x == ("__debug__" : Str)) = false)
    (hN : X.N[i]? = some n) (hv : Vis X.env.scope n) (hd : (n == ("__debug__" : Str)) = false) (hcd : (n == ("__classdict__" : Str)) = false) : PE X (.Call (.Name x q) [.Name n q2] [] pos) (tE c (callXM Γ f i)) := by
  refine ⟨fun pins s σ H Q I ⟨g, ρ, sm, k⟩ => ?_⟩
  refine wpAny_Call_Name_kw (ld_glob I hg hm ?_ hdb)
  have hi : ∃ v, σ[i]? = some (some v) := by
    unfold callXM at k
    cases e : ρ[i]? with
    | none => rw [e] at k; exact k.elim
    | some sl =>
      rw [e] at k
      cases sl with
      | no => exact k.elim
      | val _ => exact k.elim
      | own _ _ _ => exact k.elim
      | err kk =>
        obtain ⟨a, _, h2⟩ := sm.err i kk e
        exact ⟨_, h2⟩
  obtain ⟨v, hi⟩ := hi
  have pa : PA X [.Name n q2] _ := pa_cons (pe_var hN hv hd hcd (pos := q2)) pa_nil (by rfl)
  refine PySem.W.callWith_K (h₀ := X.base) I.ok.mod.kin hk (thn (pa.run pos pins s σ H (fun vs H1 => vs = [v] ∧ H1 = H) I ⟨v, hi, rfl, rfl⟩) fun us s1 ⟨vs, H1, I1, r, e1, e2⟩ => ⟨I1.kIn, ?_⟩) (by rfl) (by rfl)
  subst e1 e2
  exact run_fnE (E := WE fun _ _ _ _ => False) F hr hot hp hb (L2N.passAt (fun _ _ ⟨_, _, _, _, _, _, _, _, _, _, _, _, _, _, _, _, w⟩ => w.elim) σ) I1 r (callX_go wf sm hi k)
end
end Den
set_option autoImplicit false
set_option maxRecDepth 100000
set_option maxHeartbeats 4000000
/-! Den, part He: try .. except. -/
namespace Den
open PySem PySem.Spec PyProof.Rows L2 GxR HotX L2H
section
variable {c : Ct} {W : WX} {g : Gh} {σ σ1 : L2.St} {H H1 : Hp} {ρ ρ1 : Ev}
abbrev Ct.w (c : Ct) (W : WX) : Ct := { c with W := W }
theorem Sim.w (s : Sim c g σ H ρ) : Sim (c.w W) g σ H ρ := ⟨s.len, s.val, s.own, s.inj, s.new, s.tcs, s.tab, s.err⟩
theorem Sim.unw (s : Sim (c.w W) g σ H ρ) : Sim c g σ H ρ := ⟨s.len, s.val, s.own, s.inj, s.new, s.tcs, s.tab, s.err⟩
theorem GoodS.unw (s : GoodS (c.w W) g σ H ρ σ1 H1 ρ1) : GoodS c g σ H ρ σ1 H1 ρ1 := ⟨s.sim.unw, ⟨s.stp.ext, s.stp.fr, s.stp.dom, s.stp.lk⟩, s.at_⟩
theorem Res.unw {v : V} {ev : EV} (s : Res (c.w W) g σ H ρ v ev) : Res c g σ H ρ v ev := by
  cases ev with
  | val d => exact ⟨s.1.unw, s.2⟩
  | loc i => exact ⟨s.1.unw, s.2⟩
  | fresh ds =>
    obtain ⟨a, vs, e, s1, r⟩ := s
    exact ⟨a, vs, e, s1.unw, r⟩
theorem GoodR.unw {v : V} {ev : EV} (s : GoodR (c.w W) g σ H ρ σ1 v H1 ev ρ1) : GoodR c g σ H ρ σ1 v H1 ev ρ1 := ⟨s.res.unw, ⟨s.stp.ext, s.stp.fr, s.stp.dom, s.stp.lk⟩, s.at_⟩
/-- the context of a suite -/
abbrev Ct.sx (c : Ct) (a : Addr) (k : Nat) : Ct := { c with W := fun _ _ _ _ => False, err := some (a, k) }
theorem noErr_at (h : noErr ρ = true) (i k : Nat) : ρ[i]? ≠ some (.err k) := fun e => by
  unfold noErr at h
  have := List.all_eq_true.mp h _ (List.mem_of_getElem? e)
  cases this
/-- a slot without a list of its own is set -/
theorem Sim.reslot {c' : Ct} {i : Nat} {sl sl' : Sl} {v : Option V} (hK : c'.K = c.K) (hT : c'.TB = c.TB) (s : Sim c g σ H ρ) (h : ρ[i]? = some sl) (n : ∀ p l ds, sl ≠ .own p l ds) (n' : ∀ p l ds, sl' ≠ .own p l ds) (nv : ∀ d, sl' ≠ .val d)
    (he : ∀ (j k : Nat), (ρ.set i sl')[j]? = some (.err k) → ∃ a, c'.err = some (a, k) ∧ (σ.set i v)[j]? = some (some (.ref a))) :
    Sim c' g (σ.set i v) H (ρ.set i sl') ∧ Tt g (σ.set i v) (ρ.set i sl') = Tt g σ ρ ∧ AtL σ ρ (σ.set i v) ∧ ∀ (j : Nat) (p : Bool) (ds : List PyData), ρ[j]? = some (.own p true ds) → (ρ.set i sl')[j]? = some (.own p true ds) := by
  have te : Tt g (σ.set i v) (ρ.set i sl') = Tt g σ ρ := by
    funext a
    apply propext
    show (g.Tc a ∨ _) ↔ (g.Tc a ∨ _)
    rw [Own.set_iff h n n']
  have ne : ∀ {j : Nat} {p l : Bool} {ds : List PyData}, ρ[j]? = some (.own p l ds) → i ≠ j := fun {j p l ds} e z => by
    subst z
    rw [h] at e
    exact n p l ds (Option.some.inj e)
  refine ⟨⟨by rw [List.length_set, List.length_set]; exact s.len, fun j d e => ?_, fun j p l ds e => ?_, fun j k p l ds p' l' ds' a e e' e1 e2 => ?_, s.new, s.tcs, by rw [hT]; exact s.tab, he⟩, te, fun j p ds e => ?_, fun j p ds e => ?_⟩
  · rw [te, hK]
    rcases set_get e with ⟨_, z⟩ | ⟨nj, z⟩
    · exact absurd z.symm (nv d)
    · obtain ⟨u, h1, h2⟩ := s.val j d z
      exact ⟨u, by rw [List.getElem?_set_ne nj]; exact h1, h2⟩
  · rw [te, hK]
    rcases set_get e with ⟨_, z⟩ | ⟨nj, z⟩
    · exact absurd z.symm (n' p l ds)
    · obtain ⟨u, us, h1, h2⟩ := s.own j p l ds z
      exact ⟨u, us, by rw [List.getElem?_set_ne nj]; exact h1, h2⟩
  · rcases set_get e with ⟨_, z⟩ | ⟨nj, z⟩
    · exact absurd z.symm (n' p l ds)
    · rcases set_get e' with ⟨_, z'⟩ | ⟨nk, z'⟩
      · exact absurd z'.symm (n' p' l' ds')
      · rw [List.getElem?_set_ne nj] at e1
        rw [List.getElem?_set_ne nk] at e2
        exact s.inj j k p l ds p' l' ds' a z z' e1 e2
  · rw [List.getElem?_set_ne (ne e)]
  · rw [List.getElem?_set_ne (ne e)]; exact e
theorem Sim.ct {c' : Ct} (hK : c'.K = c.K) (hT : c'.TB = c.TB) (s : Sim c g σ H ρ) (he : ∀ (j k : Nat), ρ[j]? = some (.err k) → ∃ a, c'.err = some (a, k) ∧ σ[j]? = some (some (.ref a))) : Sim c' g σ H ρ :=
  ⟨s.len, fun i d e => by rw [hK]; exact s.val i d e, fun i p l ds e => by rw [hK]; exact s.own i p l ds e, s.inj, s.new, s.tcs, by rw [hT]; exact s.tab, he⟩
end
section
variable {X : Cx} {c : Ct} {i : Option Nat} {ks os : List Nat} {fb fh : Ev → SR} {x : Str} {Ca : Addr} {body suite : List Stmt} {b₀ : Stmt} {np pos pos' : Pos} {g : Gh} {σ σ1 : L2.St} {H H1 : Hp} {ρ ρ1 : Ev} {D : Ends}
def setO (σ : L2.St) (v : Option V) : Option Nat → L2.St
  | none => σ
  | some i => σ.set i v
def endO (i : Option Nat) (D : Ends) : Ends := { nx := fun σ' H' => D.nx (setO σ' none i) H', rt := D.rt, bk := fun σ' H' => D.bk (setO σ' none i) H', ct := fun σ' H' => D.ct (setO σ' none i) H' }
/-- into the suite -/
theorem into {k : Nat} {a : Addr} {ρ2 : Ev} (he : c.err = none) (s : Sim c g σ H ρ) (h : putErr ρ k i = some ρ2) :
    Sim (c.sx a k) g (setO σ (some (.ref a)) i) H ρ2 ∧ Tt g (setO σ (some (.ref a)) i) ρ2 = Tt g σ ρ ∧ AtL σ ρ (setO σ (some (.ref a)) i) ∧ ∀ (j : Nat) (p : Bool) (ds : List PyData), ρ[j]? = some (.own p true ds) → ρ2[j]? = some (.own p true ds) := by
  have none_err : ∀ (j k : Nat), ρ[j]? ≠ some (.err k) := fun j k e => by
    obtain ⟨b, z, _⟩ := s.err j k e
    rw [he] at z; cases z
  cases i with
  | none =>
    cases h
    exact ⟨Sim.ct (c := c) (c' := c.sx a k) rfl rfl s fun j k' e => absurd e (none_err j k'), rfl, AtL.refl, fun _ _ _ e => e⟩
  | some i =>
    unfold putErr at h
    dsimp only at h
    cases e : ρ[i]? with
    | none => rw [e] at h; cases h
    | some sl =>
      rw [e] at h
      have n : ∀ p l ds, sl ≠ .own p l ds := fun p l ds z => by subst z; cases h
      have h' : ρ2 = ρ.set i (.err k) := by cases sl <;> first | (cases h; rfl) | (cases h; done)
      subst h'
      have li : i < σ.length := by rw [s.len]; exact get_lt e
      exact Sim.reslot (c := c) (c' := c.sx a k) (v := some (.ref a)) rfl rfl s e n (fun _ _ _ z => nomatch z) (fun _ z => nomatch z) fun j k' z => by
        rcases set_get z with ⟨ij, z1⟩ | ⟨_, z⟩
        · subst ij
          cases z1
          exact ⟨a, rfl, by rw [List.getElem?_set]; simp [li]⟩
        · exact absurd z (none_err j k')
/-- out of the suite -/
theorem outof {k : Nat} {a : Addr} {ρ2 : Ev} (s : Sim (c.sx a k) g σ H ρ) (h : clrErr ρ i = some ρ2) :
    Sim c g (setO σ none i) H ρ2 ∧ Tt g (setO σ none i) ρ2 = Tt g σ ρ ∧ AtL σ ρ (setO σ none i) ∧ (∀ (j : Nat) (p : Bool) (ds : List PyData), ρ[j]? = some (.own p true ds) → ρ2[j]? = some (.own p true ds)) ∧ ∀ (j : Nat) (p l : Bool) (ds : List PyData), ρ[j]? = some (.own p l ds) → ρ2[j]? = some (.own p l ds) ∧ (setO σ none i)[j]? = σ[j]? := by
  cases i with
  | none =>
    unfold clrErr at h
    dsimp only at h
    split at h
    · cases h
      exact ⟨Sim.ct (c := c.sx a k) (c' := c) rfl rfl s fun j k' e => absurd e (noErr_at (by assumption) j k'), rfl, AtL.refl, fun _ _ _ e => e, fun _ _ _ _ e => ⟨e, rfl⟩⟩
    · cases h
  | some i =>
    unfold clrErr at h
    dsimp only at h
    cases e : ρ[i]? with
    | none => rw [e] at h; cases h
    | some sl =>
      rw [e] at h
      have n : ∀ p l ds, sl ≠ .own p l ds := fun p l ds z => by subst z; cases h
      have h' : (if noErr (ρ.set i .no) = true then some (ρ.set i .no) else none) = some ρ2 := by cases sl <;> first | exact h | (cases h; done)
      split at h'
      · cases h'
        obtain ⟨z1, z2, z3, z4⟩ := Sim.reslot (c := c.sx a k) (c' := c) (v := none) (sl' := .no) rfl rfl s e n (fun _ _ _ z => nomatch z) (fun _ z => nomatch z) fun j k' z => absurd z (noErr_at (by assumption) j k')
        refine ⟨z1, z2, z3, z4, fun j p l ds e' => ?_⟩
        have ne : i ≠ j := fun z => by
          subst z
          rw [e] at e'
          exact n p l ds (Option.some.inj e')
        exact ⟨by rw [List.getElem?_set_ne ne]; exact e', by show (σ.set i none)[j]? = _; rw [List.getElem?_set_ne ne]⟩
      · cases h'
/-- what the suite is asked, from what the whole is asked -/
theorem suite_go {k : Nat} {a : Addr} {ρ2 : Ev} (he : c.err = none) (G : GoodS c g σ H ρ σ1 H1 ρ1) (h : putErr ρ1 k i = some ρ2) (kk : KontS c g σ H ρ (endX i (fh ρ2)) D) : tS (c.sx a k) fh (endO i D) (setO σ1 (some (.ref a)) i) H1 := by
  obtain ⟨s2, t2, a2, l2⟩ := into (a := a) he G.sim h
  refine ⟨g, ρ2, s2, ?_⟩
  -- all the way
  have far : ∀ {σ3 : L2.St} {H3 : Hp} {ρ3 ρ4 : Ev}, GoodS (c.sx a k) g (setO σ1 (some (.ref a)) i) H1 ρ2 σ3 H3 ρ3 → clrErr ρ3 i = some ρ4 → GoodS c g σ H ρ (setO σ3 none i) H3 ρ4 := fun {σ3 H3 ρ3 ρ4} G3 e4 => by
    obtain ⟨s4, t4, a4, l4, _⟩ := outof G3.sim e4
    have ext : Ext (Tt g σ1 ρ1) H1 (Tt g (setO σ3 none i) ρ4) H3 := by
      have := G3.stp.ext
      rw [t2] at this
      rw [t4]; exact this
    refine ⟨s4, ⟨G.stp.ext.trans ext, fun b o n e t => G3.stp.fr b o n (G.stp.fr b o n e t) t, fun b e => G3.stp.dom b (G.stp.dom b e), fun j p ds e => l4 j p ds (G3.stp.lk j p ds (l2 j p ds (G.stp.lk j p ds e)))⟩, fun j p ds e => ?_⟩
    have e1 := G.stp.lk j p ds e
    have e2 := l2 j p ds e1
    rw [a4 j p ds (G3.stp.lk j p ds e2), G3.at_ j p ds e2, a2 j p ds e1, G.at_ j p ds e]
  cases e3 : fh ρ2 with
  | bad => rw [e3] at kk; exact kk
  | ex k' ρ3 => rw [e3] at kk; exact kk.elim
  | nx ρ3 =>
    rw [e3] at kk
    intro σ3 H3 G3
    unfold endX at kk
    dsimp only at kk
    cases e4 : clrErr ρ3 i with
    | none => rw [e4] at kk; exact kk.elim
    | some ρ4 => rw [e4] at kk; exact kk _ _ (far G3 e4)
  | bk ρ3 =>
    rw [e3] at kk
    intro σ3 H3 G3
    unfold endX at kk
    dsimp only at kk
    cases e4 : clrErr ρ3 i with
    | none => rw [e4] at kk; exact kk.elim
    | some ρ4 => rw [e4] at kk; exact kk _ _ (far G3 e4)
  | ct ρ3 =>
    rw [e3] at kk
    intro σ3 H3 G3
    unfold endX at kk
    dsimp only at kk
    cases e4 : clrErr ρ3 i with
    | none => rw [e4] at kk; exact kk.elim
    | some ρ4 => rw [e4] at kk; exact kk _ _ (far G3 e4)
  | rt ev ρ3 =>
    rw [e3] at kk
    intro σ3 v H3 G3
    cases ev with
    | loc j => exact kk.elim
    | fresh ds => exact kk.elim
    | val d =>
      unfold endX at kk
      dsimp only at kk
      cases e4 : clrErr ρ3 i with
      | none => rw [e4] at kk; exact kk.elim
      | some ρ4 =>
        rw [e4] at kk
        refine kk (setO σ3 none i) v H3 ?_
        have G4 := far ⟨G3.res.1, G3.stp, G3.at_⟩ e4
        obtain ⟨_, t4, _⟩ := outof G3.res.1 e4
        exact ⟨⟨G4.sim, by rw [t4]; exact G3.res.2⟩, G4.stp, G4.at_⟩
/-- what the suite's text is to do with any of the own errors -/
def tSx (c : Ct) (ks : List Nat) (fh : Ev → SR) : Addr → Value → Option Addr → TS := fun a cls d D σ H => ∃ k, k ∈ ks ∧ cls = c.cls k ∧ d = none ∧ tS (c.sx a k) fh D σ H
theorem try_go {Wv : WX} {ts : Addr → Value → Option Addr → TS} (he : c.err = none)
    (hex : ∀ k ρ1 σ1 H1 g, GoodS c g σ H ρ σ1 H1 ρ1 → KontS c g σ H ρ (tryR i ks os fh (.ex k ρ1)) D → Wv (c.cls k) none σ1 H1)
    (s : Sim c g σ H ρ) (k : KontS c g σ H ρ (tryR i ks os fh (fb ρ)) D) : tS (c.w Wv) fb D σ H := by
  refine ⟨g, ρ, s.w, ?_⟩
  cases e : fb ρ with
  | bad => rw [e] at k; exact k
  | nx ρ1 => rw [e] at k; exact fun σ1 H1 G => k σ1 H1 G.unw
  | bk ρ1 => rw [e] at k; exact fun σ1 H1 G => k σ1 H1 G.unw
  | ct ρ1 => rw [e] at k; exact fun σ1 H1 G => k σ1 H1 G.unw
  | rt ev ρ1 => rw [e] at k; exact fun σ1 v H1 G => k σ1 v H1 G.unw
  | ex x ρ1 =>
    rw [e] at k
    exact fun σ1 H1 G => hex x ρ1 σ1 H1 g G.unw k
theorem ex_go {k : Nat} {b : Option Bool} (he : c.err = none) (G : GoodS c g σ H ρ σ1 H1 ρ1) (kk : KontS c g σ H ρ (tryR i ks os fh (.ex k ρ1)) D) (hb : k ∈ ks ++ os → b = some (ks.contains k)) :
    ∃ t, b = some t ∧ (t = true → ∀ a, H1 a = none → tSx c ks fh a (c.cls k) none (endO i D) (setO σ1 (some (.ref a)) i) H1) ∧ (t = false → c.W (c.cls k) none σ1 H1) := by
  unfold tryR at kk
  dsimp only at kk
  by_cases hk : ks.contains k = true
  · rw [if_pos hk] at kk
    refine ⟨true, by rw [hb (List.mem_append_left _ (by simpa using hk)), hk], fun _ a _ => ⟨k, by simpa using hk, rfl, rfl, ?_⟩, fun z => by cases z⟩
    cases e : putErr ρ1 k i with
    | none => rw [e] at kk; exact kk.elim
    | some ρ2 =>
      rw [e] at kk
      exact suite_go he G e kk
  · rw [if_neg hk] at kk
    have hf : ks.contains k = false := by simpa using hk
    by_cases ho : os.contains k = true
    · rw [if_pos ho] at kk
      exact ⟨false, by rw [hb (List.mem_append_right _ (by simpa using ho)), hf], fun z => (by cases z), fun _ => kk σ1 H1 G⟩
    · rw [if_neg ho] at kk; exact kk.elim
/-- try: .. except x as n: .. -/
theorem s_tryN {n : Str} {j : Nat} (he : c.err = none) (hK : X.K = c.K) (hs : X.stack = X.env :: X.outer) (hf : X.env.frame = some X.env.locals) (hN : X.N.Nodup) (hi : X.N[j]? = some n) (hln : X.env.kindOf n = some .local) (hc : L2.Names X x (.ref Ca)) (tk : L2N.Takes X c.W)
    (hx : ∀ k, k ∈ ks ++ os → PySem.W.exmOne X.K (c.cls k) (.ref Ca) = some (ks.contains k))
    (hb : ∀ (W : WX) (pn : List Pin) (xe : Value → Shared → Prop), L2N.Takes (X.tr pn xe) W → PassesOwn (model X.prog X.w) X.A X.env xe → PSs (X.tr pn xe) body (tS (c.w W) fb))
    (hh : ∀ (a : Addr) (oe : Obj) (k : Nat) (pn : List Pin), k ∈ ks → L2N.Zn (c.cls k) none oe → (∃ vs, oe.data = .fields vs) → PSs (X.suite a ((a, oe) :: pn)) (b₀ :: suite) (tS (c.sx a k) fh)) :
    PS X (.Try body [.ExceptHandler (some (.Name x np)) (some n) (b₀ :: suite) pos'] [] [] pos) (tS c fun ρ => tryR (some j) ks os fh (fb ρ)) := by
  refine (L2N.ps_try_as (ts := tSx c ks fh) (tb := fun W => tS (c.w W) fb) hs hf hN hi hln hc tk hb fun a oe cls d pn hz hfl => ⟨fun pins s σ H D I ⟨k, hk, e1, e2, h⟩ => ?_⟩).weak fun D σ H ⟨g, ρ, s, k⟩ => ?_
  · subst e1 e2
    exact (hh a oe k pn hk hz hfl).run pins s σ H D I h
  · refine try_go (Wv := L2.wAs X.K (.ref Ca) j (tSx c ks fh) c.W D) (ks := ks) (os := os) (i := some j) (fh := fh) (ts := tSx c ks fh) he (fun x ρ1 σ1 H1 g' G kk => ?_) s k
    exact ex_go he G kk (hx x)
/-- try: .. except x: .. -/
theorem s_tryO (he : c.err = none) (hK : X.K = c.K) (hs : X.stack = X.env :: X.outer) (hf : X.env.frame = some X.env.locals) (hc : L2.Names X x (.ref Ca)) (tk : L2N.Takes X c.W)
    (hx : ∀ k, k ∈ ks ++ os → PySem.W.exmOne X.K (c.cls k) (.ref Ca) = some (ks.contains k))
    (hb : ∀ (W : WX) (pn : List Pin) (xe : Value → Shared → Prop), L2N.Takes (X.tr pn xe) W → PassesOwn (model X.prog X.w) X.A X.env xe → PSs (X.tr pn xe) body (tS (c.w W) fb))
    (hh : ∀ (a : Addr) (oe : Obj) (k : Nat) (pn : List Pin), k ∈ ks → L2N.Zn (c.cls k) none oe → (∃ vs, oe.data = .fields vs) → PSs (X.suite a ((a, oe) :: pn)) (b₀ :: suite) (tS (c.sx a k) fh)) :
    PS X (.Try body [.ExceptHandler (some (.Name x np)) none (b₀ :: suite) pos'] [] [] pos) (tS c fun ρ => tryR none ks os fh (fb ρ)) := by
  refine (L2N.ps_try_many (tb := fun W => tS (c.w W) fb) (l := [(.ref Ca, tSx c ks fh)]) hs hf tk hb (.cons hc (fun a oe cls d pn hz hfl => ⟨fun pins s σ H D I ⟨k, hk, e1, e2, h⟩ => ?_⟩) .nil)).weak fun D σ H ⟨g, ρ, s, k⟩ => ?_
  · subst e1 e2
    exact (hh a oe k pn hk hz hfl).run pins s σ H D I h
  · refine try_go (Wv := L2.wMany X.K c.W D [(.ref Ca, tSx c ks fh)]) (ks := ks) (os := os) (i := none) (fh := fh) (ts := tSx c ks fh) he (fun x ρ1 σ1 H1 g' G kk => ?_) s k
    exact ex_go he G kk (hx x)
end
end Den
set_option autoImplicit false
set_option maxRecDepth 100000
set_option maxHeartbeats 4000000
/-! Den, part Hf: comprehensions where an exception is handled, the rules; list.index. -/
namespace Den
open PySem PySem.Spec PyProof.Rows L2 GxR HotX L2H
section
variable {X : Cx} {p : Pin} {pos : Pos}
theorem unpackHL {prog : Program} {w : World} {A : Around} {E : Value → Shared → Prop} {s : Shared} {t x1 : Addr} {items : Array Value} {targets : List (Bool × (Value → Sem Unit))} {Q : Unit → Shared → Prop} (hot : HotAt A x1 s.heap) (ht : s.heap.IsList t items)
    (hn : targets.length = items.size) (hstar : targets.findIdx? (·.1) = none)
    (h : ∀ h', Heap.ExtBut s.heap.objs.size s.heap h' → wpAny (model prog w) A (assignInOrder (targets.map (·.2)) items.toList) Q E { s with heap := h' }) : wpAny (model prog w) A (unpack (.ref t) targets) Q E s := by
  have hlt : t ≠ s.heap.objs.size := by obtain ⟨o, ho, _⟩ := ht; exact Nat.ne_of_lt (Heap.lt_size ho)
  have hx1 : x1 < s.heap.objs.size := by obtain ⟨_, o, _, ho, _⟩ := hot; exact Heap.lt_size ho
  unfold unpack
  rw [hn, hstar]
  refine wpAny_bind (wpAny_holding ?_)
  unfold unpackItems
  refine wpAny_bind ?_
  unfold notIterableAtAll
  refine wpAny_bind (wpAny_specialOf ht.typeIs slot_list_iter.lookup ?_)
  refine wpAny_pure ?_
  simp only [Bool.false_eq_true, if_false]
  refine wpAny_bind (wpAny_holding (wpAny_pyIter_list ht ?_))
  refine wpAny_bind (wpAny_holding (PySem.W.kun_draw hlt items.size 0 _ _ ⟨_, Heap.get?_push_size _ rfl, rfl, rfl⟩ (ht.push _) (by omega) fun h₁ hit₁ hs₁ => ?_))
  have hall : List.take items.size (List.drop 0 items.toList) = items.toList := by
    rw [List.drop_zero]; exact List.take_of_length_le (by simp)
  rw [hall]
  rw [if_neg (by simp)]
  have ht₁ : h₁.IsList t items := (ht.push _).extBut hs₁.extBut hlt
  have hot₁ : HotAt A x1 h₁ := by
    obtain ⟨hh, o, vs, e1, e2, e3⟩ := hot
    exact ⟨hh, o, vs, hs₁.extBut x1 o (Nat.ne_of_lt hx1) (Heap.get?_push_of_some _ e1), e2, e3⟩
  refine wpAny_bind (wpAny_holding (listEnd_hot (s := { s with heap := h₁ }) hot₁ hit₁ ht₁ (by simp) fun h₂ he₂ => ?_))
  simp only [Option.isSome_none, Bool.false_eq_true, if_false]
  exact wpAny_pure (h h₂ fun b o hb e => he₂ b o hb (hs₁.extBut b o hb (Heap.get?_push_of_some _ e)))
theorem pgp_lst {es : List Expr} {k : Nat} {t : TGs} {n : Nat} (hot : Hot1 X.A p) (h : PGs X es t) (hn : (assignEach es X.env).length = n) (hst : (assignEach es X.env).findIdx? (·.1) = none) : PGp p X (.Tuple es k pos) (gLst X.K n t) := by
  refine ⟨fun pins s σ H v u Q hp I r hw => ?_⟩
  obtain ⟨a, xs, e1, hq, hl, hw⟩ := hw
  subst e1
  cases r
  obtain ⟨its, rv, ht, hz⟩ := I.list hq
  rw [PyProof.Rows.assign_Tuple]
  refine wpAny_bind (wpAny_standAt (unpackHL (hot_at hot hp I) ht.isList (by simp [hn, ← hl, rv.length]) hst fun h' hx => ?_))
  have I1 : Inv X pins σ H { s with heap := h' } := I.kept (t' := s.toks) fun b o e => hx b o (Nat.ne_of_lt (Heap.lt_size e)) e
  exact h.run pins _ σ H xs _ Q I1 (by simpa using rv) hw
theorem pgp_seq {ts : List Expr} {is : List Nat} {k : Nat} (hot : Hot1 X.A p) (hN : X.N.Nodup) (h : NmL X ts is) : PGp p X (.Tuple ts k pos) (gSeq X.K is) := by
  refine ⟨fun pins s σ H v u Q hp I r hw => ?_⟩
  obtain ⟨a, xs, e1, hq | hq, hl, hw⟩ := hw
  · exact (pgp_tup hot (h.pgs hN) h.length h.noStar).run pins s σ H v u Q hp I r ⟨a, xs, e1, hq, hl, hl, hw⟩
  · exact (pgp_lst hot (h.pgs hN) h.length h.noStar).run pins s σ H v u Q hp I r ⟨a, xs, e1, hq, hl, hl, hw⟩
theorem TgM.pgp {tg : Expr} {t : Tg} (hot : Hot1 X.A p) (hN : X.N.Nodup) (h : TgM X tg t) : PGp p X tg (gTg X.K t) := by
  cases h with
  | nm hi hx hf => exact PGp.of (pg_name hN hi hx hf)
  | tp h => exact pgp_seq hot hN h
  | np hc h => exact PGp.of (pg_seqN hc hN h)
end
section
variable {X : Cx} {c : Ct} {p : Pin} {g : Gh} {σ : L2.St} {H : Hp} {ρ : Ev} {tg e a b iter elt : Expr} {ifs : List Expr} {pos : Pos} {da db de : M EV}
theorem i_seqH (hK : X.K = c.K) (he : PE X e (tE c de)) : PIp p X tg e (tI c (bnd de seqI)) := by
  refine (pip_seq he).weak fun σ H Q ⟨g, ρ, s, k⟩ => ?_
  refine ⟨g, ρ, s, ?_⟩
  cases e1 : de ρ with
  | bad => rw [bnd_bad e1] at k; exact k
  | exc x ρ1 => rw [bnd_exc e1] at k; exact k
  | ok ev ρ1 =>
    rw [bnd_ok e1] at k
    intro v H1 G
    unfold seqI at k
    rcases peekM_inv G.sim G.ref rfl with e2 | ⟨d, e2, pk, pr⟩
    · rw [bnd_bad e2] at k; exact k.elim
    · rw [bnd_ok e2] at k
      have hlc : ∀ i, settle ev = .loc i → ∃ v, σ[i]? = some (some v) := fun i hi => by
        have rf := G.ref
        rw [hi] at rf
        exact ⟨_, rf⟩
      cases d <;> first | exact k.elim | skip
      · rename_i ds
        have k' : KontI c g σ H ρ (.ok (settle ev, ds) ρ1) Q := k
        obtain ⟨a, vs, rfl, h1, h2⟩ := p_lst pr
        have hq := h1.sq
        rw [← hK] at hq
        refine .inl ⟨a, rfl, ⟨vs, hq⟩, k' H1 (Itl X.K a) [(.ref a, settle ev, .list ds)] ⟨G.sim, G.step⟩ (fun ρ2 hl x hx => ?_) hlc (walks_list hK)⟩
        cases List.mem_singleton.mp hx
        exact lk_of G.ref pk hl
      · rename_i ds
        have k' : KontI c g σ H ρ (.ok (settle ev, ds) ρ1) Q := k
        obtain ⟨a, vs, rfl, h1, h2⟩ := p_tup pr
        have hq := h1.sq
        rw [← hK] at hq
        refine .inr ⟨a, rfl, ⟨vs, hq⟩, k' H1 (Itt X.K a) [(.ref a, settle ev, .tuple ds)] ⟨G.sim, G.step⟩ (fun ρ2 hl x hx => ?_) hlc (walks_tup hK)⟩
        cases List.mem_singleton.mp hx
        exact lk_of G.ref pk hl
theorem r_lcH {t : Tg} {dt : M Bool} {di : M (EV × List PyData)} {scope : Scope} {own : List (Str × Nat)} (hK : X.K = c.K) (hot : Hot1 X.A p) (hp : p ∈ X.pn) (hN : X.N.Nodup) (hi : PIp p X tg iter (tI c di)) (ok : BlkOk X.N X.env.scope scope own) (ho : own.map (·.2) = t.vars)
    (hb : ∀ (s : Shared) (H : Hp) (C : Addr) (cl : List (Str × Addr)) (fp : List Addr), TgM (X.blk s H scope (compEnvC scope cl C X.env) fp) tg t ∧ PTs (X.blk s H scope (compEnvC scope cl C X.env) fp) ifs (tT c.nox dt) ∧ PE (X.blk s H scope (compEnvC scope cl C X.env) fp) elt (tE c.nox de))
    (hs : ∀ x, foldedSetIterable iter X.env x = pure x) :
    PE X (.ListComp elt [⟨tg, iter, ifs, 0⟩] scope pos) (tE c (bnd di (lcM t dt (bnd de coe)))) := by
  refine (pe_lcH hot hp hN hi ok (g := gTg X.K t) (fun s H C cl fp => TgM.pgp (X := X.blk s H scope (compEnvC scope cl C X.env) fp) hot hN (hb s H C cl fp).1) (fun s H C cl fp => (hb s H C cl fp).2.1) (fun s H C cl fp => (hb s H C cl fp).2.2) hs).weak fun σ H Q h => ?_
  rw [ho]
  exact lc_go hK h
theorem s_setLcH {i : Nat} {y : Str} {py spos : Pos} {o : Bool} {t : Tg} {dt : M Bool} {di : M (EV × List PyData)} {scope : Scope} {own : List (Str × Nat)} (hK : X.K = c.K) (hot : Hot1 X.A p) (hp : p ∈ X.pn) (hN : X.N.Nodup) (hy : X.N[i]? = some y) (hyl : X.env.scope.names.lookup y = some .local)
    (hsw : swapsWith (.ListComp elt [⟨tg, iter, ifs, 0⟩] scope pos) (some (.Name y py)) spos.line X.env = pure true) (hi : PIp p X tg iter (tI c di)) (ok : BlkOk X.N X.env.scope scope own) (ho : own.map (·.2) = t.vars)
    (hb : ∀ (s : Shared) (H : Hp) (C : Addr) (cl : List (Str × Addr)) (fp : List Addr), TgM (X.blk s H scope (compEnvC scope cl C X.env) fp) tg t ∧ PTs (X.blk s H scope (compEnvC scope cl C X.env) fp) ifs (tT c.nox dt) ∧ PE (X.blk s H scope (compEnvC scope cl C X.env) fp) elt (tE c.nox de))
    (hs : ∀ x, foldedSetIterable iter X.env x = pure x) :
    PS X (.Assign [.Name y py] (.ListComp elt [⟨tg, iter, ifs, 0⟩] scope pos) spos) (tS c (sE (bnd (bnd di (lcM t dt (bnd de coe))) soft) fun v ρ => match putL ρ [i] [o] [v] with | some ρ' => .nx ρ' | none => .bad)) := by
  refine (ps_setLcH hot hp hN hy hyl hsw hi ok (g := gTg X.K t) (fun s H C cl fp => TgM.pgp (X := X.blk s H scope (compEnvC scope cl C X.env) fp) hot hN (hb s H C cl fp).1) (fun s H C cl fp => (hb s H C cl fp).2.1) (fun s H C cl fp => (hb s H C cl fp).2.2) hs).weak fun D σ H h => ?_
  have h1 := asg_go h
  show tLc _ _ _ _ _ σ H _
  rw [ho]
  exact lc_go hK h1
theorem r_ix {p2 : Pos} (hK : X.K = c.K) (hu : X.A.units + 100 < cLine) (ha : PE X a (tE c da)) (hb : PE X b (tE c db)) (hbase : attributeBase a "index" X.env (eval a X.env) = eval a X.env) (hline : (p2.endLine == pos.line) = true) (ns : isStar b = false)
    (hfew : ((backTo pos (starEach [b] X.env)).all (fun x => !x.1) && (backToKw pos (keywordEach [] X.env)).all (fun x => x.1.isSome)
      && decide ([b].length + ([] : List Keyword).length + (if ([] : List Keyword).isEmpty then 0 else 1) < 30)) = true) :
    PE X (.Call (.Attribute a "index" p2) [b] [] pos) (tE c (bnd da fun x => bnd (lstM x) fun _ => bnd db fun y => ixM x y)) := by
  refine (pe_bm PySem.F.plainAttrs_list PySem.F.slot_list_index PySem.F.type_list_index (mt_indexD (by omega)) ha (pa_cons hb pa_nil (star_cons ns)) hbase hfew hline (star_cons ns) (by rfl)).weak fun σ H Q h => ?_
  refine (one h).mono fun x H1 ⟨g, ρ, ex, s, r, k⟩ => ?_
  unfold bnd lstM at k
  cases e0 : peek ρ (settle ex) with
  | none => rw [e0] at k; exact k.elim
  | some d0 =>
    rw [e0] at k
    have p0 := r.peek s e0
    cases d0 <;> first | exact k.elim | skip
    rename_i ds0
    obtain ⟨a0, vs0, rfl, hr0, _⟩ := p_lst p0
    have hq0 := hr0.sq
    rw [← hK] at hq0
    refine ⟨.inl ⟨rfl, vs0, hq0⟩, ?_⟩
    show tE c db σ H1 _
    refine (next s r k).mono fun y H2 ⟨ρ2, ey, s2, rx2, ry2, k2⟩ => ?_
    unfold ixM at k2
    cases e1 : peek ρ2 (settle ex) with
    | none => rw [e1] at k2; exact k2.elim
    | some dx =>
      cases e2 : peek ρ2 (settle ey) with
      | none =>
        rw [e1, e2] at k2
        cases dx <;> exact k2.elim
      | some dy =>
        rw [e1, e2] at k2
        cases dx <;> first | exact k2.elim | skip
        rename_i ds
        dsimp only at k2
        have px := rx2.peek s2 e1
        have py := ry2.peek s2 e2
        rw [← hK] at px py
        obtain ⟨b1, b2⟩ := px.dp
        obtain ⟨b3, b4⟩ := py.dp
        split at k2
        · rename_i hz
          rw [Bool.and_eq_true] at hz
          cases e3 : ds.findIdx? (fun z => PyData.eqv z dy) with
          | none => rw [e3] at k2; exact k2.elim
          | some j =>
            rw [e3] at k2
            obtain ⟨h1, h2, h3⟩ := List.findIdx?_eq_some_iff_getElem.mp e3
            refine ⟨a0, y, dy, ds, j, ds[j], rfl, rfl, b1, b3, ?_, ?_, List.getElem?_eq_getElem h1, h2, fun m z' hm hz' => ?_, Kont.val s2 k2 rel_int⟩
            · unfold SeqAt.shaped; rw [b2, hz.2]; rfl
            · unfold SeqAt.shaped; rw [b4, hz.1]; rfl
            · have hml := get_lt hz'
              have := h3 m hm
              rw [List.getElem?_eq_getElem hml] at hz'
              cases hz'
              simpa using this
        · exact k2.elim
end
end Den
set_option autoImplicit false
set_option maxRecDepth 100000
set_option maxHeartbeats 4000000
/-! Den, part G6: t[::-1] of a tuple. -/
namespace Den
open PySem PySem.Spec PyProof.Rows L2 GxR HT
section
variable {prog : Program} {w : World} {A : Around} {E : Value → Shared → Prop} {s : Shared}
theorem places_rev (n : Nat) : Builtin.Slice.slicePlaces ((n : Int) - 1) (-1) (-1) = n := by
  unfold Builtin.Slice.slicePlaces
  have h1 : ¬ ((-1 : Int) > 0) := by decide
  simp only [h1, if_false]
  split <;> simp <;> omega
theorem sliceApplied_rev {sl : Addr} {vl vu vs : Value} {n : Nat} {Q : Int × Int × Nat → Shared → Prop} (hs : s.heap.IsSliceOf sl vl vu vs) (pl : IsPart vl none) (pu : IsPart vu none) (ps : IsPart vs (some (-1)))
    (h : Q ((n : Int) - 1, -1, n) s) : wpAny (model prog w) A (Builtin.Slice.sliceApplied (.ref sl) (pure (n : Int))) Q E s := by
  obtain ⟨os, hos, hcs, hds⟩ := id hs
  unfold Builtin.Slice.sliceApplied Builtin.Slice.sliceFields
  refine wpAny_bind (wpAny_bind (wpAny_field hos hds (x := vl) rfl (wpAny_bind (wpAny_field hos hds (x := vu) rfl (wpAny_bind (wpAny_field hos hds (x := vs) rfl (wpAny_pure ?_)))))))
  refine wpAny_bind (slicePart_ ps ?_)
  show wpAny _ _ (if ((-1 : Int) == 0) = true then _ else _) _ _ s
  rw [if_neg (by decide)]
  refine wpAny_bind (slicePart_ pl (wpAny_bind (slicePart_ pu (wpAny_bind (wpAny_pure ?_)))))
  have e : Builtin.Slice.sliceAdjust none none (-1) (n : Int) = ((n : Int) - 1, -1) := by
    first
      | rfl
      | simp [Builtin.Slice.sliceAdjust]
  show wpAny _ _ (match Builtin.Slice.sliceAdjust none none (-1) (n : Int) with | (lo, hi) => pure (lo, (-1 : Int), Builtin.Slice.slicePlaces lo hi (-1))) _ _ s
  rw [e]
  show wpAny _ _ (pure ((n : Int) - 1, (-1 : Int), Builtin.Slice.slicePlaces ((n : Int) - 1) (-1) (-1))) _ _ s
  rw [places_rev]
  exact wpAny_pure h
theorem pick_rev (xs : Array Value) : ((List.range xs.size).filterMap fun (m : Nat) => xs[(((xs.size : Nat) : Int) - 1 + (m : Int) * (-1)).toNat]?).toArray = xs.toList.reverse.toArray := by
  have h := PySem.W.krv_pick xs
  unfold slicePick at h
  rw [PySem.W.krv_bounds] at h
  have h : ((sliceRange ((xs.size : Int) - 1) (-1) (-1)).filterMap (xs[·]?)).toArray = _ := h
  rw [PySem.W.krv_sliceRange, List.filterMap_map] at h
  rw [← h]
  congr 1
  have key : ∀ (l : List Nat), (∀ m ∈ l, m < xs.size) → l.filterMap (fun (m : Nat) => xs[(((xs.size : Nat) : Int) - 1 + (m : Int) * (-1)).toNat]?) = l.filterMap ((fun x => xs[x]?) ∘ fun k => xs.size - 1 - k) := by
    intro l
    induction l with
    | nil => intro _; rfl
    | cons m l ih =>
      intro hl
      have hm := hl m (List.mem_cons_self ..)
      have e : (((xs.size : Nat) : Int) - 1 + (m : Int) * (-1)).toNat = xs.size - 1 - m := by omega
      rw [List.filterMap_cons, List.filterMap_cons, ih (fun k hk => hl k (List.mem_cons_of_mem _ hk)), e]
      rfl
  exact key _ (fun m hm => List.mem_range.mp hm)
theorem getItem_tuple_rev {t sl : Addr} {items : Array Value} {vl vu vs : Value} {Q : Value → Shared → Prop} (ht : IsTup s.heap t items) (hs : s.heap.IsSliceOf sl vl vu vs) (pl : IsPart vl none) (pu : IsPart vu none) (ps : IsPart vs (some (-1)))
    (h : Q (.ref s.heap.objs.size) { s with heap := s.heap.push { cls := .type "tuple", data := .seq items.toList.reverse.toArray } })
    (hsz : items.size ≤ sizeLine) : wpAny (model prog w) A (getItem (.ref t) (.ref sl)) Q E s := by
  have htake : sizeOk (.seq items.toList.reverse.toArray) := by
    show items.toList.reverse.toArray.size ≤ sizeLine
    rw [List.size_toArray, List.length_reverse, Array.length_toList]
    exact hsz
  obtain ⟨os, hos, hcs, hds⟩ := id hs
  have hTs : s.TypeIs (.ref sl) "slice" := ⟨os, hos, hcs⟩
  unfold getItem
  try with_reducible refine wpAny_holding ?_
  first | refine wpAny_bind (wpAny_pure ?_) | skip
  refine wpAny_bind (wpAny_sequenceKey ht.typeIs (by decide) ?_)
  refine wpAny_bind (wpAny_callSpecial?_slot (name := Str.ofString "__getitem__") ht.typeIs PyProof.Rows.slot_tuple_getitem
    (wpAny_call_entry PyProof.Rows.slot_tuple_getitem ht.typeIs entry_tuple_getitem ?_ (args_tuple_getitem _ _)))
  show wpAny _ _ (Builtin.Tuple.tupleItemsOf (.ref t) >>= _) _ _ s
  refine wpAny_bind (tupleItemsOf_ ht ?_)
  refine wpAny_bind (wpAny_typeOf hTs ?_)
  rw [if_pos (by decide)]
  refine wpAny_bind (sliceApplied_rev hs pl pu ps ?_)
  have hno : ¬ ((((items.size : Nat) : Int) - 1 == 0 && (-1 : Int) == 1 && items.size == items.size) = true) := by
    intro q
    rw [Bool.and_eq_true, Bool.and_eq_true] at q
    exact absurd q.1.2 (by decide)
  show wpAny _ _ (if (((items.size : Nat) : Int) - 1 == 0 && (-1 : Int) == 1 && items.size == items.size) = true then _ else _) _ _ s
  rw [if_neg hno, pick_rev]
  first
    | exact wpAny_bind (m := Builtin.Tuple.tupleExact _) (wpAny_newObj_type (wpAny_pure ⟨_, rfl, wpAny_pure h⟩) htake)
    | exact wpAny_bind (m := Builtin.Tuple.tupleExact _) (wpAny_newObj_type (wpAny_bind (wpAny_pure (wpAny_pure ⟨_, rfl, wpAny_pure h⟩))) htake)
    | exact wpAny_bind (wpAny_bind (m := Builtin.Tuple.tupleExact _) (wpAny_newObj_type (wpAny_pure (wpAny_pure ⟨_, rfl, wpAny_pure h⟩)) htake))
    | exact wpAny_bind (wpAny_bind (m := Builtin.Tuple.tupleExact _) (wpAny_newObj_type (wpAny_pure ⟨_, rfl, wpAny_pure h⟩) htake))
end
section
variable {X : Cx}
def tRevA (K : PySem.W.Frag) (te : TE) : TE := fun σ H Q => te σ H fun x H1 => ∃ a xs, x = .ref a ∧ ((SqL K H1 a xs ∧ ∀ p, H1 p = none → Q (.ref p) (upd H1 p (.lst xs.reverse))) ∨ (SqT K H1 a xs ∧ ∀ p, H1 p = none → Q (.ref p) (upd H1 p (.tup xs.reverse))))
theorem pe_revA {e : Expr} {te : TE} {k : Nat} {p1 p2 p3 pos : Pos} (he : PE X e te) : PE X (.Subscript e (.Slice none none (some (.UnaryOp .USub (.Constant (.int 1) k p1) p2)) p3) pos) (tRevA X.K te) := by
  refine ⟨fun pins s σ H Q I h => ?_⟩
  refine Subscript_ (thn (he.run pins s σ H _ I h) fun v s1 ⟨x, H1, I1, r1, q1⟩ => ?_)
  obtain ⟨a, xs, ex, q⟩ := q1
  subst ex
  cases r1
  have hst : PO X (some (.UnaryOp .USub (.Constant (.int 1) k p1) p2)) (tPart (tUn (rU fun i => .int (-i)) (tC (.int 1)))) := po_some (pe_un un_neg pe_int)
  refine wpAny_Slice (thn (po_none.run pins s1 σ H1 (fun o H2 => o = none ∧ H2 = H1) I1 ⟨rfl, rfl⟩) fun vl s2 ⟨l, H2, I2, pl, el, e2⟩ => ?_)
  subst el e2
  refine thn (po_none.run pins s2 σ H2 (fun o H3 => o = none ∧ H3 = H2) I2 ⟨rfl, rfl⟩) fun vu s3 ⟨u, H3, I3, pu, eu, e3⟩ => ?_
  subst eu e3
  refine thn (hst.run pins s3 σ H3 (fun o H4 => o = some (-1) ∧ H4 = H3) I3 ⟨1, rfl, -1, rfl, rfl, rfl⟩) fun vs s4 ⟨o, H4, I4, ps, eo, e4⟩ => ?_
  subst eo e4
  have I5 : Inv X pins σ H4 { s4 with heap := s4.heap.push { cls := .type "slice", data := .fields #[vl, vu, vs] } } := I4.kept (t' := s4.toks) fun b ob q => Heap.get?_push_of_some _ q
  rcases q with ⟨hx, q⟩ | ⟨hx, q⟩
  · obtain ⟨its, r, ht, hz⟩ := I5.list hx
    have hlen := r.length
    show wpAny (model X.prog X.w) X.A (subscriptTail e (.Slice none none (some (.UnaryOp .USub (.Constant (.int 1) k p1) p2)) p3) (.ref a) (.ref s4.heap.objs.size)) (EP X pins σ Q) X.xe { s4 with heap := s4.heap.push { cls := .type "slice", data := .fields #[vl, vu, vs] } }
    refine tail_any (ops := [.ref a, .ref s4.heap.objs.size]) ht.isList.typeIs (PySem.slot_list_getitem.lookup) ?_ (by with_unfolding_all rfl)
    refine wpAny_getItem_list_slice ht.isList (Heap.IsSliceOf.new _ vl vu vs) pl pu ps (by decide) ?_ (by rw [List.size_toArray]; omega)
    rw [PySem.W.krv_pick]
    refine ⟨.ref _, _, I5.laid (t' := s4.toks) (o := .lst xs.reverse) (fun b ob q => Heap.get?_push_of_some _ q) (Nat.le_refl _) ?_, rfl, q _ (I5.hok.fresh (Nat.le_refl _))⟩
    exact ⟨by rw [List.length_reverse]; exact hz, _, 0, r.reverse, Heap.get?_push_size _ rfl⟩
  · obtain ⟨its, r, ht, hz⟩ := I5.tuple hx
    have hlen := r.length
    show wpAny (model X.prog X.w) X.A (subscriptTail e (.Slice none none (some (.UnaryOp .USub (.Constant (.int 1) k p1) p2)) p3) (.ref a) (.ref s4.heap.objs.size)) (EP X pins σ Q) X.xe { s4 with heap := s4.heap.push { cls := .type "slice", data := .fields #[vl, vu, vs] } }
    refine tail_any (ops := [.ref a, .ref s4.heap.objs.size]) ht.typeIs (PyProof.Rows.slot_tuple_getitem.lookup) ?_ (by with_unfolding_all rfl)
    refine getItem_tuple_rev ht (Heap.IsSliceOf.new _ vl vu vs) pl pu ps ?_ (by rw [List.size_toArray]; omega)
    refine ⟨.ref _, _, I5.laid (t' := s4.toks) (o := .tup xs.reverse) (fun b ob q => Heap.get?_push_of_some _ q) (Nat.le_refl _) ?_, rfl, q _ (I5.hok.fresh (Nat.le_refl _))⟩
    exact ⟨by rw [List.length_reverse]; exact hz, _, r.reverse, IsTup.new _ _⟩
end
end Den
set_option autoImplicit false
set_option maxRecDepth 100000
set_option maxHeartbeats 4000000
/-! Den, part G5: a[::-1], insert, pop(i), extend, displays with stars, range with a step. -/
namespace Den
open PySem PySem.Spec PyProof.Rows L2 GxR
section
variable {X : Cx} {c : Ct} {g : Gh} {σ : L2.St} {H H1 : Hp} {ρ ρ1 ρ' : Ev} {tg e a b : Expr} {pos : Pos} {da db de di : M EV}
theorem r_revs {k : Nat} {p1 p2 p3 : Pos} (hK : X.K = c.K) (ha : PE X a (tE c da)) :
    PE X (.Subscript a (.Slice none none (some (.UnaryOp .USub (.Constant (.int 1) k p1) p2)) p3) pos) (tE c (bnd da revsM)) := by
  refine (pe_revA ha).weak fun σ H Q h => ?_
  refine (one h).mono fun x H1 ⟨g, ρ, ex, s, r, k⟩ => ?_
  have pe : peek ρ ex = peek ρ (settle ex) := by cases ex <;> rfl
  unfold revsM bnd peekM at k
  rw [pe] at k
  cases e1 : peek ρ (settle ex) with
  | none => rw [e1] at k; exact k.elim
  | some d =>
    rw [e1] at k
    cases d <;> first | exact k.elim | skip
    · rename_i ds
      obtain ⟨a', vs, rfl, h1, h2⟩ := p_lst (r.peek s e1)
      have hq := h1.sq
      rw [← hK] at hq
      exact ⟨a', vs, rfl, .inl ⟨hq, fun q hq' => k _ _ (Good.lst s hq' h2.reverse)⟩⟩
    · rename_i ds
      obtain ⟨a', vs, rfl, h1, h2⟩ := p_tup (r.peek s e1)
      have hq := h1.sq
      rw [← hK] at hq
      exact ⟨a', vs, rfl, .inr ⟨hq, fun q hq' => k _ _ (Good.tup s hq' h2.reverse)⟩⟩
/-! ### sorted(a, reverse=True) -/
theorem r_srev {p kp p1 : Pos} {j : Nat} (hK : X.K = c.K) (hg : Gl X (Str.ofString "sorted")) (hm : X.mg (Str.ofString "sorted") = none) (ha : PE X a (tE c da)) (ns : isStar a = false) :
    PE X (.Call (.Name (Str.ofString "sorted") p) [a] [⟨some (Str.ofString "reverse"), .Constant (.bool true) j p1, kp⟩] pos) (tE c (bnd da srvM)) := by
  refine (pe_callBK (cr_sortedRev (b := true)) hg hm PyProof.Rows.boot_sorted (pa_cons ha pa_nil (star_cons ns)) (pk_cons pe_bl pk_nil) (by decide) (by decide) (by rw [star_cons ns]; rfl) (by rw [star_cons ns]; rfl)).weak fun σ H Q h => ?_
  refine (one h).mono fun x H1 ⟨g, ρ, ex, s, r, k⟩ => ?_
  show rSortedKw X.K true [.bl true] [x] [.bl true] H1 Q
  have pe : peek ρ ex = peek ρ (settle ex) := by cases ex <;> rfl
  unfold srvM bnd peekM at k
  rw [pe] at k
  cases e1 : peek ρ (settle ex) with
  | none => rw [e1] at k; exact k.elim
  | some d =>
    rw [e1] at k
    cases d <;> first | exact k.elim | skip
    rename_i ds
    obtain ⟨a', vs, rfl, h1, h2⟩ := p_lst (r.peek s e1)
    have hq := h1.sq
    rw [← hK] at hq
    dsimp only at k
    cases en : intsD ds with
    | none => rw [en] at k; exact k.elim
    | some ns =>
      rw [en] at k
      have e1 := intsD_some en
      subst e1
      have e3 := h2.ints
      subst e3
      refine ⟨a', ns, rfl, rfl, hq, fun ns' q pm sr hp => ?_⟩
      have sr : ns'.Pairwise (· ≥ ·) := sr
      obtain ⟨p1, p2⟩ := sortedI_ok ns
      have e4 : ns'.reverse = sortedI ns := sorted_one ((List.reverse_perm _).trans (pm.trans p1.symm)) (List.pairwise_reverse.mpr sr) p2
      dsimp only at k
      rw [← e4, List.reverse_reverse] at k
      exact k _ _ (Good.lst s hp RelL.ofInts)
/-! ### displays with stars -/
theorem rs_star {es : List Expr} {p : Pos} {d : M EV} {ds : M (List PyData)} (hK : X.K = c.K) (he : PE X e (tE c d)) (hr : PA X es (tL c ds)) :
    PA X (.Starred e p :: es) (tL c (bnd d fun x => bnd (coe x) fun y => match y with
      | .tuple xs => bnd ds fun ys => ret (xs ++ ys)
      | .list xs => bnd ds fun ys => ret (xs ++ ys)
      | _ => fail)) := by
  refine (StX.pa_star he hr).weak fun σ H Q ⟨g, ρ, s, k⟩ => ?_
  refine ⟨g, ρ, s, ?_⟩
  cases e1 : d ρ with
  | bad => rw [bnd_bad e1] at k; exact k
  | exc x ρ1 => rw [bnd_exc e1] at k; exact k
  | ok ev ρ1 =>
    rw [bnd_ok e1] at k
    intro v H1 G
    rcases coe_inv G.sim G.ref rfl with e2 | ⟨dy, ρ2, e2, G2⟩
    · rw [bnd_bad e2] at k; exact k.elim
    · rw [bnd_ok e2] at k
      have G0 : GoodX c g σ H ρ H1 ρ2 := ⟨G2.sim, G.step.trans G2.step⟩
      have key : ∀ (a : Addr) (xs : List PyData) (vs : List V), RelL c.K (Tt g σ ρ2) H1 vs xs → KontL c g σ H ρ (bnd ds (fun ys => ret (xs ++ ys)) ρ2) Q → tL c ds σ H1 fun ys H2 => Q (vs ++ ys) H2 := by
        intro a xs vs rv k
        refine ⟨g, ρ2, G2.sim, ?_⟩
        cases e3 : ds ρ2 with
        | bad => rw [bnd_bad e3] at k; exact k
        | exc x ρ3 => rw [bnd_exc e3] at k; exact fun H' G3 => k H' (GoodX.trans G0.stp G3)
        | ok ys ρ3 =>
          rw [bnd_ok e3] at k
          exact fun us H' G3 ru => k (vs ++ us) H' (GoodX.trans G0.stp G3) ((RelL.ext G3.stp.ext rv).append ru)
      have rd := G2.res.2
      cases dy <;> first | exact k.elim | skip
      · rename_i xs
        unfold Rel at rd
        obtain ⟨a, vs, rfl, h1, h2⟩ := rd
        have hq := h1.rd.sq
        rw [← hK] at hq
        exact ⟨a, vs, rfl, .inr hq, key a xs vs h2 k⟩
      · rename_i xs
        unfold Rel at rd
        obtain ⟨a, vs, rfl, h1, h2⟩ := rd
        have hq := h1.sq
        rw [← hK] at hq
        exact ⟨a, vs, rfl, .inl hq, key a xs vs h2 k⟩
/-! ### range with a step -/
theorem walks_rangeC {lo st : Int} {n : Nat} : Walks c (Itc lo st n) ((List.range n).map fun (k : Nat) => .int (lo + (k : Int) * st)) [] := by
  intro g σ H ρ s _ i
  refine ⟨fun h => by simpa [Itc] using h, fun d hd => ?_⟩
  rw [List.getElem?_map] at hd
  cases e : (List.range n)[i]? with
  | none => rw [e] at hd; cases hd
  | some u =>
    rw [e] at hd; cases hd
    have hi : i < n := by have := get_lt e; simpa using this
    have hu : u = i := by
      rw [List.getElem?_range hi] at e
      exact (Option.some.inj e).symm
    subst hu
    exact ⟨hi, fun x H' ⟨e1, e2⟩ => by subst e1 e2; exact Good.of_val s rel_int⟩
theorem range3_inv {T : Addr → Prop} {K : Fg} {vs : List V} {ds : List PyData} {ns : List Int} (h : range3D ds = some ns) (r : PRelL K T H vs ds) :
    ∃ i j st : Int, vs = [.int i, .int j, .int st] ∧ RgC i j st (Builtin.Range.rangeSize i j st).toNat ∧ ns = (List.range (Builtin.Range.rangeSize i j st).toNat).map fun (k : Nat) => i + (k : Int) * st := by
  unfold range3D at h
  split at h
  · rename_i i j st
    split at h
    · rename_i hb
      cases h
      simp only [Bool.and_eq_true, decide_eq_true_eq] at hb
      obtain ⟨⟨⟨⟨⟨b1, b2⟩, b3⟩, b4⟩, b5⟩, b6⟩ := hb
      rcases vs with _ | ⟨v, _ | ⟨w, _ | ⟨u, _ | ⟨_, _⟩⟩⟩⟩
      · exact r.elim
      · exact r.2.elim
      · exact r.2.2.elim
      · have h1 := p_int r.1
        have h2 := p_int r.2.1
        have h3 := p_int r.2.2.1
        subst h1 h2 h3
        exact ⟨i, j, st, rfl, ⟨b3, b4, b5, by omega⟩, rfl⟩
      · exact r.2.2.2.elim
    · cases h
  · cases h
theorem i_rng3 {a1 a2 a3 : Expr} {p : Pos} {dl : M (List EV)} (hg : Gl X "range") (hm : X.mg "range" = none) (ha : PA X [a1, a2, a3] (tA c dl)) (ns1 : isStar a1 = false) (ns2 : isStar a2 = false) (ns3 : isStar a3 = false) :
    PI X tg (.Call (.Name "range" p) [a1, a2, a3] [] pos) (tI c (bnd dl rng3M)) := by
  refine (pi_range3 hg hm ha (star_cons ns1) (by rw [star_cons ns2, star_cons ns3]; rfl)).weak fun σ H Q ⟨g, ρ, s, k⟩ => ?_
  refine ⟨g, ρ, s, ?_⟩
  cases e1 : dl ρ with
  | bad => rw [bnd_bad e1] at k; exact k
  | exc x ρ1 => rw [bnd_exc e1] at k; exact k
  | ok evs ρ1 =>
    rw [bnd_ok e1] at k
    intro vs H1 G r
    unfold rng3M at k
    cases e2 : peeks ρ1 evs with
    | none => rw [e2] at k; exact k.elim
    | some ds =>
      rw [e2] at k
      have pr := peeks_rel G.sim r e2
      dsimp only at k
      cases e3 : range3D ds with
      | none => rw [e3] at k; exact k.elim
      | some ns =>
        rw [e3] at k
        have k' : KontI c g σ H ρ (.ok (.val .none, ns.map .int) ρ1) Q := k
        obtain ⟨i, j, st, rfl, hR, rfl⟩ := range3_inv e3 pr
        refine ⟨i, j, st, _, rfl, hR, k' H1 _ [] G (fun _ _ _ h => by cases h) (fun _ h => by cases h) ?_⟩
        have := walks_rangeC (c := c) (lo := i) (st := st) (n := (Builtin.Range.rangeSize i j st).toNat)
        simpa [Function.comp_def] using this
/-! ### methods that change a list of one's own -/
theorem RelL.eraseIdx {K : Fg} {T : Addr → Prop} : ∀ {ds : List PyData} {vs : List V} (n : Nat), RelL K T H vs ds → RelL K T H (vs.eraseIdx n) (ds.eraseIdx n)
  | [], vs, n, h => by unfold RelL at h; subst h; exact RelL.nil
  | d :: ds, vs, 0, h => by
    unfold RelL at h
    obtain ⟨u, r, rfl, h1, h3⟩ := h
    exact h3
  | d :: ds, vs, n + 1, h => by
    unfold RelL at h
    obtain ⟨u, r, rfl, h1, h3⟩ := h
    exact RelL.cons h1 (RelL.eraseIdx n h3)
theorem r_popI {p2 : Pos} {o : Expr} (ho : PE X o (tE c da)) (hb : PE X b (tE c db)) (hbase : attributeBase o "pop" X.env (eval o X.env) = eval o X.env) (hline : (p2.endLine == pos.line) = true) (ns : isStar b = false)
    (hfew : ((backTo pos (starEach [b] X.env)).all (fun x => !x.1) && (backToKw pos (keywordEach [] X.env)).all (fun x => x.1.isSome)
      && decide ([b].length + ([] : List Keyword).length + (if ([] : List Keyword).isEmpty then 0 else 1) < 30)) = true) :
    PE X (.Call (.Attribute o "pop" p2) [b] [] pos) (tE c (bnd da fun x => bnd (locM x) fun _ => bnd db fun y => popIM x y)) := by
  refine (pe_bm PySem.F.plainAttrs_list PySem.F.slot_list_pop PySem.F.type_list_pop mt_popAt ho (pa_cons hb pa_nil (star_cons ns)) hbase hfew hline (star_cons ns) (by rfl)).weak fun σ H Q h => ?_
  refine (one h).mono fun x H1 ⟨g, ρ, ex, s, r, k⟩ => ?_
  unfold bnd at k
  rcases locM_inv s r rfl with e | ⟨i, a, vs, rfl, e, rfl, ha⟩
  · rw [e] at k; exact k.elim
  · rw [e] at k
    refine ⟨.inl ⟨rfl, vs, SqL.of ha⟩, ?_⟩
    show tE c db σ H1 _
    refine (next s r k).mono fun y H2 ⟨ρ2, ey, s2, rx2, ry2, k2⟩ => ?_
    have pe : peek ρ2 ey = peek ρ2 (settle ey) := by cases ey <;> rfl
    unfold popIM at k2
    rw [pe] at k2
    cases e1 : peek ρ2 (settle ey) with
    | none => rw [e1] at k2; exact k2.elim
    | some d =>
      rw [e1] at k2
      cases d <;> first | exact k2.elim | skip
      rename_i n
      have hy := p_int (ry2.peek s2 e1)
      subst hy
      dsimp only at k2
      cases e4 : ρ2[i]? with
      | none => rw [e4] at k2; exact k2.elim
      | some sl =>
        rw [e4] at k2
        cases sl with
        | no => exact k2.elim
        | err _ => exact k2.elim
        | val _ => exact k2.elim
        | own p l ds =>
          cases l
          · dsimp only at k2
            obtain ⟨b1, us, q1, q2, q3, _⟩ := s2.own i p false ds e4
            have rx4 : σ[i]? = some (some (.ref a)) := rx2
            rw [rx4] at q1; cases q1
            by_cases hz : -(2 ^ 62) ≤ n ∧ n < 2 ^ 62
            · rw [if_pos hz] at k2
              cases e5 : seqIndex? n ds.length with
              | none => rw [e5] at k2; exact k2.elim
              | some m =>
                rw [e5] at k2
                dsimp only at k2
                cases e6 : ds[m]? with
                | none => rw [e6] at k2; exact k2.elim
                | some d =>
                  rw [e6] at k2
                  obtain ⟨y, hy, ry⟩ := q3.get e6
                  obtain ⟨s5, t5⟩ := s2.mutate e4 rx4 q2 (RelL.eraseIdx m q3)
                  exact ⟨a, us, n, m, y, rfl, rfl, q2, by omega, by omega, by rw [q3.length]; exact e5, hy, k2 y _ ⟨⟨s5, Rel.ext t5.ext ry⟩, t5⟩⟩
            · rw [if_neg hz] at k2; exact k2.elim
          · exact k2.elim
theorem r_ins {p2 : Pos} {o ix : Expr} (ho : PE X o (tE c da)) (hi : PE X ix (tE c di)) (hb : PE X b (tE c db)) (hbase : attributeBase o "insert" X.env (eval o X.env) = eval o X.env) (hline : (p2.endLine == pos.line) = true) (ns1 : isStar ix = false) (ns : isStar b = false) :
    PE X (.Call (.Attribute o "insert" p2) [ix, b] [] pos) (tE c (bnd da fun x => bnd (locM x) fun _ => bnd di fun y => bnd db fun z => bnd (coe z) fun d => insM x (settle y) d)) := by
  refine (pe_bm PySem.F.plainAttrs_list PySem.F.slot_list_insert PySem.F.type_list_insert mt_insert ho (pa_cons hi (pa_cons hb pa_nil (star_cons ns)) (star_cons ns1)) hbase (by rw [star_cons ns1, star_cons ns]; rfl) hline (star_cons ns1) (by rw [star_cons ns]; rfl)).weak fun σ H Q h => ?_
  refine (one h).mono fun x H1 ⟨g, ρ, ex, s, r, k⟩ => ?_
  unfold bnd at k
  rcases locM_inv s r rfl with e | ⟨i, a, vs, rfl, e, rfl, ha⟩
  · rw [e] at k; exact k.elim
  · rw [e] at k
    refine ⟨.inl ⟨rfl, vs, SqL.of ha⟩, ?_⟩
    show tE c di σ H1 _
    have k : Kont c g σ H1 ρ (bnd di (fun y => bnd db fun z => bnd (coe z) fun d => insM (.loc i) (settle y) d) ρ) Q := k
    refine ⟨g, ρ, s, ?_⟩
    cases e1 : di ρ with
    | bad => rw [bnd_bad e1] at k; exact k
    | exc x ρ1 => rw [bnd_exc e1] at k; exact k
    | ok ey ρ2 =>
      rw [bnd_ok e1] at k
      intro y H2 G2
      refine ⟨g, ρ2, G2.sim, ?_⟩
      have k := Kont.step G2.step k
      cases e2 : db ρ2 with
      | bad => rw [bnd_bad e2] at k; exact k
      | exc x ρ1 => rw [bnd_exc e2] at k; exact k
      | ok ez ρ3 =>
        rw [bnd_ok e2] at k
        intro z H3 G3
        have k := Kont.step G3.step k
        rcases coe_inv G3.sim G3.ref rfl with e3 | ⟨d', ρ', e3, G⟩
        · rw [bnd_bad e3] at k; exact k.elim
        · rw [bnd_ok e3] at k
          have k3 := Kont.step G.stp k
          have rx4 : σ[i]? = some (some (.ref a)) := r
          have ry := (G2.ref.step G3.step).step G.stp
          unfold insM at k3
          cases e5 : peek ρ' (settle ey) with
          | none => rw [e5] at k3; exact k3.elim
          | some dn =>
            rw [e5] at k3
            cases dn <;> first | exact k3.elim | skip
            rename_i n
            have hy := p_int (ry.peek G.sim e5)
            subst hy
            dsimp only at k3
            cases e4 : ρ'[i]? with
            | none => rw [e4] at k3; exact k3.elim
            | some sl =>
              rw [e4] at k3
              cases sl with
              | no => exact k3.elim
              | err _ => exact k3.elim
              | val _ => exact k3.elim
              | own p l ds =>
                cases l
                · dsimp only at k3
                  obtain ⟨b1, us, q1, q2, q3, _⟩ := G.sim.own i p false ds e4
                  rw [rx4] at q1; cases q1
                  by_cases hz : ds.length < line ∧ 0 ≤ n ∧ n < 2 ^ 62
                  · rw [if_pos hz] at k3
                    have hl := q3.length
                    obtain ⟨s5, t5⟩ := G.sim.mutate e4 rx4 q2 (((q3.take n.toNat).snoc G.res.2).append (q3.drop n.toNat))
                    exact ⟨a, us, n, z, rfl, rfl, q2, by rw [hl, ← line_eq]; exact hz.1, hz.2.1, by omega, k3 .non _ ⟨⟨s5, rel_non⟩, t5⟩⟩
                  · rw [if_neg hz] at k3; exact k3.elim
                · exact k3.elim
theorem r_ext {p2 : Pos} {o : Expr} (ho : PE X o (tE c da)) (hb : PE X b (tE c db)) (hbase : attributeBase o "extend" X.env (eval o X.env) = eval o X.env) (hline : (p2.endLine == pos.line) = true) (ns : isStar b = false)
    (hfew : ((backTo pos (starEach [b] X.env)).all (fun x => !x.1) && (backToKw pos (keywordEach [] X.env)).all (fun x => x.1.isSome)
      && decide ([b].length + ([] : List Keyword).length + (if ([] : List Keyword).isEmpty then 0 else 1) < 30)) = true) :
    PE X (.Call (.Attribute o "extend" p2) [b] [] pos) (tE c (bnd da fun x => bnd (locM x) fun _ => bnd db fun y => extM x y)) := by
  refine (pe_bm PySem.F.plainAttrs_list PySem.F.slot_list_extend PySem.F.type_list_extend mt_extend ho (pa_cons hb pa_nil (star_cons ns)) hbase hfew hline (star_cons ns) (by rfl)).weak fun σ H Q h => ?_
  refine (one h).mono fun x H1 ⟨g, ρ, ex, s, r, k⟩ => ?_
  unfold bnd at k
  rcases locM_inv s r rfl with e | ⟨i, a, vs, rfl, e, rfl, ha⟩
  · rw [e] at k; exact k.elim
  · rw [e] at k
    refine ⟨.inl ⟨rfl, vs, SqL.of ha⟩, ?_⟩
    show tE c db σ H1 _
    have k : Kont c g σ H1 ρ (bnd db (fun y => extM (.loc i) y) ρ) Q := k
    refine ⟨g, ρ, s, ?_⟩
    cases e2 : db ρ with
    | bad => rw [bnd_bad e2] at k; exact k
    | exc x ρ1 => rw [bnd_exc e2] at k; exact k
    | ok ez ρ3 =>
      rw [bnd_ok e2] at k
      intro z H3 G3
      have k3 := Kont.step G3.step k
      have rx4 : σ[i]? = some (some (.ref a)) := r
      unfold extM at k3
      cases ez with
      | val _ => exact k3.elim
      | loc _ => exact k3.elim
      | fresh es =>
        dsimp only at k3
        obtain ⟨b2, ws, rfl, s6, hb2, rb2, nt2, my2⟩ := G3.res
        have s3 := s6.minus
        have rel2 : RelL c.K (Tt g σ ρ3) H3 ws es := rb2.ext (Ext.weak fun b h => tt_plus.mpr (.inl h))
        cases e4 : ρ3[i]? with
        | none => rw [e4] at k3; exact k3.elim
        | some sl =>
          rw [e4] at k3
          cases sl with
          | no => exact k3.elim
          | err _ => exact k3.elim
          | val _ => exact k3.elim
          | own p l ds =>
            cases l
            · dsimp only at k3
              obtain ⟨b1, us, q1, q2, q3, _⟩ := s3.own i p false ds e4
              rw [rx4] at q1; cases q1
              by_cases hz : ds.length + es.length ≤ line
              · rw [if_pos hz] at k3
                obtain ⟨s5, t5⟩ := s3.mutate e4 rx4 q2 (q3.append rel2)
                exact ⟨a, b2, us, ws, rfl, rfl, q2, hb2, by rw [q3.length, rel2.length, ← line_eq]; exact hz, k3 .non _ ⟨⟨s5, rel_non⟩, t5⟩⟩
              · rw [if_neg hz] at k3; exact k3.elim
            · exact k3.elim
end
end Den
set_option autoImplicit false
set_option maxRecDepth 100000
set_option maxHeartbeats 4000000
/-! Den, part G7: a[::s] of a list, s above nought. -/
namespace Den
open PySem PySem.Spec PyProof.Rows L2 GxR HT
theorem pick_vals {xs : List V} {its : List Value} (r : Vals xs its) : ∀ l : List Nat, Vals (l.filterMap (xs[·]?)) (l.filterMap (its[·]?))
  | [] => .nil
  | i :: l => by
    have ih := pick_vals r l
    have hl := r.length
    by_cases h : i < xs.length
    · have e1 : xs[i]? = some xs[i] := List.getElem?_eq_getElem h
      have e2 : its[i]? = some (its[i]'(by omega)) := List.getElem?_eq_getElem (by omega)
      obtain ⟨u, hu, ru⟩ := r.get e1
      rw [e2] at hu
      rw [List.filterMap_cons, List.filterMap_cons]
      simp only [e1, e2]
      rw [Option.some.inj hu]
      exact .cons ru ih
    · have e1 : xs[i]? = none := List.getElem?_eq_none (by omega)
      have e2 : its[i]? = none := List.getElem?_eq_none (by omega)
      rw [List.filterMap_cons, List.filterMap_cons]
      simp only [e1, e2]
      exact ih
theorem pick_len {α : Type} (xs : List α) {k : Int} (h : 0 < k) : (pickL xs k).length ≤ xs.length := by
  unfold pickL
  refine Nat.le_trans (List.length_filterMap_le ..) ?_
  exact sliceRange_length_le 0 xs.length k xs.length (fun _ => ⟨Int.le_refl 0, Int.le_refl _⟩) (fun z => absurd h z)
theorem pick_eq (its : List Value) {k : Int} (h : 0 < k) : slicePick its.toArray none none (some k) = (pickL its k).toArray := by
  unfold slicePick pickL sliceBounds
  simp only [Option.getD_some, h, if_true, List.size_toArray]
  congr 1
  congr 1
  funext i
  simp
section
variable {X : Cx}
def tSlS (K : PySem.W.Frag) (te ts : TE) : TE := fun σ H Q => te σ H fun x H1 => ts σ H1 fun y H2 => ∃ k, y = .int k ∧ ∃ a xs, x = .ref a ∧ SqL K H2 a xs ∧ 0 < k ∧ ∀ p, H2 p = none → Q (.ref p) (upd H2 p (.lst (pickL xs k)))
theorem pe_slS {e es : Expr} {te ts : TE} {p3 pos : Pos} (he : PE X e te) (hs : PE X es ts) : PE X (.Subscript e (.Slice none none (some es) p3) pos) (tSlS X.K te ts) := by
  refine ⟨fun pins s σ H Q I h => ?_⟩
  refine Subscript_ (thn (he.run pins s σ H _ I h) fun v s1 ⟨x, H1, I1, r1, q1⟩ => ?_)
  have hst : PO X (some es) (tPart ts) := po_some hs
  refine wpAny_Slice (thn (po_none.run pins s1 σ H1 (fun o H2 => o = none ∧ H2 = H1) I1 ⟨rfl, rfl⟩) fun vl s2 ⟨l, H2, I2, pl, el, e2⟩ => ?_)
  subst el e2
  refine thn (po_none.run pins s2 σ H2 (fun o H3 => o = none ∧ H3 = H2) I2 ⟨rfl, rfl⟩) fun vu s3 ⟨u, H3, I3, pu, eu, e3⟩ => ?_
  subst eu e3
  refine thn (hst.run pins s3 σ H3 (fun o H4 => match o with | some k => (∃ a xs, x = .ref a ∧ SqL X.K H4 a xs ∧ 0 < k ∧ ∀ p, H4 p = none → Q (.ref p) (upd H4 p (.lst (pickL xs k)))) | none => False) I3 q1) fun vs s4 ⟨o, H4, I4, ps, w⟩ => ?_
  cases o with
  | none => exact w.elim
  | some k =>
  obtain ⟨a, xs, ex, hx, hk, q⟩ := w
  subst ex
  cases r1
  have I5 : Inv X pins σ H4 { s4 with heap := s4.heap.push { cls := .type "slice", data := .fields #[vl, vu, vs] } } := I4.kept (t' := s4.toks) fun b ob q => Heap.get?_push_of_some _ q
  obtain ⟨its, r, ht, hz⟩ := I5.list hx
  have hlen := r.length
  show wpAny (model X.prog X.w) X.A (subscriptTail e (.Slice none none (some es) p3) (.ref a) (.ref s4.heap.objs.size)) (EP X pins σ Q) X.xe { s4 with heap := s4.heap.push { cls := .type "slice", data := .fields #[vl, vu, vs] } }
  refine tail_any (ops := [.ref a, .ref s4.heap.objs.size]) ht.isList.typeIs (PySem.slot_list_getitem.lookup) ?_ (by with_unfolding_all rfl)
  refine wpAny_getItem_list_slice ht.isList (Heap.IsSliceOf.new _ vl vu vs) pl pu ps (by intro z; have := Option.some.inj z; omega) ?_ (by rw [List.size_toArray]; omega)
  rw [pick_eq its hk]
  have rp : Vals (pickL xs k) (pickL its k) := by
    have := pick_vals r (sliceRange 0 (xs.length : Int) k)
    unfold pickL
    rw [← hlen]
    exact this
  refine ⟨.ref _, _, I5.laid (t' := s4.toks) (o := .lst (pickL xs k)) (fun b ob q => Heap.get?_push_of_some _ q) (Nat.le_refl _) ?_, rfl, q _ (I5.hok.fresh (Nat.le_refl _))⟩
  exact ⟨Nat.le_trans (pick_len xs hk) hz, _, 0, rp, Heap.get?_push_size _ rfl⟩
theorem pick_rel {K : Fg} {T : Addr → Prop} {H : Hp} {ds : List PyData} {vs : List V} (r : RelL K T H vs ds) : ∀ l : List Nat, RelL K T H (l.filterMap (vs[·]?)) (l.filterMap (ds[·]?))
  | [] => RelL.nil
  | i :: l => by
    have ih := pick_rel r l
    have hl := r.length
    rw [List.filterMap_cons, List.filterMap_cons]
    cases e : ds[i]? with
    | none =>
      have e1 : vs[i]? = none := List.getElem?_eq_none (by have := List.getElem?_eq_none_iff.mp e; omega)
      simp only [e1]
      exact ih
    | some d =>
      obtain ⟨y, hy, ry⟩ := r.get e
      simp only [hy]
      exact RelL.cons ry ih
variable {c : Ct} {σ : L2.St} {H : Hp} {a b : Expr} {pos : Pos} {da db : M EV}
theorem r_slcS {p3 : Pos} (hK : X.K = c.K) (ha : PE X a (tE c da)) (hb : PE X b (tE c db)) : PE X (.Subscript a (.Slice none none (some b) p3) pos) (tE c (bnd da fun x => bnd db fun y => slSM x y)) := by
  refine (pe_slS ha hb).weak fun σ H Q h => ?_
  refine (one h).mono fun x H1 ⟨g, ρ, ex, s, r, k⟩ => ?_
  refine (next s r k).mono fun y H2 ⟨ρ2, ey, s2, rx2, ry2, k2⟩ => ?_
  have px : peek ρ2 ex = peek ρ2 (settle ex) := by cases ex <;> rfl
  have py : peek ρ2 ey = peek ρ2 (settle ey) := by cases ey <;> rfl
  unfold slSM at k2
  try rw [px] at k2
  try rw [py] at k2
  cases e1 : peek ρ2 (settle ex) with
  | none => rw [e1] at k2; exact k2.elim
  | some d =>
    rw [e1] at k2
    cases d <;> first | exact k2.elim | skip
    rename_i ds
    cases e2 : peek ρ2 (settle ey) with
    | none => rw [e2] at k2; exact k2.elim
    | some dn =>
      rw [e2] at k2
      cases dn <;> first | exact k2.elim | skip
      rename_i n
      have hy := p_int (ry2.peek s2 e2)
      subst hy
      obtain ⟨a', vs, rfl, h1, h2⟩ := p_lst (rx2.peek s2 e1)
      have hq := h1.sq
      rw [← hK] at hq
      dsimp only at k2
      by_cases hz : 0 < n
      · rw [if_pos hz] at k2
        refine ⟨n, rfl, a', vs, rfl, hq, hz, fun q hq' => k2 _ _ (Good.lst s2 hq' ?_)⟩
        have := pick_rel h2 (sliceRange 0 (ds.length : Int) n)
        unfold pickL
        rw [h2.length]
        exact this
      · rw [if_neg hz] at k2; exact k2.elim
end
end Den
set_option autoImplicit false
set_option maxRecDepth 100000
set_option maxHeartbeats 4000000
/-! Den, part S: which core term an expression is. -/
namespace Den
open PySem PySem.Spec PyProof.Rows L2 GxR
/-- what is known of a block's names: the frame's slots, its scope; the module's defs (their number, their parameters' count) and constants; built-in names that stand; may generator expressions stand here; how deep -/
structure Mc where
  N : List Str
  sc : Scope
  fn : Bool
  fs : List (Str × Nat × Nat)
  cs : List (Str × Nat)
  xs : List (Str × Nat)
  bs : List Str
  gcd : Bool
  gx : Bool
  gd : Nat
  /-- 0: nothing is handled; 1: an exception is; 2: one is, within a block -/
  md : Nat := 0
  sub : List (Str × List Nat) := []
  nx : Nat := 0
  /-- the names with cells of the block's own -/
  cl : Str → Bool := fun _ => false
  fh : List (Str × Nat × Nat) := []
def okN (x : Str) : Bool := !(x == ("__debug__" : Str)) && !(x == ("__classdict__" : Str)) && !(x == ("__name__" : Str))
def kindB (m : Mc) (x : Str) : Option NameKind := m.sc.names.lookup x
def visB (m : Mc) (x : Str) : Bool := match kindB m x with
  | some .local | some .cell | some .free => true
  | _ => false
def locB (m : Mc) (x : Str) : Bool := match kindB m x with
  | some .local => true
  | some .cell => m.fn || m.cl x
  | _ => false
def glB (m : Mc) (x : Str) : Bool := match kindB m x with
  | some .globalImplicit => true
  | _ => false
def bltB (m : Mc) (x : Str) : Bool := glB m x && decide (x ∈ m.bs) && okN x
def Mc.blk (m : Mc) (scope : Scope) : Mc := { m with sc := relS scope m.sc, fn := false, md := if m.md = 0 then 0 else 2, cl := fun x => scope.names.lookup x == some .cell }
def Mc.sx (m : Mc) : Mc := { m with md := 1 }
def Mc.gen (m : Mc) (scope : Scope) : Mc := { m with sc := scope, fn := false, gx := false, gd := m.gd - 1, cl := fun _ => false }
def isSet : Expr → Bool
  | .Set _ _ _ => true
  | .List _ _ => true
  | _ => false
def isSetOnly : Expr → Bool
  | .Set _ _ _ => true
  | _ => false
def isCall : Expr → Bool
  | .Call _ _ _ _ => true
  | _ => false
/-- targets -/
def tgNames : Expr → List Str
  | .Name x _ => [x]
  | .Tuple ts _ _ => ts.filterMap fun | .Name x _ => some x | _ => none
  | _ => []
def mNs (m : Mc) : List Nat → List Expr → Bool
  | [], [] => true
  | i :: is, .Name x _ :: ts => decide (m.N[i]? = some x) && locB m x && mNs m is ts
  | _, _ => false
def mNp (m : Mc) : List (Nat ⊕ List Nat) → List Expr → Bool
  | [], [] => true
  | .inl i :: is, .Name x _ :: ts => decide (m.N[i]? = some x) && locB m x && mNp m is ts
  | .inr js :: is, .Tuple es _ _ :: ts => mNs m js es && mNp m is ts
  | _, _ => false
def npNames : Expr → List Str
  | .Tuple ts _ _ => ts.flatMap fun
    | .Name x _ => [x]
    | .Tuple es _ _ => es.filterMap fun | .Name x _ => some x | _ => none
    | _ => []
  | _ => []
def mTg (m : Mc) : Tg → Expr → Bool
  | .nm i, .Name x _ => decide (m.N[i]? = some x) && locB m x
  | .tp is, .Tuple ts _ _ => mNs m is ts
  | .np is, .Tuple ts _ _ => decide (m.md = 0) && mNp m is ts
  | _, _ => false
def ownOf (t : Tg) (e : Expr) : List (Str × Nat) := match t with
  | .np is => (npNames e).zip (npVars is)
  | t => (tgNames e).zip t.vars
/-- a[::-1] -/
def isRevs : Expr → Option Expr
  | .Subscript l (.Slice none none (some (.UnaryOp .USub (.Constant (.int 1) _ _) _)) _) _ => some l
  | _ => none
def mK : PyData → Expr → Bool
  | .none, .Constant .none _ _ => true
  | .bool b, .Constant (.bool c) _ _ => b == c
  | .int i, .Constant (.int j) _ _ => decide (i = j)
  | .str s, .Constant (.str z) _ _ => decide (s = z) && PyData.strOk s
  | _, _ => false
def genB (scope : Scope) : Bool := !scope.isCoroutine && (scope.names.all fun y => decide (y.2 ≠ .cell)) && decide (scope.names.lookup (".0" : Str) = some NameKind.local)
mutual
def mE : CE → Mc → Expr → Bool
  | .var i, m, e => match e with
    | .Name x _ => decide (m.N[i]? = some x) && visB m x && okN x
    | _ => false
  | .cst d, _, e => mK d e
  | .glb j, m, e => match e with
    | .Name x _ => glB m x && okN x && decide (m.cs.lookup x = some j)
    | _ => false
  | .bin o a b, m, e => match e with
    | .BinOp l op r _ => decide (op = opOf o) && mE a m l && mE b m r
    | _ => false
  | .neg a, m, e => match e with
    | .UnaryOp .USub l _ => mE a m l
    | _ => false
  | .nt a, m, e => match e with
    | .UnaryOp .Not l _ => mE a m l
    | _ => false
  | .cmp o a b, m, e => match e with
    | .Compare l [op] [r] _ => decide (op = cmpOf o) && !behindInMarks op r && mE a m l && mE b m r
    | _ => false
  | .cmp2 o p a b c, m, e => match e with
    | .Compare l [op, op2] [r, r2] _ => decide (op = cmpOf o) && decide (op2 = cmpOf p) && !lastMarks [op, op2] [r, r2] && mE a m l && mE b m r && mE c m r2
    | _ => false
  | .and es, m, e => match e with
    | .BoolOp .And l _ => !l.isEmpty && mEs es m l
    | _ => false
  | .or es, m, e => match e with
    | .BoolOp .Or l _ => !l.isEmpty && mEs es m l
    | _ => false
  | .ite c a b, m, e => match e with
    | .IfExp t x y _ => mE c m t && mE a m x && mE b m y
    | _ => false
  | .tup es, m, e => match e with
    | .Tuple l _ _ => mEs es m l
    | _ => false
  | .lst es, m, e => match e with
    | .List l _ => mEs es m l
    | _ => false
  | .call f es, m, e => match e with
    | .Call (.Name x _) l [] _ => decide (m.md = 0) && (glB m x && okN x && !l.isEmpty && decide (m.fs.lookup x = some (f, l.length)) && mEs es m l)
    | _ => false
  | .bi b es, m, e => match e with
    | .Call (.Name x _) l [] _ => (biCalm b || decide (m.md = 0)) && (!l.isEmpty && (if b = .gcd then glB m x && m.gcd && decide (x = Str.ofString "gcd") else bltB m x && decide (x = Str.ofString (biName b))) && mEs es m l)
    | _ => false
  | .isi a t, m, e => match e with
    | .Call (.Name x _) [l, .Name y _] [] _ => bltB m x && bltB m y && decide (x = Str.ofString "isinstance") && decide (y = Str.ofString (tyName t)) && mE a m l
    | _ => false
  | .idx a i, m, e => match e with
    | .Subscript l s _ => !isSlice s && mE a m l && mE i m s
    | _ => false
  | .slc a lo hi, m, e => match e with
    | .Subscript l (.Slice x y none _) _ => mE a m l && mO lo m x && mO hi m y
    | _ => false
  | .lc elt t it ifs, m, e => match e with
    | .ListComp x [⟨tg, i, fs, k⟩] scope _ => decide (k = 0) && blkC m.N m.sc scope (ownOf t tg) && decide ((ownOf t tg).map (·.2) = t.vars) && !isSetOnly i && (if m.md = 1 then mH it m i else decide (m.md = 0) && mI it m tg i) && mTg (m.blk scope) t tg && decide (fs.length ≤ 1) && mEs ifs (m.blk scope) fs && mE elt (m.blk scope) x
    | _ => false
  | .gx b elt t it ifs, m, e => match e with
    | .Call (.Name n _) [.GeneratorExp x [⟨tg, i, fs, k⟩] scope _] [] _ => decide (m.md = 0) && (m.gx && decide (0 < m.gd) && bltB m n && decide (n = Str.ofString b.name) && decide (k = 0) && genB scope && blkC m.N m.sc scope (ownOf t tg) && decide ((ownOf t tg).map (·.2) = t.vars) && !isSet i && mI it m tg i &&
        mTg (m.gen scope) t tg && decide (fs.length ≤ 1) && mEs ifs (m.gen scope) fs && mE elt (m.gen scope) x)
    | _ => false
  | .app a x, m, e => match e with
    | .Call (.Attribute o n p2) [v] [] pos => decide (n = Str.ofString "append") && !isCall o && (p2.endLine == pos.line) && mE a m o && mE x m v
    | _ => false
  | .pop a, m, e => match e with
    | .Call (.Attribute o n p2) [] [] pos => decide (n = Str.ofString "pop") && !isCall o && (p2.endLine == pos.line) && mE a m o
    | _ => false
  | .rev a, m, e => match e with
    | .Call (.Name x _) [.Call (.Name y _) [l] [] _] [] _ => decide (m.md = 0) && (bltB m x && bltB m y && decide (x = Str.ofString "list") && decide (y = Str.ofString "reversed") && mE a m l)
    | _ => false
  | .lrg es, m, e => match e with
    | .Call (.Name x _) [.Call (.Name y _) l [] _] [] _ => decide (m.md = 0) && (bltB m x && bltB m y && decide (x = Str.ofString "list") && decide (y = Str.ofString "range") && !l.isEmpty && mEs es m l)
    | _ => false
  | .trg es, m, e => match e with
    | .Call (.Name x _) [.Call (.Name y _) l [] _] [] _ => decide (m.md = 0) && (bltB m x && bltB m y && decide (x = Str.ofString "tuple") && decide (y = Str.ofString "range") && !l.isEmpty && mEs es m l)
    | _ => false
  | .ixof a x, m, e => match e with
    | .Call (.Attribute o n p2) [v] [] pos => decide (n = Str.ofString "index") && !isCall o && (p2.endLine == pos.line) && mE a m o && mE x m v
    | _ => false
  | .isx i ks, m, e => match e with
    | .Call (.Name f _) [.Name n _, .Name x _] [] _ => decide (m.md = 1) && bltB m f && decide (f = Str.ofString "isinstance") && decide (m.N[i]? = some n) && visB m n && okN n && glB m x && okN x && decide (m.sub.lookup x = some ks)
    | _ => false
  | .callX f i, m, e => match e with
    | .Call (.Name x _) [.Name n _] [] _ => decide (m.md = 1) && glB m x && okN x && decide (m.fh.lookup x = some (f, 1)) && decide (m.N[i]? = some n) && visB m n && okN n
    | _ => false
  | .revs a, m, e => match e with
    | .Subscript l (.Slice none none (some (.UnaryOp .USub (.Constant (.int 1) _ _) _)) _) _ => mE a m l
    | _ => false
  | .slcS a s, m, e => match e with
    | .Subscript l (.Slice none none (some st) _) _ => mE a m l && mE s m st
    | _ => false
  | .srev a, m, e => match e with
    | .Call (.Name x _) [l] [⟨some y, .Constant (.bool true) _ _, _⟩] _ => bltB m x && decide (x = Str.ofString "sorted") && decide (y = Str.ofString "reverse") && mE a m l
    | _ => false
  | .ins a i x, m, e => match e with
    | .Call (.Attribute o n p2) [ix, v] [] pos => decide (n = Str.ofString "insert") && !isCall o && (p2.endLine == pos.line) && mE a m o && mE i m ix && mE x m v
    | _ => false
  | .popI a i, m, e => match e with
    | .Call (.Attribute o n p2) [v] [] pos => decide (n = Str.ofString "pop") && !isCall o && (p2.endLine == pos.line) && mE a m o && mE i m v
    | _ => false
  | .ext a x, m, e => match e with
    | .Call (.Attribute o n p2) [v] [] pos => decide (n = Str.ofString "extend") && !isCall o && (p2.endLine == pos.line) && mE a m o && mE x m v
    | _ => false
  | .tupS fs es, m, e => match e with
    | .Tuple l _ _ => mSs es fs m l
    | _ => false
  | .lzip _ _, _, _ => false
/-- several, some with a star -/
def mSs : CEs → List Bool → Mc → List Expr → Bool
  | .nil, fs, _, l => l.isEmpty && fs.isEmpty
  | .cons c cs, fs, m, l => match fs, l with
    | true :: fs', .Starred e _ :: r => mE c m e && mSs cs fs' m r
    | false :: fs', e :: r => mE c m e && mSs cs fs' m r
    | _, _ => false
/-- what a comprehension walks while an exception is handled -/
def mH : CI → Mc → Expr → Bool
  | .seq c, m, e => mE c m e
  | .ex _, _, _ => false
  | .rng _, _, _ => false
  | .enum _, _, _ => false
  | .zip _ _, _, _ => false
  | .rev _, _, _ => false
  | .rng3 _, _, _ => false
def mEs : CEs → Mc → List Expr → Bool
  | .nil, _, l => l.isEmpty
  | .cons c cs, m, l => match l with
    | e :: r => mE c m e && mEs cs m r
    | [] => false
def mO : CEs → Mc → Option Expr → Bool
  | .nil, _, o => o.isNone
  | .cons c cs, m, o => match o with
    | some e => mE c m e && (match cs with | .nil => true | _ => false)
    | none => false
/-- what is walked, with its target -/
def mI : CI → Mc → Expr → Expr → Bool
  | .ex c, m, _, e => mE c m e
  | .rng cs, m, _, e => match e with
    | .Call (.Name x _) l [] _ => bltB m x && decide (x = Str.ofString "range") && (decide (l.length = 1) || decide (l.length = 2)) && mEs cs m l
    | _ => false
  | .enum c, m, tg, e => match e, tg with
    | .Call (.Name x _) [l] [] _, .Tuple _ _ _ => bltB m x && decide (x = Str.ofString "enumerate") && mE c m l
    | _, _ => false
  | .zip a b, m, tg, e => match e, tg with
    | .Call (.Name x _) [l, r] [] _, .Tuple _ _ _ => bltB m x && decide (x = Str.ofString "zip") && mE a m l && mE b m r
    | _, _ => false
  | .rev c, m, _, e => match e with
    | .Call (.Name x _) [l] [] _ => bltB m x && decide (x = Str.ofString "reversed") && mE c m l
    | _ => false
  | .seq _, _, _, _ => false
  | .rng3 cs, m, _, e => match e with
    | .Call (.Name x _) l [] _ => bltB m x && decide (x = Str.ofString "range") && decide (l.length = 3) && mEs cs m l
    | _ => false
end
end Den
set_option autoImplicit false
set_option maxRecDepth 100000
set_option maxHeartbeats 4000000
/-! Den, part T: expressions, their core terms, their readings. -/
namespace Den
open PySem PySem.Spec PyProof.Rows L2 GxR
/-- while p, an error of the class number k at D, is handled -/
structure HotOk (Γ : Fns) (kf : Nat) (X : Cx) (c : Ct) (m : Mc) (p : Pin) (k : Nat) (D : Addr) : Prop where
  hot : L2H.Hot1 X.A p
  pn : p ∈ X.pn
  err : c.err = some (p.1, k)
  zc : Zc (.ref D) none p.2
  ec : ExcC X.K D
  sub : ∀ x ks, m.sub.lookup x = some ks → ∃ Ca, X.mg x = some (.ref Ca) ∧ PySem.W.kitOne X.K (.ref D) (.ref Ca) = some (ks.contains k)
  fh : ∀ x j, m.fh.lookup x = some (j, 1) → ∃ fa fd ps, FnE p X.prog X.w X.K X.mg X.base (L2N.CX X.prog X.w) kf fa fd ps (spF c 1 (Γ j)) ∧ WfF 1 (Γ j) ∧ X.mg x = some (.ref fa) ∧ PySem.W.keepIn X.K (.ref fa) = true ∧ Binds X.K fd ps []
structure XOk (Γ : Fns) (C : List PyData) (kf : Nat) (X : Cx) (c : Ct) (m : Mc) : Prop where
  K : X.K = c.K
  calm : m.md = 0 → X.calm = true
  N : X.N = m.N
  nd : m.N.Nodup
  nodot : (".0" : Str) ∉ m.N
  sc : X.env.scope = m.sc
  fnc : ∀ x, (m.fn || m.cl x) = true → X.fn x = true
  room : m.md = 0 → Room (kf + m.gd) X.A
  rh : L2H.RoomH (kf + m.gd) X.A
  tk : L2N.Takes X c.W
  fs : m.md = 0 → ∀ x j np, m.fs.lookup x = some (j, np) → ∃ fa fd ps, FnOk X.prog X.w X.K X.mg X.base (L2N.CX X.prog X.w) kf fa fd ps (spF c.nox np (Γ j)) ∧ WfF np (Γ j) ∧ X.mg x = some (.ref fa) ∧ PySem.W.keepIn X.K (.ref fa) = true ∧ Binds X.K fd ps []
  cs : ∀ x j, m.cs.lookup x = some j → ∃ v u d, C[j]? = some d ∧ X.mg x = some u ∧ RelV v u ∧ ∀ T H, Rel c.K T H v d
  bs : ∀ x ∈ m.bs, X.mg x = none
  gcd : m.gcd = true → X.mg "gcd" = some (.builtin "math.gcd")
  tab : m.gx = true → ∃ cc P, X.env.code = .ref cc ∧ TabB X.base X.mg cc P ∧ c.TB P
  hotc : m.md = 1 → ∃ p k D, HotOk Γ kf X c m p k D
section
variable {Γ : Fns} {C : List PyData} {kf : Nat} {X : Cx} {c : Ct} {m : Mc}
theorem takes_no {X : Cx} : L2N.Takes X (fun _ _ _ _ => False) := fun _ _ ⟨_, _, _, _, _, _, _, _, _, _, _, _, _, _, _, _, w⟩ => w.elim
theorem blk_md {m : Mc} {scope : Scope} (h : (m.blk scope).md = 0) : m.md = 0 := by
  unfold Mc.blk at h
  dsimp only at h
  split at h
  · assumption
  · cases h
theorem blk_md1 {m : Mc} {scope : Scope} : (m.blk scope).md ≠ 1 := by
  unfold Mc.blk
  dsimp only
  split <;> decide
theorem XOk.blk (o : XOk Γ C kf X c m) {s : Shared} {H : Hp} {scope : Scope} {C' : Addr} {cl : List (Str × Addr)} {fp : List Addr} : XOk Γ C kf (X.blk s H scope (compEnvC scope cl C' X.env) fp) c.nox (m.blk scope) :=
  ⟨o.K, fun h => o.calm (blk_md h), o.N, o.nd, o.nodot, by rw [show (m.blk scope).sc = relS scope m.sc from rfl, ← o.sc]; rfl, fun x h => h, fun h => o.room (blk_md h), o.rh, takes_no, fun h => o.fs (blk_md h), o.cs, o.bs, o.gcd, o.tab, fun h => absurd h blk_md1⟩
theorem XOk.gen (o : XOk Γ C kf X c m) (hd : 0 < m.gd) (hm : m.md = 0) {s : Shared} {H : Hp} {scope : Scope} {C' : Addr} {code : Value} {cl : List (Str × Addr)} {fp : List Addr} {pn : List (Addr × Obj)} : XOk Γ C kf (X.gen s H scope (genEnv scope cl C' code builtinsNs X.env) fp pn) c.nox (m.gen scope) := by
  obtain ⟨h1, h2, h3⟩ := o.room hm
  have d1 : X.A.depth + 1 + 3 * (kf + (m.gd - 1)) + 5 < recursionLimit := by omega
  have d2 : X.A.units + 1 + 1 + 3 + 16 * (kf + (m.gd - 1)) + 200 < cLine := by omega
  exact ⟨o.K, fun h => o.calm hm, o.N, o.nd, o.nodot, rfl, fun _ h => (Bool.false_ne_true h).elim, fun _ => ⟨h1, d1, d2⟩, ⟨d1, d2⟩, takes_no, fun _ => o.fs hm, o.cs, o.bs, o.gcd, fun h => (Bool.false_ne_true h).elim, fun h => by
    have h' : m.md = 1 := h
    rw [hm] at h'; cases h'⟩
theorem XOk.units (o : XOk Γ C kf X c m) : X.A.units + 100 < cLine := by
  have := o.rh.un
  omega
theorem XOk.gl (o : XOk Γ C kf X c m) {x : Str} (h : glB m x = true) : Gl X x := by
  show X.env.scope.names.lookup x = _
  rw [o.sc]
  unfold glB kindB at h
  split at h
  · assumption
  · cases h
theorem XOk.vis (o : XOk Γ C kf X c m) {x : Str} (h : visB m x = true) : Vis X.env.scope x := by
  rw [o.sc]
  unfold visB kindB at h
  split at h
  · exact .inl (by assumption)
  · exact .inr (.inl (by assumption))
  · exact .inr (.inr (by assumption))
  · cases h
theorem XOk.loc (o : XOk Γ C kf X c m) {x : Str} (h : locB m x = true) : L2.Loc X.env.scope x ∧ (X.fn x = true ∨ X.env.scope.names.lookup x = some .local) := by
  rw [o.sc]
  unfold locB kindB at h
  split at h
  · exact ⟨.inl (by assumption), .inr (by assumption)⟩
  · exact ⟨.inr (by assumption), .inl (o.fnc x h)⟩
  · cases h
theorem okN_at {x : Str} (h : okN x = true) : (x == ("__debug__" : Str)) = false ∧ (x == ("__classdict__" : Str)) = false ∧ x ≠ ("__name__" : Str) := by
  unfold okN at h
  simp only [Bool.and_eq_true, Bool.not_eq_true'] at h
  exact ⟨h.1.1, h.1.2, fun e => by
    have := h.2
    rw [e, beq_self_eq_true] at this; cases this⟩
theorem XOk.blt (o : XOk Γ C kf X c m) {x : Str} (h : bltB m x = true) : Gl X x ∧ X.mg x = none ∧ (x == ("__debug__" : Str)) = false ∧ (x == ("__classdict__" : Str)) = false ∧ x ≠ ("__name__" : Str) := by
  unfold bltB at h
  simp only [Bool.and_eq_true, decide_eq_true_eq] at h
  exact ⟨o.gl h.1.1, o.bs x h.1.2, okN_at h.2⟩
theorem XOk.nm (o : XOk Γ C kf X c m) {i : Nat} {x : Str} (h : m.N[i]? = some x) : X.N[i]? = some x := by rw [o.N]; exact h
theorem XOk.ndX (o : XOk Γ C kf X c m) : X.N.Nodup := by rw [o.N]; exact o.nd
theorem mNs_ok (o : XOk Γ C kf X c m) : ∀ {is : List Nat} {ts : List Expr}, mNs m is ts = true → NmL X ts is
  | [], [], _ => .nil
  | [], _ :: _, h => by simp [mNs] at h
  | i :: is, [], h => by simp [mNs] at h
  | i :: is, t :: ts, h => by
    cases t <;> first | (simp [mNs] at h; done) | skip
    simp only [mNs, Bool.and_eq_true, decide_eq_true_eq] at h
    obtain ⟨h1, h2⟩ := o.loc h.1.2
    exact .cons (o.nm h.1.1) h1 h2 (mNs_ok o h.2)
theorem mNp_ok (o : XOk Γ C kf X c m) : ∀ {is : List (Nat ⊕ List Nat)} {ts : List Expr}, mNp m is ts = true → NpL X ts is
  | [], [], _ => .nil
  | [], _ :: _, h => by simp [mNp] at h
  | .inl i :: is, [], h => by simp [mNp] at h
  | .inr i :: is, [], h => by simp [mNp] at h
  | .inl i :: is, t :: ts, h => by
    cases t <;> first | (simp [mNp] at h; done) | skip
    simp only [mNp, Bool.and_eq_true, decide_eq_true_eq] at h
    obtain ⟨h1, h2⟩ := o.loc h.1.2
    exact .nm (o.nm h.1.1) h1 h2 (mNp_ok o h.2)
  | .inr js :: is, t :: ts, h => by
    cases t <;> first | (simp [mNp] at h; done) | skip
    simp only [mNp, Bool.and_eq_true] at h
    exact .tp (mNs_ok o h.1) (mNp_ok o h.2)
theorem mTg_ok (o : XOk Γ C kf X c m) {t : Tg} {tg : Expr} (h : mTg m t tg = true) : TgM X tg t := by
  cases t with
  | nm i =>
    cases tg <;> first | (simp [mTg] at h; done) | skip
    simp only [mTg, Bool.and_eq_true, decide_eq_true_eq] at h
    obtain ⟨h1, h2⟩ := o.loc h.2
    exact .nm (o.nm h.1) h1 h2
  | tp is =>
    cases tg <;> first | (simp [mTg] at h; done) | skip
    simp only [mTg] at h
    exact .tp (mNs_ok o h)
  | np is =>
    cases tg <;> first | (simp [mTg] at h; done) | skip
    simp only [mTg, Bool.and_eq_true, decide_eq_true_eq] at h
    exact .np (o.calm h.1) (mNp_ok o h.2)
/-- an expression's readings -/
structure SE1 (Γ : Fns) (C : List PyData) (X : Cx) (c : Ct) (ce : CE) (e : Expr) : Prop where
  ns : isStar e = false
  pe : PE X e (tE c (evE Γ C ce))
  pt : PT X e (tT c (bnd (evE Γ C ce) truthM))
/-- a list's -/
structure SEs (Γ : Fns) (C : List PyData) (X : Cx) (c : Ct) (es : CEs) (l : List Expr) : Prop where
  ns : ∀ e ∈ l, isStar e = false
  a : PA X l (tA c (evEs Γ C es))
  d : PA X l (tL c (evCs Γ C es))
  p : PA X l (tP c (evPs Γ C es))
  len : ∀ ρ vs ρ', evEs Γ C es ρ = .ok vs ρ' → vs.length = l.length
  nil : l = [] ↔ es = .nil
  and : ∀ pos, l ≠ [] → PE X (.BoolOp .And l pos) (tE c (evAnd Γ C es)) ∧ PW X (.BoolOp .And l pos) (tT c (bnd (evAnd Γ C es) truthM))
  or : ∀ pos, l ≠ [] → PE X (.BoolOp .Or l pos) (tE c (evOr Γ C es)) ∧ PW X (.BoolOp .Or l pos) (tT c (bnd (evOr Γ C es) truthM))
  ts : l.length ≤ 1 → PTs X l (tT c (evTs Γ C es))
theorem plain_any {es : List Expr} {env : Env} {pos : Pos} (h : ∀ e ∈ es, isStar e = false) : (backTo pos (starEach es env)).any (·.1) = false := by
  induction es with
  | nil => rfl
  | cons e es ih =>
    rw [star_cons (h e List.mem_cons_self)]
    show ((false, _) :: backTo pos (starEach es env)).any (·.1) = false
    rw [List.any_cons]
    exact ih fun x hx => h x (List.mem_cons_of_mem _ hx)
theorem nox_nox : c.nox.nox = c.nox := rfl
theorem spF_nox {np : Nat} {F : List Sl → FR} {vs : List V} {H : Hp} {Q : VK} {E : XK} (h : spF c np F vs H Q E) : spF c.nox np F vs H Q E := by
  obtain ⟨hv, g, as, av, s, k⟩ := h
  refine ⟨hv, g, as, av, s.nox, ?_⟩
  cases e : F as with
  | ok ev as' => rw [e] at k; exact ⟨k.1, k.2.1, fun v H' G => k.2.2 v H' G.yox⟩
  | exc x as' => rw [e] at k; exact ⟨k.1, fun H' G => k.2 H' G.yox⟩
  | bad => rw [e] at k; exact k
/-- a test by its value -/
theorem SE1.of_pe {ce : CE} {e : Expr} (o : XOk Γ C kf X c m) (ns : isStar e = false) (he : ∀ whole, isTrue e X.env whole = (do let v ← whole; standAt e.pos; holding [v] (truthy v))) (h : PE X e (tE c (evE Γ C ce))) : SE1 Γ C X c ce e :=
  ⟨ns, h, t_plain o.K h he⟩
theorem opOf_inj {o : Op2} {op : Operator} (h : op = opOf o) : True := trivial
theorem cE_cst {d : PyData} {e : Expr} (o : XOk Γ C kf X c m) (h : mK d e = true) : SE1 Γ C X c (.cst d) e := by
  have key : ∀ (cst : Const) (k : Nat) (p : Pos) (v : V), e = .Constant cst k p → PE X (.Constant cst k p) (tC v) → (∀ T H, Rel c.K T H v d) → SE1 Γ C X c (.cst d) e := by
    intro cst k p v he hp hr
    subst he
    refine SE1.of_pe o rfl (fun _ => rfl) ?_
    refine hp.weak fun σ H Q ⟨g, ρ, s, k⟩ => ?_
    unfold evE at k
    exact k v H (Good.of_val s (hr _ _))
  cases d <;> cases e <;> first | (simp [mK] at h; done) | skip
  all_goals (rename_i cst k p; cases cst <;> first | (simp [mK] at h; done) | skip)
  · exact key _ _ _ _ rfl pe_non fun T H => rel_non
  · simp only [mK, beq_iff_eq] at h
    subst h
    exact key _ _ _ _ rfl pe_bl fun T H => rel_bl
  · simp only [mK, decide_eq_true_eq] at h
    subst h
    exact key _ _ _ _ rfl pe_int fun T H => rel_int
  · simp only [mK, Bool.and_eq_true, decide_eq_true_eq] at h
    obtain ⟨h, hs⟩ := h
    subst h
    exact key _ _ _ _ rfl pe_str fun T H => rel_str hs
theorem notCall_base {o : Expr} {n : Str} {env : Env} (h : isCall o = false) : attributeBase o n env (eval o env) = eval o env := by
  cases o <;> first | rfl | (cases h; done)
theorem fold_ok {i : Expr} {env : Env} (h : isSetOnly i = false) : ∀ x, foldedSetIterable i env x = pure x := by
  intro x
  cases i <;> first | rfl | (cases h; done)
theorem genf_ok {i : Expr} {env : Env} (h : isSet i = false) : ∀ x, genFold i env x = pure x := by
  intro x
  cases i <;> first | rfl | (cases h; done)
theorem gen_ok {scope : Scope} (h : genB scope = true) : GenOk scope := by
  unfold genB at h
  simp only [Bool.and_eq_true, Bool.not_eq_true', List.all_eq_true, decide_eq_true_eq] at h
  exact ⟨h.1.1, h.1.2, h.2⟩
theorem few_one {b : Expr} {pos : Pos} {env : Env} (ns : isStar b = false) : ((backTo pos (starEach [b] env)).all (fun x => !x.1) && (backToKw pos (keywordEach [] env)).all (fun x => x.1.isSome)
      && decide ([b].length + ([] : List Keyword).length + (if ([] : List Keyword).isEmpty then 0 else 1) < 30)) = true := by
  rw [star_cons ns]
  rfl
/-! ### lists -/
theorem ses_nil (o : XOk Γ C kf X c m) : SEs Γ C X c .nil [] := by
  refine ⟨(fun _ h => nomatch h), ?_, ?_, ?_, fun ρ vs ρ' h => ?_, ⟨fun _ => rfl, fun _ => rfl⟩, fun _ h => absurd rfl h, fun _ h => absurd rfl h, fun _ => ?_⟩
  · unfold evEs; exact ra_nil
  · unfold evCs; exact rl_nil
  · unfold evPs; exact rp_nil
  · unfold evEs at h; cases h; rfl
  · unfold evTs; exact t_ts0
theorem ses_cons {ce : CE} {es : CEs} {e : Expr} {l : List Expr} (o : XOk Γ C kf X c m) (h1 : SE1 Γ C X c ce e) (h2 : SEs Γ C X c es l) : SEs Γ C X c (.cons ce es) (e :: l) := by
  refine ⟨fun x hx => ?_, ?_, ?_, ?_, fun ρ vs ρ' h => ?_, ⟨(fun h => nomatch h), (fun h => nomatch h)⟩, fun pos _ => ?_, fun pos _ => ?_, fun hl => ?_⟩
  · rcases List.mem_cons.mp hx with rfl | hx
    · exact h1.ns
    · exact h2.ns x hx
  · unfold evEs; exact ra_cons h1.pe h2.a h1.ns
  · unfold evCs; exact rl_cons h1.pe h2.d h1.ns
  · unfold evPs; exact rp_cons h1.pe h2.p h1.ns
  · unfold evEs at h
    cases e1 : evE Γ C ce ρ with
    | bad => rw [bnd_bad e1] at h; cases h
    | exc x ρ1 => rw [bnd_exc e1] at h; cases h
    | ok ev ρ1 =>
      rw [bnd_ok e1] at h
      cases e2 : evEs Γ C es ρ1 with
      | bad => rw [bnd_bad e2] at h; cases h
      | exc x ρ1 => rw [bnd_exc e2] at h; cases h
      | ok evs ρ2 =>
        rw [bnd_ok e2] at h
        cases h
        rw [List.length_cons, List.length_cons, h2.len ρ1 evs _ e2]
  · cases l with
    | nil =>
      have : es = .nil := h2.nil.mp rfl
      subst this
      unfold evAnd
      exact ⟨pe_one h1.pe, w_and1 h1.pt⟩
    | cons b rest =>
      obtain ⟨q1, q2⟩ := h2.and pos (by simp)
      cases es with
      | nil => cases h2.nil.mpr rfl
      | cons ce2 es2 =>
        exact ⟨r_and o.K h1.pe q1, w_and h1.pt q2⟩
  · cases l with
    | nil =>
      have : es = .nil := h2.nil.mp rfl
      subst this
      unfold evOr
      exact ⟨pe_one h1.pe, w_or1 h1.pt⟩
    | cons b rest =>
      obtain ⟨q1, q2⟩ := h2.or pos (by simp)
      cases es with
      | nil => cases h2.nil.mpr rfl
      | cons ce2 es2 =>
        exact ⟨r_or o.K h1.pe q1, w_or h1.pt q2⟩
  · cases l with
    | cons b rest => simp at hl
    | nil =>
      have : es = .nil := h2.nil.mp rfl
      subst this
      unfold evTs
      unfold evTs
      exact t_ts1 h1.pt
end
end Den
set_option autoImplicit false
set_option maxRecDepth 100000
set_option maxHeartbeats 4000000
/-! Den, part U: expressions that match are read so. -/
namespace Den
open PySem PySem.Spec PyProof.Rows L2 GxR
section
variable {Γ : Fns} {C : List PyData} {kf : Nat}
mutual
theorem snE : ∀ (ce : CE) {X : Cx} {c : Ct} {m : Mc} {e : Expr}, XOk Γ C kf X c m → mE ce m e = true → SE1 Γ C X c ce e
  | .var i, X, c, m, e, o, h => by
    unfold mE at h
    split at h
    · simp only [Bool.and_eq_true, decide_eq_true_eq] at h
      obtain ⟨⟨h1, h2⟩, h3⟩ := h
      obtain ⟨q1, q2, _⟩ := okN_at h3
      exact SE1.of_pe o rfl (fun _ => rfl) (r_var (o.nm h1) (o.vis h2) q1 q2)
    · cases h
  | .cst d, X, c, m, e, o, h => by
    unfold mE at h
    exact cE_cst o h
  | .glb j, X, c, m, e, o, h => by
    unfold mE at h
    split at h
    · simp only [Bool.and_eq_true, decide_eq_true_eq] at h
      obtain ⟨⟨h1, h2⟩, h3⟩ := h
      obtain ⟨q1, q2, _⟩ := okN_at h2
      obtain ⟨v, u, d, e1, e2, e3, e4⟩ := o.cs _ _ h3
      refine SE1.of_pe o rfl (fun _ => rfl) ?_
      refine (pe_glob (o.gl h1) e2 e3 q1).weak fun σ H Q ⟨g, ρ, s, k⟩ => ?_
      unfold evE at k
      rw [e1] at k
      exact k v H (Good.of_val s (e4 _ _))
    · cases h
  | .bin op a b, X, c, m, e, o, h => by
    unfold mE at h
    split at h
    · simp only [Bool.and_eq_true, decide_eq_true_eq] at h
      obtain ⟨⟨h1, h2⟩, h3⟩ := h
      subst h1
      exact SE1.of_pe o rfl (fun _ => rfl) (by unfold evE; exact r_bin o.K op (snE a o h2).pe (snE b o h3).pe)
    · cases h
  | .neg a, X, c, m, e, o, h => by
    unfold mE at h
    split at h
    · exact SE1.of_pe o rfl (fun _ => rfl) (by unfold evE; exact r_neg (snE a o h).pe)
    · cases h
  | .nt a, X, c, m, e, o, h => by
    unfold mE at h
    split at h
    · exact ⟨rfl, by unfold evE; exact r_nt o.K (snE a o h).pe, by unfold evE; exact t_nt (snE a o h).pt⟩
    · cases h
  | .cmp op a b, X, c, m, e, o, h => by
    unfold mE at h
    split at h
    · simp only [Bool.and_eq_true, decide_eq_true_eq, Bool.not_eq_true'] at h
      obtain ⟨⟨⟨h1, h2⟩, h3⟩, h4⟩ := h
      subst h1
      exact ⟨rfl, by unfold evE; exact r_cmp o.K o.units (snE a o h3).pe (snE b o h4).pe h2, by unfold evE; exact t_cmp o.K o.units (snE a o h3).pe (snE b o h4).pe h2⟩
    · cases h
  | .cmp2 op op2 a b b2, X, c, m, e, o, h => by
    unfold mE at h
    split at h
    · simp only [Bool.and_eq_true, decide_eq_true_eq, Bool.not_eq_true'] at h
      obtain ⟨⟨⟨⟨⟨h1, h2⟩, h3⟩, h4⟩, h5⟩, h6⟩ := h
      subst h1 h2
      exact ⟨rfl, by unfold evE; exact r_cmp2 o.K o.units (snE a o h4).pe (snE b o h5).pe (snE b2 o h6).pe h3, by unfold evE; exact t_cmp2 o.K o.units (snE a o h4).pe (snE b o h5).pe (snE b2 o h6).pe h3⟩
    · cases h
  | .and es, X, c, m, e, o, h => by
    unfold mE at h
    split at h
    · simp only [Bool.and_eq_true, Bool.not_eq_true'] at h
      obtain ⟨q1, q2⟩ := (snEs es o h.2).and _ (fun z => by rw [z] at h; cases h.1)
      exact ⟨rfl, by unfold evE; exact q1, by unfold evE; exact q2.pt⟩
    · cases h
  | .or es, X, c, m, e, o, h => by
    unfold mE at h
    split at h
    · simp only [Bool.and_eq_true, Bool.not_eq_true'] at h
      obtain ⟨q1, q2⟩ := (snEs es o h.2).or _ (fun z => by rw [z] at h; cases h.1)
      exact ⟨rfl, by unfold evE; exact q1, by unfold evE; exact q2.pt⟩
    · cases h
  | .ite t a b, X, c, m, e, o, h => by
    unfold mE at h
    split at h
    · simp only [Bool.and_eq_true] at h
      obtain ⟨⟨h1, h2⟩, h3⟩ := h
      exact ⟨rfl, by unfold evE; exact r_ite (snE t o h1).pt (snE a o h2).pe (snE b o h3).pe, by unfold evE; exact t_ite (snE t o h1).pt (snE a o h2).pt (snE b o h3).pt⟩
    · cases h
  | .tup es, X, c, m, e, o, h => by
    unfold mE at h
    split at h
    · exact SE1.of_pe o rfl (fun _ => rfl) (by unfold evE; exact r_tup (snEs es o h).d)
    · cases h
  | .lst es, X, c, m, e, o, h => by
    unfold mE at h
    split at h
    · exact SE1.of_pe o rfl (fun _ => rfl) (by unfold evE; exact r_lst (snEs es o h).d)
    · cases h
  | .call f es, X, c, m, e, o, h => by
    unfold mE at h
    split at h
    · rename_i x p l p2
      simp only [Bool.and_eq_true, decide_eq_true_eq, Bool.not_eq_true'] at h
      obtain ⟨h0, ⟨⟨⟨h1, h2⟩, h3⟩, h4⟩, h5⟩ := h
      obtain ⟨q1, q2, _⟩ := okN_at h2
      obtain ⟨fa, fd, ps, F, wf, e1, e2, e3⟩ := o.fs h0 _ _ _ h4
      have S := snEs es o h5
      cases l with
      | nil => cases h3
      | cons a r =>
        exact SE1.of_pe o rfl (fun _ => rfl) (by unfold evE; exact r_call wf (F.imp fun vs H Q E h => spF_nox h) ((o.room h0).mono (Nat.le_add_right _ _)) (o.gl h1) e1 e2 e3 o.tk S.a q1 (S.ns a List.mem_cons_self) (plain_any fun x hx => S.ns x (List.mem_cons_of_mem _ hx)))
    · cases h
  | .bi b es, X, c, m, e, o, h => by
    unfold mE at h
    split at h
    · rename_i x p l p2
      simp only [Bool.and_eq_true, Bool.not_eq_true', Bool.or_eq_true, decide_eq_true_eq] at h
      obtain ⟨h0, ⟨h3, h4⟩, h5⟩ := h
      have cm : biCalm b = false → X.calm = true := fun z => o.calm (h0.elim (fun y => by rw [z] at y; cases y) id)
      have S := snEs es o h5
      cases l with
      | nil => cases h3
      | cons a r =>
        by_cases hb : b = .gcd
        · subst hb
          rw [if_pos rfl, Bool.and_eq_true, Bool.and_eq_true, decide_eq_true_eq] at h4
          obtain ⟨⟨g1, g2⟩, g3⟩ := h4
          subst g3
          exact SE1.of_pe o rfl (fun _ => rfl) (by unfold evE; exact r_gcd o.K (cm rfl) (o.gl g1) (o.gcd g2) S.a (S.ns a List.mem_cons_self) (plain_any fun x hx => S.ns x (List.mem_cons_of_mem _ hx)))
        · rw [if_neg hb] at h4
          simp only [Bool.and_eq_true, decide_eq_true_eq] at h4
          obtain ⟨g1, g3⟩ := h4
          subst g3
          obtain ⟨q1, q2, _⟩ := o.blt g1
          exact SE1.of_pe o rfl (fun _ => rfl) (by unfold evE; exact r_bi o.K cm (by cases b <;> (intro z; cases z)) hb q1 q2 S.a (S.ns a List.mem_cons_self) (plain_any fun x hx => S.ns x (List.mem_cons_of_mem _ hx)))
    · cases h
  | .isi a t, X, c, m, e, o, h => by
    unfold mE at h
    split at h
    · simp only [Bool.and_eq_true, decide_eq_true_eq] at h
      obtain ⟨⟨⟨⟨h1, h2⟩, h3⟩, h4⟩, h5⟩ := h
      subst h3 h4
      obtain ⟨q1, q2, _⟩ := o.blt h1
      obtain ⟨r1, r2, _⟩ := o.blt h2
      have S := snE a o h5
      exact SE1.of_pe o rfl (fun _ => rfl) (by unfold evE; exact r_isi o.K t q1 q2 r1 r2 S.pe S.ns)
    · cases h
  | .idx a b, X, c, m, e, o, h => by
    unfold mE at h
    split at h
    · simp only [Bool.and_eq_true, Bool.not_eq_true'] at h
      obtain ⟨⟨h1, h2⟩, h3⟩ := h
      exact SE1.of_pe o rfl (fun _ => rfl) (by unfold evE; exact r_idx o.K (snE a o h2).pe (snE b o h3).pe h1)
    · cases h
  | .slc a lo hi, X, c, m, e, o, h => by
    unfold mE at h
    split at h
    · simp only [Bool.and_eq_true] at h
      obtain ⟨⟨h1, h2⟩, h3⟩ := h
      exact SE1.of_pe o rfl (fun _ => rfl) (by unfold evE; exact r_slc o.K (snE a o h1).pe (snO lo o h2) (snO hi o h3))
    · cases h
  | .lc elt t it ifs, X, c, m, e, o, h => by
    unfold mE at h
    split at h
    · simp only [Bool.and_eq_true, decide_eq_true_eq, Bool.not_eq_true'] at h
      obtain ⟨⟨⟨⟨⟨⟨⟨⟨h1, h2⟩, h3⟩, h4⟩, h5⟩, h6⟩, h7⟩, h8⟩, h9⟩ := h
      subst h1
      refine SE1.of_pe o rfl (fun _ => rfl) ?_
      unfold evE
      by_cases hm : m.md = 1
      · rw [if_pos hm] at h5
        obtain ⟨p, k, D, ho⟩ := o.hotc hm
        exact r_lcH o.K ho.hot ho.pn o.ndX (snH it o h5) (by rw [o.N, o.sc]; exact blkOk_by h2) h3 (fun s H C' cl fp => ⟨mTg_ok o.blk h6, (snEs ifs o.blk h8).ts h7, (snE elt o.blk h9).pe⟩) (fold_ok h4)
      · rw [if_neg hm, Bool.and_eq_true, decide_eq_true_eq] at h5
        exact r_lc o.K (o.calm h5.1) o.ndX (snI it o h5.2) (by rw [o.N, o.sc]; exact blkOk_by h2) h3 (fun s H C' cl fp => ⟨mTg_ok o.blk h6, (snEs ifs o.blk h8).ts h7, (snE elt o.blk h9).pe⟩) (fold_ok h4)
    · cases h
  | .gx b elt t it ifs, X, c, m, e, o, h => by
    unfold mE at h
    split at h
    · simp only [Bool.and_eq_true, decide_eq_true_eq, Bool.not_eq_true'] at h
      obtain ⟨h0, ⟨⟨⟨⟨⟨⟨⟨⟨⟨⟨⟨⟨h01, h02⟩, h03⟩, h04⟩, h1⟩, h05⟩, h2⟩, h3⟩, h4⟩, h5⟩, h6⟩, h7⟩, h8⟩, h9⟩ := h
      subst h1 h04
      obtain ⟨q1, q2, _⟩ := o.blt h03
      obtain ⟨cc, P, t1, t2, t3⟩ := o.tab h01
      refine SE1.of_pe o rfl (fun _ => rfl) ?_
      unfold evE
      exact r_gx o.K (o.room h0) (o.calm h0) o.ndX (by rw [o.N]; exact o.nodot) q1 q2 t2 t3 t1 (gen_ok h05) (snI it o h5) (by rw [o.N, o.sc]; exact blkOk_by h2) h3 (fun s H C' cd fp pn => ⟨mTg_ok (o.gen h02 h0) h6, (snEs ifs (o.gen h02 h0) h8).ts h7, (snE elt (o.gen h02 h0) h9).pe⟩) (genf_ok h4)
    · cases h
  | .app a x, X, c, m, e, o, h => by
    unfold mE at h
    split at h
    · simp only [Bool.and_eq_true, decide_eq_true_eq, Bool.not_eq_true'] at h
      obtain ⟨⟨⟨⟨h1, h2⟩, h3⟩, h4⟩, h5⟩ := h
      subst h1
      have S := snE x o h5
      exact SE1.of_pe o rfl (fun _ => rfl) (by unfold evE; exact r_app (snE a o h4).pe S.pe (notCall_base h2) h3 S.ns (few_one S.ns))
    · cases h
  | .pop a, X, c, m, e, o, h => by
    unfold mE at h
    split at h
    · simp only [Bool.and_eq_true, decide_eq_true_eq, Bool.not_eq_true'] at h
      obtain ⟨⟨⟨h1, h2⟩, h3⟩, h4⟩ := h
      subst h1
      exact SE1.of_pe o rfl (fun _ => rfl) (by unfold evE; exact r_pop o.K (snE a o h4).pe (notCall_base h2) h3)
    · cases h
  | .rev a, X, c, m, e, o, h => by
    unfold mE at h
    split at h
    · simp only [Bool.and_eq_true, decide_eq_true_eq] at h
      obtain ⟨h0, ⟨⟨⟨h1, h2⟩, h3⟩, h4⟩, h5⟩ := h
      subst h3 h4
      obtain ⟨q1, q2, _⟩ := o.blt h1
      obtain ⟨r1, r2, _⟩ := o.blt h2
      have S := snE a o h5
      exact SE1.of_pe o rfl (fun _ => rfl) (by unfold evE; exact r_rev o.K (o.calm h0) q1 q2 r1 r2 S.pe S.ns)
    · cases h
  | .lrg es, X, c, m, e, o, h => by
    unfold mE at h
    split at h
    · rename_i x p y p2 l p3 p4
      simp only [Bool.and_eq_true, decide_eq_true_eq, Bool.not_eq_true'] at h
      obtain ⟨h0, ⟨⟨⟨⟨h1, h2⟩, h3⟩, h4⟩, h5⟩, h6⟩ := h
      subst h3 h4
      obtain ⟨q1, q2, _⟩ := o.blt h1
      obtain ⟨r1, r2, _⟩ := o.blt h2
      have S := snEs es o h6
      cases l with
      | nil => cases h5
      | cons a r =>
        exact SE1.of_pe o rfl (fun _ => rfl) (by unfold evE; exact r_lrg (o.calm h0) q1 q2 r1 r2 S.a (S.ns a List.mem_cons_self) (plain_any fun x hx => S.ns x (List.mem_cons_of_mem _ hx)))
    · cases h
  | .trg es, X, c, m, e, o, h => by
    unfold mE at h
    split at h
    · rename_i x p y p2 l p3 p4
      simp only [Bool.and_eq_true, decide_eq_true_eq, Bool.not_eq_true'] at h
      obtain ⟨h0, ⟨⟨⟨⟨h1, h2⟩, h3⟩, h4⟩, h5⟩, h6⟩ := h
      subst h3 h4
      obtain ⟨q1, q2, _⟩ := o.blt h1
      obtain ⟨r1, r2, _⟩ := o.blt h2
      have S := snEs es o h6
      cases l with
      | nil => cases h5
      | cons a r =>
        exact SE1.of_pe o rfl (fun _ => rfl) (by unfold evE; exact r_trg (o.calm h0) q1 q2 r1 r2 S.a (S.ns a List.mem_cons_self) (plain_any fun x hx => S.ns x (List.mem_cons_of_mem _ hx)))
    · cases h
  | .ixof a x, X, c, m, e, o, h => by
    unfold mE at h
    split at h
    · simp only [Bool.and_eq_true, decide_eq_true_eq, Bool.not_eq_true'] at h
      obtain ⟨⟨⟨⟨h1, h2⟩, h3⟩, h4⟩, h5⟩ := h
      subst h1
      have S := snE x o h5
      exact SE1.of_pe o rfl (fun _ => rfl) (by unfold evE; exact r_ix o.K o.units (snE a o h4).pe S.pe (notCall_base h2) h3 S.ns (few_one S.ns))
    · cases h
  | .isx i ks, X, c, m, e, o, h => by
    unfold mE at h
    split at h
    · simp only [Bool.and_eq_true, decide_eq_true_eq] at h
      obtain ⟨⟨⟨⟨⟨⟨⟨⟨h0, h1⟩, h2⟩, h3⟩, h4⟩, h5⟩, h6⟩, h7⟩, h8⟩ := h
      subst h2
      obtain ⟨p, k, D, ho⟩ := o.hotc h0
      obtain ⟨q1, q2, _⟩ := o.blt h1
      obtain ⟨n1, n2, _⟩ := okN_at h5
      obtain ⟨x1, x2, _⟩ := okN_at h7
      obtain ⟨Ca, g1, g2⟩ := ho.sub _ _ h8
      exact SE1.of_pe o rfl (fun _ => rfl) (by unfold evE; exact r_isx ho.ec ho.zc ho.hot ho.pn ho.err q1 q2 (o.nm h3) (o.vis h4) n1 n2 (o.gl h6) g1 x1 g2)
    · cases h
  | .callX f i, X, c, m, e, o, h => by
    unfold mE at h
    split at h
    · simp only [Bool.and_eq_true, decide_eq_true_eq] at h
      obtain ⟨⟨⟨⟨⟨⟨h0, h1⟩, h2⟩, h3⟩, h4⟩, h5⟩, h6⟩ := h
      obtain ⟨p, k, D, ho⟩ := o.hotc h0
      obtain ⟨x1, x2, _⟩ := okN_at h2
      obtain ⟨n1, n2, _⟩ := okN_at h6
      obtain ⟨fa, fd, ps, F, wf, e1, e2, e3⟩ := ho.fh _ _ h3
      exact SE1.of_pe o rfl (fun _ => rfl) (by unfold evE; exact r_callX wf ho.hot ho.pn F (o.rh.mono (Nat.le_add_right _ _)) (o.gl h1) e1 e2 e3 x1 (o.nm h4) (o.vis h5) n1 n2)
    · cases h
  | .revs a, X, c, m, e, o, h => by
    unfold mE at h
    split at h
    · exact SE1.of_pe o rfl (fun _ => rfl) (by unfold evE; exact r_revs o.K (snE a o h).pe)
    · cases h
  | .slcS a s, X, c, m, e, o, h => by
    unfold mE at h
    split at h
    · rw [Bool.and_eq_true] at h
      exact SE1.of_pe o rfl (fun _ => rfl) (by unfold evE; exact r_slcS o.K (snE a o h.1).pe (snE s o h.2).pe)
    · cases h
  | .srev a, X, c, m, e, o, h => by
    unfold mE at h
    split at h
    · rename_i x p l y j p1 kp p2
      simp only [Bool.and_eq_true, decide_eq_true_eq] at h
      obtain ⟨⟨⟨g1, g2⟩, g3⟩, g4⟩ := h
      subst g2 g3
      obtain ⟨q1, q2, _⟩ := o.blt g1
      exact SE1.of_pe o rfl (fun _ => rfl) (by unfold evE; exact r_srev o.K q1 q2 (snE a o g4).pe (snE a o g4).ns)
    · cases h
  | .ins a i x, X, c, m, e, o, h => by
    unfold mE at h
    split at h
    · simp only [Bool.and_eq_true, decide_eq_true_eq, Bool.not_eq_true'] at h
      obtain ⟨⟨⟨⟨⟨h1, h2⟩, h3⟩, h4⟩, h5⟩, h6⟩ := h
      subst h1
      have S := snE x o h6
      have S1 := snE i o h5
      exact SE1.of_pe o rfl (fun _ => rfl) (by unfold evE; exact r_ins (snE a o h4).pe S1.pe S.pe (notCall_base h2) h3 S1.ns S.ns)
    · cases h
  | .popI a x, X, c, m, e, o, h => by
    unfold mE at h
    split at h
    · simp only [Bool.and_eq_true, decide_eq_true_eq, Bool.not_eq_true'] at h
      obtain ⟨⟨⟨⟨h1, h2⟩, h3⟩, h4⟩, h5⟩ := h
      subst h1
      have S := snE x o h5
      exact SE1.of_pe o rfl (fun _ => rfl) (by unfold evE; exact r_popI (snE a o h4).pe S.pe (notCall_base h2) h3 S.ns (few_one S.ns))
    · cases h
  | .ext a x, X, c, m, e, o, h => by
    unfold mE at h
    split at h
    · simp only [Bool.and_eq_true, decide_eq_true_eq, Bool.not_eq_true'] at h
      obtain ⟨⟨⟨⟨h1, h2⟩, h3⟩, h4⟩, h5⟩ := h
      subst h1
      have S := snE x o h5
      exact SE1.of_pe o rfl (fun _ => rfl) (by unfold evE; exact r_ext (snE a o h4).pe S.pe (notCall_base h2) h3 S.ns (few_one S.ns))
    · cases h
  | .tupS fs es, X, c, m, e, o, h => by
    unfold mE at h
    split at h
    · exact SE1.of_pe o rfl (fun _ => rfl) (by unfold evE; exact r_tup (snSs es o h))
    · cases h
  | .lzip _ _, X, c, m, e, o, h => by
    unfold mE at h
    cases h
theorem snSs : ∀ (es : CEs) {fs : List Bool} {X : Cx} {c : Ct} {m : Mc} {l : List Expr}, XOk Γ C kf X c m → mSs es fs m l = true → PA X l (tL c (evSs Γ C fs es))
  | .nil, fs, X, c, m, l, o, h => by
    unfold mSs at h
    rw [Bool.and_eq_true] at h
    have : l = [] := by simpa using h.1
    subst this
    unfold evSs
    exact rl_nil
  | .cons ce es, fs, X, c, m, l, o, h => by
    unfold mSs at h
    split at h
    · simp only [Bool.and_eq_true] at h
      unfold evSs
      exact rs_star o.K (snE ce o h.1).pe (snSs es o h.2)
    · simp only [Bool.and_eq_true] at h
      unfold evSs
      have S := snE ce o h.1
      exact rl_cons S.pe (snSs es o h.2) S.ns
    · cases h
theorem snEs : ∀ (es : CEs) {X : Cx} {c : Ct} {m : Mc} {l : List Expr}, XOk Γ C kf X c m → mEs es m l = true → SEs Γ C X c es l
  | .nil, X, c, m, l, o, h => by
    unfold mEs at h
    have : l = [] := by simpa using h
    subst this
    exact ses_nil o
  | .cons ce es, X, c, m, l, o, h => by
    unfold mEs at h
    split at h
    · simp only [Bool.and_eq_true] at h
      exact ses_cons o (snE ce o h.1) (snEs es o h.2)
    · cases h
theorem snO : ∀ (es : CEs) {X : Cx} {c : Ct} {m : Mc} {x : Option Expr}, XOk Γ C kf X c m → mO es m x = true → PO X x (tOp c (evO Γ C es))
  | .nil, X, c, m, x, o, h => by
    unfold mO at h
    cases x with
    | none => unfold evO; exact o_none
    | some e => cases h
  | .cons ce es, X, c, m, x, o, h => by
    unfold mO at h
    cases x with
    | none => cases h
    | some e =>
      simp only [Bool.and_eq_true] at h
      unfold evO
      exact o_some (snE ce o h.1).pe
theorem snI : ∀ (ci : CI) {X : Cx} {c : Ct} {m : Mc} {tg e : Expr}, XOk Γ C kf X c m → mI ci m tg e = true → PI X tg e (tI c (evI Γ C ci))
  | .ex ce, X, c, m, tg, e, o, h => by
    unfold mI at h
    unfold evI
    exact i_ex o.K (snE ce o h).pe
  | .rng es, X, c, m, tg, e, o, h => by
    unfold mI at h
    split at h
    · rename_i x p l p2
      simp only [Bool.and_eq_true, decide_eq_true_eq, Bool.or_eq_true] at h
      obtain ⟨⟨⟨h1, h2⟩, h3⟩, h4⟩ := h
      subst h2
      obtain ⟨q1, q2, _⟩ := o.blt h1
      have S := snEs es o h4
      unfold evI
      rcases l with _ | ⟨a, _ | ⟨b, _ | ⟨d, r⟩⟩⟩
      · simp at h3
      · exact i_rng1 q1 q2 S.a (S.ns a (by simp)) S.len
      · exact i_rng2 q1 q2 S.a (S.ns a (by simp)) (S.ns b (by simp)) S.len
      · simp at h3
    · cases h
  | .enum ce, X, c, m, tg, e, o, h => by
    unfold mI at h
    split at h
    · simp only [Bool.and_eq_true, decide_eq_true_eq] at h
      obtain ⟨⟨h1, h2⟩, h3⟩ := h
      subst h2
      obtain ⟨q1, q2, _⟩ := o.blt h1
      have S := snE ce o h3
      unfold evI
      exact i_enum o.K q1 q2 S.pe S.ns
    · cases h
  | .zip a b, X, c, m, tg, e, o, h => by
    unfold mI at h
    split at h
    · simp only [Bool.and_eq_true, decide_eq_true_eq] at h
      obtain ⟨⟨⟨h1, h2⟩, h3⟩, h4⟩ := h
      subst h2
      obtain ⟨q1, q2, _⟩ := o.blt h1
      have S := snE a o h3
      have S2 := snE b o h4
      unfold evI
      exact i_zip o.K q1 q2 S.pe S2.pe S.ns S2.ns
    · cases h
  | .rev ce, X, c, m, tg, e, o, h => by
    unfold mI at h
    split at h
    · simp only [Bool.and_eq_true, decide_eq_true_eq] at h
      obtain ⟨⟨h1, h2⟩, h3⟩ := h
      subst h2
      obtain ⟨q1, q2, _⟩ := o.blt h1
      have S := snE ce o h3
      unfold evI
      exact i_rev o.K q1 q2 S.pe S.ns
    · cases h
  | .seq ce, X, c, m, tg, e, o, h => by
    unfold mI at h
    cases h
  | .rng3 es, X, c, m, tg, e, o, h => by
    unfold mI at h
    split at h
    · rename_i x p l p2
      simp only [Bool.and_eq_true, decide_eq_true_eq] at h
      obtain ⟨⟨⟨h1, h2⟩, h3⟩, h4⟩ := h
      subst h2
      obtain ⟨q1, q2, _⟩ := o.blt h1
      have S := snEs es o h4
      unfold evI
      rcases l with _ | ⟨a, _ | ⟨b, _ | ⟨d, _ | ⟨e, r⟩⟩⟩⟩
      · simp at h3
      · simp at h3
      · simp at h3
      · exact i_rng3 q1 q2 S.a (S.ns a (by simp)) (S.ns b (by simp)) (S.ns d (by simp))
      · simp at h3
    · cases h
theorem snH : ∀ (ci : CI) {X : Cx} {c : Ct} {m : Mc} {p : Pin} {tg e : Expr}, XOk Γ C kf X c m → mH ci m e = true → PIp p X tg e (tI c (evI Γ C ci))
  | .seq ce, X, c, m, p, tg, e, o, h => by
    unfold mH at h
    unfold evI
    exact i_seqH o.K (snE ce o h).pe
  | .ex ce, X, c, m, p, tg, e, o, h => by unfold mH at h; cases h
  | .rng ce, X, c, m, p, tg, e, o, h => by unfold mH at h; cases h
  | .enum ce, X, c, m, p, tg, e, o, h => by unfold mH at h; cases h
  | .zip ce cf, X, c, m, p, tg, e, o, h => by unfold mH at h; cases h
  | .rev ce, X, c, m, p, tg, e, o, h => by unfold mH at h; cases h
  | .rng3 ce, X, c, m, p, tg, e, o, h => by unfold mH at h; cases h
end
end
end Den
set_option autoImplicit false
set_option maxRecDepth 100000
set_option maxHeartbeats 4000000
/-! Den, part V: which core term a statement is; statements that match are read so. -/
namespace Den
open PySem PySem.Spec PyProof.Rows L2 GxR
def isComp : Expr → Bool
  | .ListComp _ _ _ _ => true
  | .SetComp _ _ _ _ => true
  | .DictComp _ _ _ _ _ => true
  | _ => false
def isTup : Expr → Bool
  | .Tuple _ _ _ => true
  | _ => false
/-- a comprehension's list goes to the slot at once -/
def swB (m : Mc) (x : Str) (pl : Nat) : Expr → Bool
  | .ListComp _ _ scope pos => (kindB m x == some .local) && (pl == pos.line) && !(scope.names.any fun (n, k) => n == x && (k == .local || k == .cell))
  | _ => false
/-- how a pair's stores go -/
def swStores (m : Mc) (ts vs : List Expr) : Option (Option (List Str)) :=
  if (!(ts.length == 2 || ts.length == 3) || vs.length != ts.length) = true then some none
  else if (vs.any fun | .Starred .. => true | _ => false) = true then some none
  else if ((ts.filterMap fun
    | .Name id pos => if (kindB m id == some .local && pos.line == (ts.head?.map (·.pos.line)).getD 0) = true then some id else none
    | _ => none).length != ts.length || (ts.filterMap fun
    | .Name id pos => if (kindB m id == some .local && pos.line == (ts.head?.map (·.pos.line)).getD 0) = true then some id else none
    | _ => none).eraseDups.length != (ts.filterMap fun
    | .Name id pos => if (kindB m id == some .local && pos.line == (ts.head?.map (·.pos.line)).getD 0) = true then some id else none
    | _ => none).length) = true then some none
  else if vs.all (foldedForSure 8) = true then some none
  else if vs.all (constantsAlone 8) = true then none
  else some (some (ts.filterMap fun
    | .Name id pos => if (kindB m id == some .local && pos.line == (ts.head?.map (·.pos.line)).getD 0) = true then some id else none
    | _ => none))
theorem sw_stores {m : Mc} {env : Env} {ts vs : List Expr} {k k2 : Nat} {pt p2 : Pos} {r : Option (List Str)} (hs : env.scope = m.sc) (hk : env.scope.kind = .function) (h : swStores m ts vs = some r) : swappedStores [.Tuple ts k pt] (.Tuple vs k2 p2) env = pure r := by
  have hb : env.blockKind = .function := by unfold Env.blockKind; rw [hk]; rfl
  have hkd : ∀ id, env.kindOf id = kindB m id := fun id => by unfold Env.kindOf kindB; rw [hs]
  unfold swStores at h
  unfold swappedStores
  have hff : (ScopeKind.function != ScopeKind.function) = false := rfl
  simp only [hkd, hb, hff, Bool.or_false]
  split at h
  · cases h
    exact if_pos (by assumption)
  · refine (if_neg (by assumption)).trans ?_
    split at h
    · cases h
      exact if_pos (by assumption)
    · refine (if_neg (by assumption)).trans ?_
      split at h
      · cases h
        exact if_pos (by assumption)
      · refine (if_neg (by assumption)).trans ?_
        split at h
        · cases h
          exact if_pos (by assumption)
        · refine (if_neg (by assumption)).trans ?_
          split at h
          · cases h
          · cases h
            exact if_neg (by assumption)
theorem sw_ff {m : Mc} {env : Env} {x : Str} {p : Pos} {l : Nat} {e : Expr} (hs : env.scope = m.sc) (hk : env.scope.kind = .function) (hn : match e with | .SetComp _ _ _ _ => False | .DictComp _ _ _ _ _ => False | _ => True) (h : swB m x p.line e = false) : swapsWith e (some (.Name x p)) l env = pure false := by
  cases e <;> first | rfl | exact hn.elim | skip
  rename_i elt gs scope pos
  have hb : env.blockKind = .function := by unfold Env.blockKind; rw [hk]; rfl
  have hkd : env.kindOf x = kindB m x := by unfold Env.kindOf kindB; rw [hs]
  unfold swapsWith
  simp only [hb, hkd]
  unfold swB at h
  show pure ((ScopeKind.function == ScopeKind.function) && (kindB m x == some NameKind.local) && (p.line == pos.line) && !(scope.names.any fun (n, k) => n == x && (k == .local || k == .cell))) = pure false
  rw [show (ScopeKind.function == ScopeKind.function) = true from rfl, Bool.true_and]
  exact congrArg pure h
theorem swB_at {m : Mc} {x : Str} {pl : Nat} {e : Expr} (h : swB m x pl e = true) : ∃ elt gs scope pos, e = .ListComp elt gs scope pos ∧ kindB m x = some .local ∧ (pl == pos.line) = true ∧ (scope.names.any fun (n, k) => n == x && (k == .local || k == .cell)) = false := by
  cases e <;> first | (cases h; done) | skip
  rename_i elt gs scope pos
  unfold swB at h
  simp only [Bool.and_eq_true, Bool.not_eq_true'] at h
  exact ⟨elt, gs, scope, pos, rfl, by simpa using h.1.1, h.1.2, h.2⟩
/-- a pair of names, their slots: all of them plain locals -/
def locsB (m : Mc) (ts : List Expr) : Bool := ts.all fun
  | .Name x _ => decide (kindB m x = some .local)
  | _ => false
def parB (m : Mc) (is : List Nat) (ts es : List Expr) : Bool :=
  match swStores m ts es with
  | some none => true
  | some (some ns) => decide (ns = tgNames (.Tuple ts 0 ⟨0, 0, 0, 0⟩)) && locsB m ts && decide is.Nodup && (decide (ts.length = 2) || decide (ts.length = 3)) && decide (es.length = ts.length)
  | none => false
mutual
def mS : CS → Mc → Stmt → Bool
  | .asg i ow ce, m, s => match s with
    | .Assign [.Name x p'] e pos => decide (m.N[i]? = some x) && locB m x && mE ce m e
    | _ => false
  | .par is ows es, m, s => match s with
    | .Assign [.Tuple ts _ _] (.Tuple l _ _) _ => decide (m.md = 0) && mNs m is ts && decide (is.length ≤ line) && parB m is ts l && mEs es m l
    | _ => false
  | .asgT is ce, m, s => match s with
    | .Assign [.Tuple ts _ _] e _ => decide (m.md = 0) && mNs m is ts && !isTup e && mE ce m e
    | _ => false
  | .asgN ts ce, m, s => match s with
    | .Assign [.Tuple es _ _] e _ => decide (m.md = 0) && mNp m ts es && !isTup e && mE ce m e
    | _ => false
  | .sto a ix ce, m, s => match s with
    | .Assign [.Subscript o x _] e _ => !isSlice x && mE a m o && mE ix m x && mE ce m e
    | _ => false
  | .aug i op ce, m, s => match s with
    | .AugAssign (.Name x _) q e _ => decide (q = opOf op) && augO op && decide (m.N[i]? = some x) && locB m x && mE ce m e
    | _ => false
  | .augS a ix op ce, m, s => match s with
    | .AugAssign (.Subscript o x _) q e _ => decide (q = opOf op) && augO op && !isSlice x && mE a m o && mE ix m x && mE ce m e
    | _ => false
  | .exp ce, m, s => match s with
    | .Expr e _ => !isComp e && mE ce m e
    | _ => false
  | .ret ce, m, s => match s with
    | .Return (some e) _ => mE ce m e
    | _ => false
  | .retN, m, s => match s with
    | .Return none _ => true
    | _ => false
  | .ife c a b, m, s => match s with
    | .If t x y _ => mE c m t && mB a m x && mB b m y
    | _ => false
  | .whl n c b, m, s => match s with
    | .While t x [] _ => decide (m.md = 0) && mE c m t && mB b m x
    | _ => false
  | .for_ t it b, m, s => match s with
    | .For tg i x [] _ => decide (m.md = 0) && !isSetOnly i && mTg m t tg && mI it m tg i && mB b m x
    | _ => false
  | .brk, m, s => match s with
    | .Break _ => true
    | _ => false
  | .cnt, m, s => match s with
    | .Continue _ => true
    | _ => false
  | .pss, m, s => match s with
    | .Pass _ => true
    | .Expr (.Constant (.str _) _ _) _ => true
    | _ => false
  | .rse k, m, s => match s with
    | .Raise (some (.Call (.Name x _) [.Constant (.str _) _ _] [] _)) none _ => decide (m.md = 0) && glB m x && okN x && decide (m.xs.lookup x = some k)
    | _ => false
  | .tryE i ks os b h, m, s => match s with
    | .Try body [.ExceptHandler (some (.Name x _)) nm suite _] [] [] _ => decide (m.md = 0) && !suite.isEmpty && glB m x && okN x && decide (m.sub.lookup x = some ks) && (ks ++ os).all (fun k => decide (k < m.nx)) &&
        (match i, nm with
          | none, none => true
          | some j, some n => decide (m.N[j]? = some n) && decide (kindB m n = some .local)
          | _, _ => false) && mB b m body && mB h m.sx suite
    | _ => false
def mB : CSs → Mc → List Stmt → Bool
  | .nil, m, l => l.isEmpty
  | .cons s r, m, l => match l with
    | x :: xs => mS s m x && mB r m xs
    | [] => false
  | .frz i r, m, l => mB r m l
  | .kil is r, m, l => mB r m l
end
structure SOk (Γ : Fns) (C : List PyData) (kf : Nat) (X : Cx) (c : Ct) (m : Mc) : Prop extends XOk Γ C kf X c m where
  own : m.md = 0 → PassesOwn (model X.prog X.w) X.A X.env X.xe
  fn : m.fn = true
  kind : X.env.scope.kind = .function
  xs : m.md = 0 → ∀ x k, m.xs.lookup x = some k → ∃ (Ca : Addr) (B newId initId : String) (bmB : List Value), ExcBaseFacts B newId initId bmB ∧ PySem.W.excIn X.K Ca bmB newId = true ∧ X.mg x = some (.ref Ca) ∧ PySem.W.keepIn X.K (.ref Ca) = true ∧ Raises X (.ref Ca) ∧ c.cls k = .ref Ca
  stk : m.md = 0 → X.stack = X.env :: X.outer ∧ X.env.frame = some X.env.locals ∧ c.err = none
  sub : m.md = 0 → ∀ x ks, m.sub.lookup x = some ks → ∃ Ca, X.mg x = some (.ref Ca) ∧ ∀ k, k < m.nx → PySem.W.exmOne X.K (c.cls k) (.ref Ca) = some (ks.contains k)
  hs : m.md = 0 → m.sub ≠ [] → ∀ (a : Addr) (oe : Obj) (k : Nat) (pn : List Pin), k < m.nx → L2N.Zn (c.cls k) none oe → (∃ vs, oe.data = .fields vs) → ∃ D, HotOk Γ kf (X.suite a ((a, oe) :: pn)) (c.sx a k) m.sx (a, oe) k D
section
variable {Γ : Fns} {C : List PyData} {kf : Nat} {X : Cx} {c : Ct} {m : Mc}
theorem mNs_len : ∀ {is : List Nat} {ts : List Expr}, mNs m is ts = true → ts.length = is.length
  | [], [], _ => rfl
  | [], _ :: _, h => by simp [mNs] at h
  | i :: is, [], h => by simp [mNs] at h
  | i :: is, t :: ts, h => by
    cases t <;> first | (simp [mNs] at h; done) | skip
    simp only [mNs, Bool.and_eq_true] at h
    rw [List.length_cons, List.length_cons, mNs_len h.2]
theorem mK_sc {d : PyData} {a : Expr} {b : List Comprehension} {s : Scope} {p : Pos} : mK d (.SetComp a b s p) = false := by cases d <;> rfl
theorem mK_dc {d : PyData} {a a' : Expr} {b : List Comprehension} {s : Scope} {p : Pos} : mK d (.DictComp a a' b s p) = false := by cases d <;> rfl
theorem mE_sc {ce : CE} {a : Expr} {b : List Comprehension} {s : Scope} {p : Pos} : mE ce m (.SetComp a b s p) = false := by
  cases ce <;> unfold mE <;> first | rfl | exact mK_sc
theorem mE_dc {ce : CE} {a a' : Expr} {b : List Comprehension} {s : Scope} {p : Pos} : mE ce m (.DictComp a a' b s p) = false := by
  cases ce <;> unfold mE <;> first | rfl | exact mK_dc
theorem asg_ok {i : Nat} {ow : Bool} {ce : CE} {x : Str} {p' pos : Pos} {e : Expr} (o : SOk Γ C kf X c m) (h1 : m.N[i]? = some x) (h2 : locB m x = true) (h3 : mE ce m e = true) : PS X (.Assign [.Name x p'] e pos) (tS c (evS Γ C (.asg i ow ce))) := by
  have hX := o.toXOk
  obtain ⟨l1, l2⟩ := hX.loc h2
  unfold evS
  cases hs : swB m x p'.line e with
  | false =>
    refine s_asg hX.ndX (hX.nm h1) l1 l2 (snE ce hX h3).pe (sw_ff hX.sc o.kind ?_ hs)
    cases e <;> first | trivial | (rw [mE_sc] at h3; cases h3) | (rw [mE_dc] at h3; cases h3)
  | true =>
    obtain ⟨elt, gs, scope, lpos, rfl, k1, k2, k3⟩ := swB_at hs
    cases ce <;> unfold mE at h3 <;> first | (cases h3; done) | skip
    · rename_i d
      cases d <;> cases h3
    · split at h3
      · rename_i heq
        cases heq
        simp only [Bool.and_eq_true, decide_eq_true_eq, Bool.not_eq_true'] at h3
        obtain ⟨⟨⟨⟨⟨⟨⟨⟨h1', h2'⟩, h3'⟩, h4⟩, h5⟩, h6⟩, h7⟩, h8⟩, h9⟩ := h3
        subst h1'
        have hyl : X.env.scope.names.lookup x = some .local := by rw [hX.sc]; exact k1
        unfold evE
        by_cases hm : m.md = 1
        · rw [if_pos hm] at h5
          obtain ⟨p, k, D, ho⟩ := hX.hotc hm
          exact s_setLcH hX.K ho.hot ho.pn hX.ndX (hX.nm h1) hyl (sw_true o.kind hyl k2 k3) (snH _ hX h5) (by rw [hX.N, hX.sc]; exact blkOk_by h2') h3' (fun s H C' cl fp => ⟨mTg_ok hX.blk h6, (snEs _ hX.blk h8).ts h7, (snE _ hX.blk h9).pe⟩) (fold_ok h4)
        rw [if_neg hm, Bool.and_eq_true, decide_eq_true_eq] at h5
        obtain ⟨h50, h5⟩ := h5
        exact s_setLc hX.K (hX.calm h50) hX.ndX (hX.nm h1) hyl (sw_true o.kind hyl k2 k3) (snI _ hX h5) (by rw [hX.N, hX.sc]; exact blkOk_by h2') h3' (fun s H C' cl fp => ⟨mTg_ok hX.blk h6, (snEs _ hX.blk h8).ts h7, (snE _ hX.blk h9).pe⟩) (fold_ok h4)
      · cases h3
end
end Den
set_option autoImplicit false
set_option maxRecDepth 100000
set_option maxHeartbeats 4000000
/-! Den, part W: statements that match are read so. -/
namespace Den
open PySem PySem.Spec PyProof.Rows L2 GxR
section
variable {Γ : Fns} {C : List PyData} {kf : Nat} {X : Cx} {c : Ct} {m : Mc}
theorem sole_ff {ts : Expr} {e : Expr} {l : Nat} {env : Env} (h : match ts with | .Name _ _ => False | _ => True) : swapsWithSole [ts] e l env = pure false := by
  cases ts <;> first | exact h.elim | (cases e <;> rfl)
theorem stores_none {ts : Expr} {e : Expr} {env : Env} (h : isTup e = false) : swappedStores [ts] e env = pure none := by
  cases e <;> first | (cases h; done) | (cases ts <;> rfl)
theorem stores_sub {o i : Expr} {p : Pos} {e : Expr} {env : Env} : swappedStores [.Subscript o i p] e env = pure none := by
  cases e <;> rfl
theorem exp_ff {e : Expr} {l : Nat} {env : Env} (h : isComp e = false) : swapsWith e none l env = pure false := by
  cases e <;> first | rfl | (cases h; done)
theorem asgn_sub {o i : Expr} {ps : Pos} {env : Env} (h : isSlice i = false) (v : Value) : assign (.Subscript o i ps) env v = (do
      let ov ← holding [v] (eval o env)
      let iv ← holding [v, ov] (eval i env)
      standAt ps
      holding [v, ov, iv] (setItem ov iv v)
      release [v, ov, iv] []) := by
  cases i <;> first | rfl | (cases h; done)
theorem aug_sub {i : Expr} (h : isSlice i = false) (ov iv new : Value) : augStore i ov iv new = (do holding [new, ov, iv] (setItem ov iv new); release [new, ov, iv] []; pure .next) := by
  cases i <;> first | rfl | (cases h; done)
theorem par_ok {is : List Nat} {ows : List Bool} {es : CEs} {ts l : List Expr} {k k2 : Nat} {pt p2 pos : Pos} (o : SOk Γ C kf X c m) (h0 : m.md = 0) (h1 : mNs m is ts = true) (hz : is.length ≤ line) (h2 : parB m is ts l = true) (h3 : mEs es m l = true) :
    PS X (.Assign [.Tuple ts k pt] (.Tuple l k2 p2) pos) (tS c (evS Γ C (.par is ows es))) := by
  have hX := o.toXOk
  have S := snEs es hX h3
  unfold evS
  unfold parB at h2
  split at h2
  · rename_i hs
    exact s_parT (hX.calm h0) hX.ndX (mNs_ok hX h1) S.p hz (sole_ff trivial) (sw_stores hX.sc o.kind hs)
  · rename_i ns hs
    simp only [Bool.and_eq_true, decide_eq_true_eq, Bool.or_eq_true] at h2
    obtain ⟨⟨⟨⟨a1, a2⟩, a3⟩, a4⟩, a5⟩ := h2
    have hl := mNs_len h1
    have hw := sw_stores (k := k) (k2 := k2) (pt := pt) (p2 := p2) hX.sc o.kind hs
    have lk : ∀ {nm : Str}, kindB m nm = some .local → X.env.scope.names.lookup nm = some .local := fun {nm} h => by rw [hX.sc]; exact h
    rcases ts with _ | ⟨t1, _ | ⟨t2, _ | ⟨t3, _ | ⟨_, _⟩⟩⟩⟩
    · simp at a4
    · simp at a4
    · rcases l with _ | ⟨b1, _ | ⟨b2, _ | ⟨_, _⟩⟩⟩
      · simp at a5
      · simp at a5
      · rcases is with _ | ⟨i1, _ | ⟨i2, _ | ⟨_, _⟩⟩⟩
        · simp at hl
        · simp at hl
        · cases t1 <;> first | (simp [mNs] at h1; done) | skip
          cases t2 <;> first | (simp [mNs] at h1; done) | skip
          rename_i x px y py
          simp only [mNs, Bool.and_eq_true, decide_eq_true_eq] at h1
          simp only [locsB, List.all_cons, Bool.and_eq_true, decide_eq_true_eq] at a2
          subst a1
          have ne : i1 ≠ i2 := by simpa using a3
          exact s_par2 (hX.calm h0) hX.ndX (hX.nm h1.1.1) (hX.nm h1.2.1.1) ne (lk a2.1) (lk a2.2.1) S.p hw (sole_ff trivial)
        · simp at hl
      · simp at a5
    · rcases l with _ | ⟨b1, _ | ⟨b2, _ | ⟨b3, _ | ⟨_, _⟩⟩⟩⟩
      · simp at a5
      · simp at a5
      · simp at a5
      · rcases is with _ | ⟨i1, _ | ⟨i2, _ | ⟨i3, _ | ⟨_, _⟩⟩⟩⟩
        · simp at hl
        · simp at hl
        · simp at hl
        · cases t1 <;> first | (simp [mNs] at h1; done) | skip
          cases t2 <;> first | (simp [mNs] at h1; done) | skip
          cases t3 <;> first | (simp [mNs] at h1; done) | skip
          rename_i x px y py z pz
          simp only [mNs, Bool.and_eq_true, decide_eq_true_eq] at h1
          simp only [locsB, List.all_cons, Bool.and_eq_true, decide_eq_true_eq] at a2
          subst a1
          have ne : (i1 ≠ i2 ∧ i1 ≠ i3) ∧ i2 ≠ i3 := by simpa using a3
          exact s_par3 (hX.calm h0) hX.ndX (hX.nm h1.1.1) (hX.nm h1.2.1.1) (hX.nm h1.2.2.1.1) ne.1.1 ne.1.2 ne.2 (lk a2.1) (lk a2.2.1) (lk a2.2.2.1) S.p hw (sole_ff trivial)
        · simp at hl
      · simp at a5
    · simp at a4
  · cases h2
mutual
theorem snS : ∀ (s : CS) {X : Cx} {c : Ct} {m : Mc} {st : Stmt}, SOk Γ C kf X c m → mS s m st = true → PS X st (tS c (evS Γ C s))
  | .asg i ow ce, X, c, m, st, o, h => by
    unfold mS at h
    split at h
    · simp only [Bool.and_eq_true, decide_eq_true_eq] at h
      exact asg_ok o h.1.1 h.1.2 h.2
    · cases h
  | .par is ows es, X, c, m, st, o, h => by
    unfold mS at h
    split at h
    · simp only [Bool.and_eq_true, decide_eq_true_eq] at h
      exact par_ok o h.1.1.1.1 h.1.1.1.2 h.1.1.2 h.1.2 h.2
    · cases h
  | .asgT is ce, X, c, m, st, o, h => by
    unfold mS at h
    split at h
    · simp only [Bool.and_eq_true, Bool.not_eq_true', decide_eq_true_eq] at h
      have hX := o.toXOk
      unfold evS
      exact s_asgT hX.K (hX.calm h.1.1.1) hX.ndX (mNs_ok hX h.1.1.2) (snE ce hX h.2).pe (sole_ff trivial) (stores_none h.1.2)
    · cases h
  | .asgN is ce, X, c, m, st, o, h => by
    unfold mS at h
    split at h
    · simp only [Bool.and_eq_true, Bool.not_eq_true', decide_eq_true_eq] at h
      have hX := o.toXOk
      unfold evS
      exact s_asgN hX.K (hX.calm h.1.1.1) hX.ndX (mNp_ok hX h.1.1.2) (snE ce hX h.2).pe (sole_ff trivial) (stores_none h.1.2)
    · cases h
  | .sto a ix ce, X, c, m, st, o, h => by
    unfold mS at h
    split at h
    · simp only [Bool.and_eq_true, Bool.not_eq_true'] at h
      have hX := o.toXOk
      unfold evS
      exact s_sto hX.K (snE a hX h.1.1.2).pe (snE ix hX h.1.2).pe (snE ce hX h.2).pe (sole_ff trivial) stores_sub (asgn_sub h.1.1.1)
    · cases h
  | .aug i op ce, X, c, m, st, o, h => by
    unfold mS at h
    split at h
    · simp only [Bool.and_eq_true, decide_eq_true_eq] at h
      obtain ⟨⟨⟨⟨h1, h2⟩, h3⟩, h4⟩, h5⟩ := h
      subst h1
      have hX := o.toXOk
      obtain ⟨l1, l2⟩ := hX.loc h4
      unfold evS
      exact s_aug hX.ndX (hX.nm h3) l1 l2 h2 (snE ce hX h5).pe
    · cases h
  | .augS a ix op ce, X, c, m, st, o, h => by
    unfold mS at h
    split at h
    · simp only [Bool.and_eq_true, decide_eq_true_eq, Bool.not_eq_true'] at h
      obtain ⟨⟨⟨⟨⟨h1, h2⟩, h3⟩, h4⟩, h5⟩, h6⟩ := h
      subst h1
      have hX := o.toXOk
      unfold evS
      exact s_augS hX.K h2 (snE a hX h4).pe (snE ix hX h5).pe (snE ce hX h6).pe (aug_sub h3)
    · cases h
  | .exp ce, X, c, m, st, o, h => by
    unfold mS at h
    split at h
    · simp only [Bool.and_eq_true, Bool.not_eq_true'] at h
      unfold evS
      exact s_exp (snE ce o.toXOk h.2).pe (exp_ff h.1)
    · cases h
  | .ret ce, X, c, m, st, o, h => by
    unfold mS at h
    split at h
    · unfold evS
      exact s_ret (snE ce o.toXOk h).pe
    · cases h
  | .retN, X, c, m, st, o, h => by
    unfold mS at h
    split at h
    · unfold evS
      exact s_retN
    · cases h
  | .ife t a b, X, c, m, st, o, h => by
    unfold mS at h
    split at h
    · simp only [Bool.and_eq_true] at h
      unfold evS
      exact s_if (snE t o.toXOk h.1.1).pt (snB a o h.1.2) (snB b o h.2)
    · cases h
  | .whl n t b, X, c, m, st, o, h => by
    unfold mS at h
    split at h
    · simp only [Bool.and_eq_true, decide_eq_true_eq] at h
      unfold evS
      exact s_whl (o.own h.1.1) (snE t o.toXOk h.1.2).pt (snB b o h.2)
    · cases h
  | .for_ t it b, X, c, m, st, o, h => by
    unfold mS at h
    split at h
    · simp only [Bool.and_eq_true, Bool.not_eq_true', decide_eq_true_eq] at h
      have hX := o.toXOk
      unfold evS
      exact s_for hX.K (o.own h.1.1.1.1) (hX.calm h.1.1.1.1) hX.ndX (snI it hX h.1.2) (mTg_ok hX h.1.1.2) (snB b o h.2) (fold_ok h.1.1.1.2)
    · cases h
  | .brk, X, c, m, st, o, h => by
    unfold mS at h
    split at h
    · unfold evS
      exact s_brk
    · cases h
  | .cnt, X, c, m, st, o, h => by
    unfold mS at h
    split at h
    · unfold evS
      exact s_cnt
    · cases h
  | .pss, X, c, m, st, o, h => by
    unfold mS at h
    split at h
    · unfold evS
      exact s_pass
    · unfold evS
      exact s_doc
    · cases h
  | .rse k, X, c, m, st, o, h => by
    unfold mS at h
    split at h
    · simp only [Bool.and_eq_true, decide_eq_true_eq] at h
      obtain ⟨⟨⟨h0, h1⟩, h2⟩, h3⟩ := h
      obtain ⟨q1, _, _⟩ := okN_at h2
      obtain ⟨Ca, B, newId, initId, bmB, F, e1, e2, e3, e4, e5⟩ := o.xs h0 _ _ h3
      have hX := o.toXOk
      unfold evS
      exact s_rse F e1 e2 e3 e4 (hX.gl h1) q1 (hX.calm h0) hX.tk e5
    · cases h
  | .tryE i ks os b h', X, c, m, st, o, h => by
    unfold mS at h
    split at h
    · rename_i body x np nm suite pos' pos
      simp only [Bool.and_eq_true, decide_eq_true_eq, Bool.not_eq_true'] at h
      obtain ⟨⟨⟨⟨⟨⟨⟨⟨h0, h1⟩, h2⟩, h3⟩, h4⟩, h5⟩, h6⟩, h7⟩, h8⟩ := h
      have hX := o.toXOk
      obtain ⟨s1, s2, s3⟩ := o.stk h0
      obtain ⟨q1, _, _⟩ := okN_at h3
      obtain ⟨Ca, g1, g2⟩ := o.sub h0 _ _ h4
      have lt : ∀ k, k ∈ ks ++ os → k < m.nx := fun k hk => of_decide_eq_true (List.all_eq_true.mp h5 k hk)
      have hc : L2.Names X x (.ref Ca) := ⟨hX.gl h2, q1, .inl g1⟩
      have hb : ∀ (W : WX) (pn : List Pin) (xe : Value → Shared → Prop), L2N.Takes (X.tr pn xe) W → PassesOwn (model X.prog X.w) X.A X.env xe → PSs (X.tr pn xe) body (tS (c.w W) (evB Γ C b)) := fun W pn xe tk ow =>
        snB b (X := X.tr pn xe) (c := c.w W) ⟨⟨hX.K, hX.calm, hX.N, hX.nd, hX.nodot, hX.sc, hX.fnc, hX.room, hX.rh, tk, hX.fs, hX.cs, hX.bs, hX.gcd, hX.tab, fun z => by rw [h0] at z; cases z⟩, fun _ => ow, o.fn, o.kind, o.xs, o.stk, o.sub, o.hs⟩ h7
      cases suite with
      | nil => cases h1
      | cons b₀ suite =>
        have hh : ∀ (a : Addr) (oe : Obj) (k : Nat) (pn : List Pin), k ∈ ks → L2N.Zn (c.cls k) none oe → (∃ vs, oe.data = .fields vs) → PSs (X.suite a ((a, oe) :: pn)) (b₀ :: suite) (tS (c.sx a k) (evB Γ C h')) := fun a oe k pn hk hz hf => by
          have hk := lt k (List.mem_append_left _ hk)
          obtain ⟨D, ho⟩ := o.hs h0 (fun z => by rw [z] at h4; cases h4) a oe k pn hk hz hf
          have no : ∀ {P : Prop}, m.sx.md = 0 → P := fun z => by cases z
          refine snB h' (X := X.suite a ((a, oe) :: pn)) (c := c.sx a k) (m := m.sx) ⟨⟨hX.K, no, hX.N, hX.nd, hX.nodot, hX.sc, hX.fnc, no, ⟨hX.rh.dp, hX.rh.un⟩, takes_no, no, hX.cs, hX.bs, hX.gcd, hX.tab, fun _ => ⟨_, _, _, ho⟩⟩, no, o.fn, o.kind, no, no, no, no⟩ h8
        unfold evS
        have hx : ∀ k, k ∈ ks ++ os → PySem.W.exmOne X.K (c.cls k) (.ref Ca) = some (ks.contains k) := fun k hk => g2 k (lt k hk)
        cases i with
        | none =>
          cases nm with
          | none => exact s_tryO s3 hX.K s1 s2 hc hX.tk hx hb hh
          | some n => cases h6
        | some j =>
          cases nm with
          | none => cases h6
          | some n =>
            simp only [Bool.and_eq_true, decide_eq_true_eq] at h6
            refine s_tryN s3 hX.K s1 s2 hX.ndX (hX.nm h6.1) ?_ hc hX.tk hx hb hh
            show X.env.scope.names.lookup n = _
            rw [hX.sc]; exact h6.2
    · cases h
theorem snB : ∀ (b : CSs) {X : Cx} {c : Ct} {m : Mc} {l : List Stmt}, SOk Γ C kf X c m → mB b m l = true → PSs X l (tS c (evB Γ C b))
  | .nil, X, c, m, l, o, h => by
    unfold mB at h
    have : l = [] := by simpa using h
    subst this
    unfold evB
    exact b_nil
  | .cons s r, X, c, m, l, o, h => by
    unfold mB at h
    split at h
    · simp only [Bool.and_eq_true] at h
      unfold evB
      exact b_cons (snS s o h.1) (snB r o h.2)
    · cases h
  | .frz i r, X, c, m, l, o, h => by
    unfold mB at h
    unfold evB
    exact b_frz (snB r o h)
  | .kil is r, X, c, m, l, o, h => by
    unfold mB at h
    unfold evB
    exact b_kil (snB r o h)
end
end
end Den
set_option autoImplicit false
set_option maxRecDepth 100000
set_option maxHeartbeats 4000000
/-! Den, part X: a program of defs. -/
namespace Den
open PySem PySem.Spec PyProof.Rows L2 GxR
structure Entry where
  d : He.DefD
  N : List Str
  ps : List Str
  fd : Fd
  gx : Bool
  /-- called with an error alone, while it is handled -/
  hot : Bool := false
def Entry.mc (m : Mc) (e : Entry) : Mc := { m with N := e.N, sc := e.d.scope, fn := true, gx := e.gx, gd := 3, md := if e.hot then 1 else 0, fh := if e.hot then [] else m.fh }
def scB (N ps : List Str) (sc : Scope) : Bool := decide (sc.kind = .function) && !sc.isCoroutine && !sc.isGenerator && decide N.Nodup && decide (N.take ps.length = ps) &&
  (ps.all fun x => decide (sc.names.lookup x = some .local) || decide (sc.names.lookup x = some .cell)) && (sc.names.all fun y => decide (y.2 ≠ .free))
theorem sc_ok {N ps : List Str} {sc : Scope} (h : scB N ps sc = true) : FnScope N ps sc := by
  unfold scB at h
  simp only [Bool.and_eq_true, Bool.not_eq_true', decide_eq_true_eq, List.all_eq_true, Bool.or_eq_true] at h
  obtain ⟨⟨⟨⟨⟨⟨h1, h2⟩, h3⟩, h4⟩, h5⟩, h6⟩, h7⟩ := h
  exact ⟨h1, h2, h3, h4, h5, h6, h7⟩
/-- a def is the core term that it is said to be -/
def Entry.ok (m : Mc) (e : Entry) : Bool := scB e.N e.ps e.d.scope && decide (e.fd.np = e.ps.length) && decide (e.fd.ns = e.N.length) && decide ((".0" : Str) ∉ e.N) && e.d.dfl.isEmpty && e.d.kwd.isEmpty && mB e.fd.body (e.mc m) e.d.body
def Entry.Bnd (e : Entry) : Prop := ∀ (kV doc pm : Value) (an : Option Addr) (cdv ct : Value) (us : List Value), us.length = e.ps.length → bindArgs (PySem.W.fnOf e.d.name e.d.qual e.d.params e.d.body e.d.scope .none kV doc pm an cdv ct) ⟨us, []⟩ = pure (e.ps.zip us)
def BndL : List Entry → Prop
  | [] => True
  | e :: r => e.Bnd ∧ BndL r
theorem bndL_at : ∀ {l : List Entry} {j : Nat} {e : Entry}, BndL l → l[j]? = some e → e.Bnd
  | [], _, _, _, h => by cases h
  | _ :: _, 0, _, b, h => by cases h; exact b.1
  | _ :: r, j + 1, e, b, h => bndL_at (l := r) (j := j) b.2 h
/-- the names of the defs -/
def fsOf : Nat → List Entry → List (Str × Nat × Nat)
  | _, [] => []
  | j, e :: r => if e.hot then fsOf (j + 1) r else (e.d.name, j, e.ps.length) :: fsOf (j + 1) r
theorem fsOf_at : ∀ {l : List Entry} {j : Nat} {x : Str} {k n : Nat}, (fsOf j l).lookup x = some (k, n) → ∃ i e, k = j + i ∧ l[i]? = some e ∧ e.d.name = x ∧ e.ps.length = n ∧ e.hot = false
  | [], _, _, _, _, h => by cases h
  | e :: r, j, x, k, n, h => by
    unfold fsOf at h
    have go : (fsOf (j + 1) r).lookup x = some (k, n) → ∃ i e', k = j + i ∧ (e :: r)[i]? = some e' ∧ e'.d.name = x ∧ e'.ps.length = n ∧ e'.hot = false := fun h => by
      obtain ⟨i, e', h1, h2, h3⟩ := fsOf_at h
      exact ⟨i + 1, e', by omega, h2, h3⟩
    cases hh : e.hot with
    | true =>
      rw [hh] at h
      exact go h
    | false =>
      rw [hh] at h
      have h' : ((e.d.name, j, e.ps.length) :: fsOf (j + 1) r).lookup x = some (k, n) := h
      rw [List.lookup_cons] at h'
      cases q : (x == e.d.name) with
      | true =>
        rw [q] at h'
        cases h'
        exact ⟨0, e, rfl, rfl, (by simpa using q : x = e.d.name).symm, rfl, hh⟩
      | false =>
        rw [q] at h'
        exact go h'
def fhOf : Nat → List Entry → List (Str × Nat × Nat)
  | _, [] => []
  | j, e :: r => if e.hot then (e.d.name, j, e.ps.length) :: fhOf (j + 1) r else fhOf (j + 1) r
theorem fhOf_at : ∀ {l : List Entry} {j : Nat} {x : Str} {k n : Nat}, (fhOf j l).lookup x = some (k, n) → ∃ i e, k = j + i ∧ l[i]? = some e ∧ e.d.name = x ∧ e.ps.length = n ∧ e.hot = true
  | [], _, _, _, _, h => by cases h
  | e :: r, j, x, k, n, h => by
    unfold fhOf at h
    have go : (fhOf (j + 1) r).lookup x = some (k, n) → ∃ i e', k = j + i ∧ (e :: r)[i]? = some e' ∧ e'.d.name = x ∧ e'.ps.length = n ∧ e'.hot = true := fun h => by
      obtain ⟨i, e', h1, h2, h3⟩ := fhOf_at h
      exact ⟨i + 1, e', by omega, h2, h3⟩
    cases hh : e.hot with
    | false =>
      rw [hh] at h
      exact go h
    | true =>
      rw [hh] at h
      have h' : ((e.d.name, j, e.ps.length) :: fhOf (j + 1) r).lookup x = some (k, n) := h
      rw [List.lookup_cons] at h'
      cases q : (x == e.d.name) with
      | true =>
        rw [q] at h'
        cases h'
        exact ⟨0, e, rfl, rfl, (by simpa using q : x = e.d.name).symm, rfl, hh⟩
      | false =>
        rw [q] at h'
        exact go h'
/-- what is known of the module's names -/
structure Glob (E : List Entry) (C : List PyData) (K : Fg) (mg : Str → Option Value) (base : Heap) (c : Ct) (m : Mc) : Prop where
  hK : c.K = K
  nox : c.W = fun _ _ _ _ => False
  fs : m.fs = fsOf 0 E
  ok : ∀ e ∈ E, e.ok m = true
  bnd : BndL E
  fn : ∀ e ∈ E, ∃ fd, FunD K e.d.name e.d.qual e.d.params e.d.body e.d.scope (e.d.dvs K) (e.d.kws K) (He.fAd K e.d.at_) fd
  mgE : ∀ e ∈ E, mg e.d.name = some (.ref (He.fAd K e.d.at_))
  cs : ∀ x j, m.cs.lookup x = some j → ∃ v u d, C[j]? = some d ∧ mg x = some u ∧ RelV v u ∧ ∀ T H, Rel K T H v d
  bs : ∀ x ∈ m.bs, mg x = none
  gcd : m.gcd = true → mg "gcd" = some (.builtin "math.gcd")
  xs : ∀ x k, m.xs.lookup x = some k → ∃ (Ca : Addr) (B newId initId : String) (bmB : List Value), ExcBaseFacts B newId initId bmB ∧ PySem.W.excIn K Ca bmB newId = true ∧ mg x = some (.ref Ca) ∧ PySem.W.keepIn K (.ref Ca) = true ∧ PySem.W.subIn K (.ref Ca) (.type "BaseException") = some true ∧ PySem.W.typeIn K (.ref Ca) = some (.type "type") ∧ c.cls k = .ref Ca
  fh : m.fh = fhOf 0 E
  noe : c.err = none
  ec : ∀ k, k < m.nx → ∃ D, c.cls k = .ref D ∧ (∀ x ks, m.sub.lookup x = some ks → PySem.W.exmOne K (.ref D) (.ref (He.ga K x)) = some (ks.contains k) ∧ PySem.W.kitOne K (.ref D) (.ref (He.ga K x)) = some (ks.contains k)) ∧ (m.sub ≠ [] → ExcC K D)
  sub : ∀ x ks, m.sub.lookup x = some ks → mg x = some (.ref (He.ga K x))
  tab : ∀ e ∈ E, e.gx = true → TabB base mg (He.cT K e.d.at_).1 (He.cT K e.d.at_).2 ∧ c.TB (He.cT K e.d.at_).2
section
variable {P : Program} {w : World} {K : Fg} {mg : Str → Option Value} {base : Heap} {c : Ct} {m : Mc} {E : List Entry} {C : List PyData}
theorem Glob.binds (g : Glob E C K mg base c m) {e : Entry} {fd : FuncData} {f : Addr} (he : e ∈ E) (F : FunD K e.d.name e.d.qual e.d.params e.d.body e.d.scope (e.d.dvs K) (e.d.kws K) f fd) : L2.Binds K fd e.ps [] := by
  have ok := g.ok e he
  unfold Entry.ok at ok
  simp only [Bool.and_eq_true] at ok
  have hd : e.d.dvs K = [] := by
    have : e.d.dfl = [] := by simpa using ok.1.1.2
    unfold He.DefD.dvs
    rw [this]; rfl
  rw [hd] at F
  obtain ⟨j, hj, ej⟩ := List.mem_iff_getElem.mp he
  exact F.bindsN fun kV doc pm an cdv ct us hl => bndL_at g.bnd (j := j) (by rw [List.getElem?_eq_getElem hj, ej]) kV doc pm an cdv ct us hl
theorem fns_wf {e : Entry} (hok : e.ok m = true) {n j : Nat} (h : E[j]? = some e) : WfF e.ps.length (fns (E.map Entry.fd) C n j) := by
  unfold Entry.ok at hok
  simp only [Bool.and_eq_true, decide_eq_true_eq] at hok
  cases n with
  | zero => exact ⟨fun as z => absurd rfl z, (fun _ _ _ _ z => nomatch z), (fun _ _ _ _ z => nomatch z)⟩
  | succ n =>
    have ht : (E.map Entry.fd)[j]? = some e.fd := by rw [List.getElem?_map, h]; rfl
    have : fns (E.map Entry.fd) C (n + 1) j = runF (fns (E.map Entry.fd) C n) C e.fd := by
      funext as
      show (match (E.map Entry.fd)[j]? with | some fd => runF (fns (E.map Entry.fd) C n) C fd as | none => .bad) = _
      rw [ht]
    rw [this, ← hok.1.1.1.1.1.2]
    exact runF_wf
theorem fns_eq {e : Entry} {n j : Nat} (h : E[j]? = some e) : fns (E.map Entry.fd) C (n + 1) j = runF (fns (E.map Entry.fd) C n) C e.fd := by
  have ht : (E.map Entry.fd)[j]? = some e.fd := by rw [List.getElem?_map, h]; rfl
  funext as
  show (match (E.map Entry.fd)[j]? with | some fd => runF (fns (E.map Entry.fd) C n) C fd as | none => .bad) = _
  rw [ht]
/-- a def that is called with an error while it is handled -/
theorem fns_hot (g : Glob E C K mg base c m) {p : Pin} {k : Nat} (hk : k < m.nx) (hs : m.sub ≠ []) (hz : L2N.Zn (c.cls k) none p.2) : ∀ (n j : Nat) (e : Entry) (fd : FuncData), E[j]? = some e → e.hot = true → FunD K e.d.name e.d.qual e.d.params e.d.body e.d.scope (e.d.dvs K) (e.d.kws K) (He.fAd K e.d.at_) fd →
    FnE p P w K mg base (L2N.CX P w) (4 * n) (He.fAd K e.d.at_) fd e.ps (spF { c with err := some (p.1, k) } e.ps.length (fns (E.map Entry.fd) C n j))
  | 0, j, e, fd, h, hh, F => by
    refine ⟨fun vs H Q E' z => z.1, fun A outer s H args us vs Q E' _ _ _ _ _ _ z => ?_⟩
    obtain ⟨_, _, _, _, _, k⟩ := z
    exact k.elim
  | n + 1, j, e, fd, h, hh, F => by
    have he : e ∈ E := List.mem_of_getElem? h
    have hok := g.ok e he
    unfold Entry.ok at hok
    simp only [Bool.and_eq_true, decide_eq_true_eq] at hok
    obtain ⟨⟨⟨⟨⟨⟨o1, o2⟩, o3⟩, o4⟩, o5⟩, o6⟩, o7⟩ := hok
    have S := sc_ok o1
    rw [fns_eq h]
    obtain ⟨oc, od, dV, kV, doc, pm, an, cdv, ct, osl, rfl, lk, hcd, _, _⟩ := F.ex
    obtain ⟨cc, rfl⟩ := He.codeIn_ref hcd
    have ecc : He.codeOf K e.d.at_ = cc := He.codeOf_eq lk rfl
    have emd : (e.mc m).md = 1 := by unfold Entry.mc; simp [hh]
    have no : ∀ {Q : Prop}, (e.mc m).md = 0 → Q := fun z => by rw [emd] at z; cases z
    refine fn_ofE (k := 4 * n + 3) lk hcd S (fun vs H Q E' z => z.1) fun A outer s H vs Q E' hot hr hsp => ?_
    obtain ⟨D, d1, d2, d3⟩ := g.ec k hk
    refine ⟨tS { c with err := some (p.1, k), W := fun cls d _ H' => E' cls d H' } (evB (fns (E.map Entry.fd) C n) C e.fd.body), ?_, ?_⟩
    · refine snB (kf := 4 * n) (m := e.mc m) e.fd.body ⟨⟨g.hK.symm, no, rfl, S.nd, o4, rfl, fun _ _ => rfl, no, hr, L2N.takes_of rfl rfl rfl rfl, no, ?_, g.bs, g.gcd, fun hgx => ?_, fun _ => ⟨p, k, D, hot, List.mem_singleton.mpr rfl, rfl, ?_, d3 hs, fun x ks hx => ⟨_, g.sub x ks hx, (d2 x ks hx).2⟩, fun x j hx => ?_⟩⟩, no, rfl, S.kind, no, no, no, no⟩ o7
      · have := g.cs
        rw [← g.hK] at this
        exact this
      · obtain ⟨t1, t2⟩ := g.tab e he hgx
        refine ⟨_, _, ?_, t1, t2⟩
        show Value.ref cc = .ref (He.codeOf K e.d.at_)
        rw [ecc]
      · rw [← d1]; exact hz.zc
      · have : (e.mc m).fh = [] := by unfold Entry.mc; simp [hh]
        rw [this] at hx
        cases hx
    · have hv := hsp.1
      rw [← o2] at hsp
      have hs : L2.start e.N vs = vs.map some ++ List.replicate (e.N.length - vs.length) none := rfl
      rw [hs]
      exact fn_body (n := e.N.length - vs.length) (by rw [hv, o2, o3]) hsp
theorem fns_ok (g : Glob E C K mg base c m) : ∀ (n j : Nat) (e : Entry) (fd : FuncData), E[j]? = some e → e.hot = false → FunD K e.d.name e.d.qual e.d.params e.d.body e.d.scope (e.d.dvs K) (e.d.kws K) (He.fAd K e.d.at_) fd →
    FnOk P w K mg base (L2N.CX P w) (4 * n) (He.fAd K e.d.at_) fd e.ps (spF c e.ps.length (fns (E.map Entry.fd) C n j))
  | 0, j, e, fd, h, hh, F => by
    refine ⟨fun vs H Q E' z => z.1, fun A outer s H args us vs Q E' _ _ _ _ z => ?_⟩
    obtain ⟨_, _, _, _, _, k⟩ := z
    exact k.elim
  | n + 1, j, e, fd, h, hh, F => by
    have he : e ∈ E := List.mem_of_getElem? h
    have hok := g.ok e he
    unfold Entry.ok at hok
    simp only [Bool.and_eq_true, decide_eq_true_eq] at hok
    obtain ⟨⟨⟨⟨⟨⟨o1, o2⟩, o3⟩, o4⟩, o5⟩, o6⟩, o7⟩ := hok
    have S := sc_ok o1
    rw [fns_eq h]
    obtain ⟨oc, od, dV, kV, doc, pm, an, cdv, ct, osl, rfl, lk, hcd, _, _⟩ := F.ex
    obtain ⟨cc, rfl⟩ := He.codeIn_ref hcd
    have ecc : He.codeOf K e.d.at_ = cc := He.codeOf_eq lk rfl
    have emd : (e.mc m).md = 0 := by unfold Entry.mc; simp [hh]
    have efh : (e.mc m).fh = m.fh := by unfold Entry.mc; simp [hh]
    refine fn_of (k := 4 * n + 3) lk hcd S (fun vs H Q E' z => z.1) fun A outer s H vs Q E' hr hsp => ?_
    refine ⟨tS { c with W := fun cls d _ H' => E' cls d H' } (evB (fns (E.map Entry.fd) C n) C e.fd.body), ?_, ?_⟩
    · refine snB (kf := 4 * n) (m := e.mc m) e.fd.body ⟨⟨g.hK.symm, fun _ => rfl, rfl, S.nd, o4, rfl, fun _ _ => rfl, fun _ => hr, L2H.roomH_of hr, L2N.takes_of rfl rfl rfl rfl, fun _ x j' np hx => ?_, ?_, g.bs, g.gcd, fun hgx => ?_, fun z => by rw [emd] at z; cases z⟩, fun _ => passes_of rfl, rfl, S.kind, fun _ x k hx => ?_, fun _ => ⟨rfl, rfl, g.noe⟩, fun _ x ks hx => ⟨_, g.sub x ks hx, fun k hk => ?_⟩, fun _ hs a oe k pn hk hz hf => ?_⟩ o7
      · have hx' : (fsOf 0 E).lookup x = some (j', np) := by rw [← g.fs]; exact hx
        obtain ⟨i, e', h1, h2, h3, h4, h5⟩ := fsOf_at hx'
        rw [Nat.zero_add] at h1
        subst h1 h3 h4
        have he' := List.mem_of_getElem? h2
        obtain ⟨fd', F'⟩ := g.fn e' he'
        have ih := fns_ok g n j' e' fd' h2 h5 F'
        have ec : ({ c with W := fun cls d _ H' => E' cls d H' } : Ct).nox = c := by
          obtain ⟨cK, cW, ccls, cTB, cerr⟩ := c
          have := g.nox
          simp only at this
          subst this
          rfl
        rw [ec]
        exact ⟨_, fd', e'.ps, ih, fns_wf (g.ok e' he') h2, g.mgE e' he', F'.kp, g.binds he' F'⟩
      · have := g.cs
        rw [← g.hK] at this
        exact this
      · obtain ⟨t1, t2⟩ := g.tab e he hgx
        refine ⟨_, _, ?_, t1, t2⟩
        show Value.ref cc = .ref (He.codeOf K e.d.at_)
        rw [ecc]
      · obtain ⟨Ca, B, newId, initId, bmB, h1, h2, h3, h4, h5, h6, h7⟩ := g.xs x k hx
        exact ⟨Ca, B, newId, initId, bmB, h1, h2, h3, h4, raises_own h5 h6, h7⟩
      · obtain ⟨D, d1, d2, _⟩ := g.ec k hk
        show PySem.W.exmOne K (c.cls k) _ = _
        rw [d1]
        exact (d2 x ks hx).1
      · obtain ⟨D, d1, d2, d3⟩ := g.ec k hk
        have d1' : c.cls k = .ref D := d1
        obtain ⟨vs', hf⟩ := hf
        refine ⟨D, ⟨rfl, vs', hf, hz.2.2 vs' hf⟩, List.mem_cons_self, rfl, by rw [← d1]; exact hz.zc, d3 hs, fun x ks hx => ⟨_, g.sub x ks hx, (d2 x ks hx).2⟩, fun x j' hx => ?_⟩
        have hx' : (fhOf 0 E).lookup x = some (j', 1) := by rw [← g.fh, ← efh]; exact hx
        obtain ⟨i, e', h1, h2, h3, h4, h5⟩ := fhOf_at hx'
        rw [Nat.zero_add] at h1
        subst h1 h3
        have he' := List.mem_of_getElem? h2
        obtain ⟨fd', F'⟩ := g.fn e' he'
        have ih := fns_hot g (P := P) (w := w) (p := (a, oe)) hk hs hz n j' e' fd' h2 h5 F'
        have ec : (({ c with W := fun cls d _ H' => E' cls d H' } : Ct).sx a k) = { c with err := some (a, k) } := by
          obtain ⟨cK, cW, ccls, cTB, cerr⟩ := c
          have := g.nox
          simp only at this
          subst this
          rfl
        have wf := fns_wf (C := C) (n := n) (g.ok e' he') h2
        rw [h4] at ih wf
        rw [ec]
        exact ⟨_, fd', e'.ps, ih, wf, g.mgE e' he', F'.kp, g.binds he' F'⟩
    · have hv := hsp.1
      rw [← o2] at hsp
      have hs : L2.start e.N vs = vs.map some ++ List.replicate (e.N.length - vs.length) none := rfl
      rw [hs]
      exact fn_body (n := e.N.length - vs.length) (by rw [hv, o2, o3]) hsp
end
end Den
set_option autoImplicit false
set_option maxRecDepth 100000
set_option maxHeartbeats 4000000
/-! Den, part Y: a law over its head. -/
namespace Den
open PySem PySem.Spec PyProof.Rows L2 GxR
/-! ### constants of the module -/
def dvOf : PyData → He.Dv
  | .bool b => .bl b
  | .int i => .int i
  | .str x => .str x
  | _ => .non
def flatB : PyData → Bool
  | .none | .bool _ | .int _ => true
  | .str x => PyData.strOk x
  | _ => false
def consFa (q : Str × PyData) : He.Fa := match q.2 with
  | .int i => .int q.1 i
  | .str s => .str q.1 s
  | _ => .glo q.1
def consB (K : Fg) (q : Str × PyData) : Bool := match q.2 with
  | .int _ => true
  | .str s => PyData.strOk s
  | .tuple ds => ds.all flatB && He.tupB K q.1 (ds.map dvOf)
  | _ => false
theorem flat_rel {K : Fg} {T : Addr → Prop} {H : Hp} {d : PyData} (h : flatB d = true) : Rel K T H ((dvOf d).v K) d := by
  cases d <;> first | (cases h; done) | skip
  · exact rel_non
  · exact rel_bl
  · exact rel_int
  · exact rel_str h
theorem flat_relL {K : Fg} {T : Addr → Prop} {H : Hp} : ∀ {ds : List PyData}, ds.all flatB = true → RelL K T H ((ds.map dvOf).map (He.Dv.v K)) ds
  | [], _ => RelL.nil
  | d :: ds, h => by
    rw [List.all_cons, Bool.and_eq_true] at h
    exact RelL.cons (flat_rel h.1) (flat_relL h.2)
theorem cons_ok {K : Fg} {h : Heap} {mg : Str → Option Value} {q : Str × PyData} (X : K.In h) (G : h.Ns mainGlobals mg) (c : (consFa q).ok K = true) (b : consB K q = true) : ∃ v u, mg q.1 = some u ∧ RelV v u ∧ ∀ T H, Rel K T H v q.2 := by
  obtain ⟨x, d⟩ := q
  cases d <;> first | (cases b; done) | skip
  · rename_i i
    obtain ⟨t, e⟩ := He.int_ok X G c
    exact ⟨.int i, _, e, ⟨t, rfl⟩, fun T H => rel_int⟩
  · rename_i s
    obtain ⟨t, e⟩ := He.str_ok X G c
    exact ⟨.str s, _, e, ⟨t, rfl⟩, fun T H => rel_str b⟩
  · rename_i ds
    have b' : (ds.all flatB && He.tupB K x (ds.map dvOf)) = true := b
    rw [Bool.and_eq_true] at b'
    refine ⟨.ref (He.ga K x), _, He.glo_ok X G c, rfl, fun T H => ?_⟩
    unfold Rel
    have hq := He.tupB_ok b'.2 (fun _ => none)
    rcases hq with (hq | ⟨_, hq⟩) | hq
    · cases hq
    · cases hq
    · exact ⟨_, _, rfl, .inr hq, flat_relL b'.1⟩
/-- constants' places -/
def csOf : Nat → List (Str × PyData) → List (Str × Nat)
  | _, [] => []
  | j, q :: r => (q.1, j) :: csOf (j + 1) r
theorem csOf_at : ∀ {l : List (Str × PyData)} {j : Nat} {x : Str} {k : Nat}, (csOf j l).lookup x = some k → ∃ i q, k = j + i ∧ l[i]? = some q ∧ q.1 = x
  | [], _, _, _, h => by cases h
  | q :: r, j, x, k, h => by
    unfold csOf at h
    rw [List.lookup_cons] at h
    cases e : (x == q.1) with
    | true =>
      rw [e] at h
      cases h
      exact ⟨0, q, rfl, rfl, (by simpa using e : x = q.1).symm⟩
    | false =>
      rw [e] at h
      obtain ⟨i, q', h1, h2, h3⟩ := csOf_at h
      exact ⟨i + 1, q', by omega, h2, h3⟩
def xsOf : Nat → List Str → List (Str × Nat)
  | _, [] => []
  | j, x :: r => (x, j) :: xsOf (j + 1) r
theorem xsOf_at : ∀ {l : List Str} {j : Nat} {x : Str} {k : Nat}, (xsOf j l).lookup x = some k → ∃ i, k = j + i ∧ l[i]? = some x
  | [], _, _, _, h => by cases h
  | q :: r, j, x, k, h => by
    unfold xsOf at h
    rw [List.lookup_cons] at h
    cases e : (x == q) with
    | true =>
      rw [e] at h
      cases h
      have : x = q := by simpa using e
      subst this
      exact ⟨0, rfl, rfl⟩
    | false =>
      rw [e] at h
      obtain ⟨i, h1, h2⟩ := xsOf_at h
      exact ⟨i + 1, by omega, h2⟩
/-- a law's text: its defs, constants, free names, own exceptions, does it take gcd from math -/
structure LawT where
  E : List Entry
  C : List (Str × PyData)
  bs : List Str
  xs : List Str
  gcd : Bool
  /-- classes of errors: which of the own ones are of it -/
  sub : List (Str × List Nat) := []
def LawT.m (t : LawT) : Mc := ⟨[], ⟨.function, [], false, false, []⟩, true, fsOf 0 t.E, csOf 0 t.C, xsOf 0 t.xs, t.bs, t.gcd, false, 0, 0, t.sub, t.xs.length, fun _ => false, fhOf 0 t.E⟩
def LawT.fa (t : LawT) : List He.Fa := t.E.map (fun e => .glo e.d.name) ++ t.C.map consFa ++ t.bs.map .free ++ t.xs.map .exc ++ t.xs.map .glo
def LawT.fn (t : LawT) : List He.DefD := t.E.map fun e => e.d
def LawT.tf (t : LawT) : List He.Defn := (t.E.filter fun e => e.gx).map fun e => e.d.at_
/-- what a class of errors must say -/
def excCB (K : Fg) (x : Str) : Bool :=
  decide (PySem.W.findIn K (.ref (He.ga K x)) "__getattribute__" = some (some (.builtin "BaseException.__getattribute__"))) && decide (PySem.W.findIn K (.ref (He.ga K x)) "__getattr__" = some none) && decide (PySem.W.subIn K (.ref (He.ga K x)) (.type "BaseException") = some true) &&
  decide (PySem.W.hasDictIn K (He.ga K x) = true) && decide (PySem.W.findIn K (.ref (He.ga K x)) "__class__" = some (some (.builtin "object.__class__"))) && decide (PySem.W.specialIn K (.builtin "object.__class__") "__get__" = some (some (.builtin "getset_descriptor.__get__"))) &&
  decide (PySem.W.takesIn K (.builtin "object.__class__") = some true) && decide (PySem.W.mroIn K (He.ga K x) (.type "object") = some true)
theorem excCB_ok {K : Fg} {x : Str} (h : excCB K x = true) : ExcC K (He.ga K x) := by
  unfold excCB at h
  simp only [Bool.and_eq_true, decide_eq_true_eq] at h
  obtain ⟨⟨⟨⟨⟨⟨⟨h1, h2⟩, h3⟩, h4⟩, h5⟩, h6⟩, h7⟩, h8⟩ := h
  exact ⟨h1, h2, h3, h4, h5, h6, h7, h8⟩
def subB (K : Fg) (y : Str) (q : Str × List Nat) (k : Nat) : Bool := decide (PySem.W.exmOne K (.ref (He.ga K y)) (.ref (He.ga K q.1)) = some (q.2.contains k)) && decide (PySem.W.kitOne K (.ref (He.ga K y)) (.ref (He.ga K q.1)) = some (q.2.contains k))
def subL (K : Fg) (sub : List (Str × List Nat)) : Nat → List Str → Bool
  | _, [] => true
  | k, y :: r => sub.all (fun q => subB K y q k) && (sub.isEmpty || excCB K y) && subL K sub (k + 1) r
theorem subL_at {K : Fg} {sub : List (Str × List Nat)} : ∀ {l : List Str} {j i : Nat} {y : Str}, subL K sub j l = true → l[i]? = some y → sub.all (fun q => subB K y q (j + i)) = true ∧ (sub ≠ [] → excCB K y = true)
  | [], _, _, _, _, h => by cases h
  | z :: r, j, 0, y, h, e => by
    cases e
    unfold subL at h
    simp only [Bool.and_eq_true, Bool.or_eq_true] at h
    exact ⟨h.1.1, fun n => h.1.2.elim (fun q => absurd (List.isEmpty_iff.mp q) n) id⟩
  | z :: r, j, i + 1, y, h, e => by
    unfold subL at h
    rw [Bool.and_eq_true] at h
    have := subL_at (i := i) (y := y) h.2 e
    rw [show j + 1 + i = j + (i + 1) from by omega] at this
    exact this
def LawT.ex (t : LawT) (K : Fg) : Bool := subL K t.sub 0 t.xs && t.sub.all (fun q => decide (q.1 ∈ t.xs)) && t.C.all (consB K) && (!t.gcd || He.eqO (PySem.W.nsIn K mainGlobals "gcd") (some (some (.builtin "math.gcd"))))
/-- the names by which the defs are found are their own -/
def LawT.at (t : LawT) : Bool := t.E.all fun e => decide (e.d.at_ = (e.d.name, none)) && e.ok t.m
def LawT.T (t : LawT) : List Fd := t.E.map Entry.fd
def LawT.D (t : LawT) : List PyData := t.C.map (·.2)
def LawT.run (t : LawT) (n j : Nat) : List Sl → FR := fns t.T t.D n j
def LawT.c (t : LawT) (K : Fg) (TB : Addr → Prop) : Ct := ⟨K, fun _ _ _ _ => False, fun k => match t.xs[k]? with | some x => .ref (He.ga K x) | none => .none, TB, none⟩
theorem excVE : ∃ initId, ExcBaseFacts "ValueError" "ValueError.__new__" initId He.veBase := ⟨_, PySem.F.excBase_ValueError⟩
theorem LawT.glob (t : LawT) {K : Fg} {h base : Heap} {mg : Str → Option Value} {w : World} (hat : t.at = true) (hb : BndL t.E) (X : K.In base) (G : base.Ns mainGlobals mg) (s : He.SaysX t.fa t.fn [] t.tf t.ex w h K)
    (TB : ∀ p ∈ t.tf.map (He.cT K), TabB base mg p.1 p.2) : Glob t.E t.D K mg base (t.c K fun P => ∃ p ∈ t.tf.map (He.cT K), p.2 = P) t.m := by
  have sd := s.t.d
  have fact : ∀ {f : He.Fa}, f ∈ t.fa → f.ok K = true := fun hf => sd.facts hf
  unfold LawT.at at hat
  rw [List.all_eq_true] at hat
  have hat' : ∀ e ∈ t.E, e.d.at_ = (e.d.name, none) ∧ e.ok t.m = true := fun e he => by
    have := hat e he
    rw [Bool.and_eq_true] at this
    exact ⟨of_decide_eq_true this.1, this.2⟩
  have more := s.more
  unfold LawT.ex at more
  rw [Bool.and_eq_true, Bool.and_eq_true, Bool.and_eq_true] at more
  have sub := more.1.1.1
  have subx := more.1.1.2
  replace more := And.intro more.1.2 more.2
  have lk : ∀ x ks, t.sub.lookup x = some ks → (x, ks) ∈ t.sub := fun x ks hx => PySem.mem_of_lookup hx
  refine ⟨rfl, rfl, rfl, fun e he => (hat' e he).2, hb, fun e he => ?_, fun e he => ?_, fun x j hx => ?_, fun x hx => ?_, fun hg => ?_, fun x k hx => ?_, rfl, rfl, fun k hk => ?_, fun x ks hx => ?_, fun e he hgx => ?_⟩
  · exact sd.defs (List.mem_map.mpr ⟨e, he, rfl⟩)
  · have := He.glo_ok X G (fact (f := .glo e.d.name) (by unfold LawT.fa; simp only [List.mem_append, List.mem_map]; exact .inl (.inl (.inl (.inl ⟨e, he, rfl⟩)))))
    rw [this, (hat' e he).1]
    rfl
  · obtain ⟨i, q, h1, h2, h3⟩ := csOf_at hx
    rw [Nat.zero_add] at h1
    subst h1 h3
    have hq := List.mem_of_getElem? h2
    obtain ⟨v, u, e1, e2, e3⟩ := cons_ok X G (fact (f := consFa q) (by unfold LawT.fa; simp only [List.mem_append, List.mem_map]; exact .inl (.inl (.inl (.inr ⟨q, hq, rfl⟩))))) (List.all_eq_true.mp more.1 q hq)
    exact ⟨v, u, q.2, by unfold LawT.D; rw [List.getElem?_map, h2]; rfl, e1, e2, e3⟩
  · exact He.free_ok X G (fact (f := .free x) (by unfold LawT.fa; simp only [List.mem_append, List.mem_map]; exact .inl (.inl (.inr ⟨x, hx, rfl⟩))))
  · have h2 := more.2
    have hg' : t.gcd = true := hg
    rw [hg'] at h2
    exact PySem.W.mg_of X G (He.eqO_ok h2)
  · obtain ⟨i, h1, h2⟩ := xsOf_at hx
    rw [Nat.zero_add] at h1
    subst h1
    have hm := List.mem_of_getElem? h2
    obtain ⟨q1, q2, q3, q4⟩ := He.exc_ok (fact (f := .exc x) (by unfold LawT.fa; simp only [List.mem_append, List.mem_map]; exact .inl (.inr ⟨x, hm, rfl⟩)))
    have q5 := He.glo_ok X G (fact (f := .glo x) (by unfold LawT.fa; simp only [List.mem_append, List.mem_map]; exact .inr ⟨x, hm, rfl⟩))
    obtain ⟨initId, F⟩ := excVE
    exact ⟨He.ga K x, "ValueError", "ValueError.__new__", initId, He.veBase, F, q1, q5, q2, q3, q4, by show (match t.xs[k]? with | some x => Value.ref (He.ga K x) | none => .none) = _; rw [h2]⟩
  · obtain ⟨y, hy⟩ := lt_get (l := t.xs) (i := k) hk
    obtain ⟨s1, s2⟩ := subL_at (j := 0) sub hy
    rw [Nat.zero_add] at s1
    refine ⟨He.ga K y, by show (match t.xs[k]? with | some x => Value.ref (He.ga K x) | none => .none) = _; rw [hy], fun x ks hx => ?_, fun n => excCB_ok (s2 n)⟩
    have := List.all_eq_true.mp s1 _ (lk x ks hx)
    unfold subB at this
    rw [Bool.and_eq_true, decide_eq_true_eq, decide_eq_true_eq] at this
    exact this
  · have hm : x ∈ t.xs := of_decide_eq_true (List.all_eq_true.mp subx _ (lk x ks hx))
    exact He.glo_ok X G (fact (f := .glo x) (by unfold LawT.fa; simp only [List.mem_append, List.mem_map]; exact .inr ⟨x, hm, rfl⟩))
  · have hm : He.cT K e.d.at_ ∈ t.tf.map (He.cT K) := List.mem_map.mpr ⟨_, List.mem_map.mpr ⟨e, List.mem_filter.mpr ⟨he, hgx⟩, rfl⟩, rfl⟩
    exact ⟨TB _ hm, _, hm, rfl⟩
/-- what the law's text comes to, on a script of ints -/
def LawT.holds (t : LawT) (n j : Nat) (ns : List Int) : Prop := ∃ as', t.run n j [.val (.list (ns.map .int))] = .ok (.val (.bool true)) as'
theorem script_sp {K : Fg} {c : Ct} {F : List Sl → FR} {H : Hp} {a : Addr} {ns : List Int} {as' : List Sl} (hK : c.K = K) (wf : WfF 1 F) (hH : ∀ P, c.TB P → H P = some (.tbl #[])) (hS : SqL K H a (ns.map V.int)) (h : F [.val (.list (ns.map .int))] = .ok (.val (.bool true)) as') :
    spF c 1 F [.ref a] H (fun v _ => v = .bl true) fun _ _ _ => False := by
  subst hK
  have av : Av [.val (.list (ns.map .int))] := fun k p l ds e => by
    cases k with
    | zero => cases e
    | succ k => cases e
  refine ⟨rfl, ⟨fun _ => False, fun _ => True, fun _ => 0⟩, [.val (.list (ns.map .int))], av, ⟨rfl, fun i d e => ?_, fun i p l ds e => ?_, fun i j p l ds p' l' ds' b e => ?_, fun _ _ => trivial, fun _ z => z.elim, fun P hP => ⟨#[], hH P hP, trivial⟩, fun i k e => (by cases i <;> cases e)⟩, ?_⟩
  · cases i with
    | succ i => cases e
    | zero =>
      cases e
      refine ⟨.ref a, rfl, ?_⟩
      unfold Rel
      refine ⟨a, ns.map V.int, rfl, ?_, RelL.ofInts⟩
      rcases LRd.of hS with h | h
      · refine .inl ⟨h, ?_⟩
        rintro (z | ⟨i, p, l, ds, z, _⟩)
        · exact z
        · have := (av i p l ds z)
          cases i with
          | zero => cases z
          | succ i => cases z
      · exact .inr h
  · cases i with
    | zero => cases e
    | succ i => cases e
  · cases i with
    | zero => cases e
    | succ i => cases e
  · rw [h]
    obtain ⟨w1, w2⟩ := wf.ok _ _ _ av h
    refine ⟨w1, w2, fun v H' G => ?_⟩
    have := G.res.2
    unfold Rel at this
    exact this
theorem run_wf (t : LawT) (hat : t.at = true) {n j : Nat} {e : Entry} (h : t.E[j]? = some e) : WfF e.ps.length (t.run n j) := by
  unfold LawT.at at hat
  have := List.all_eq_true.mp hat e (List.mem_of_getElem? h)
  rw [Bool.and_eq_true] at this
  exact fns_wf this.2 h
theorem LawT.law_at (t : LawT) {l : PySem.W.OpenLaw} {w : World} {K : Fg} {h : Heap} {mg : Str → Option Value} {fa : Addr} {x : Str} {n nx j : Nat} {e : Entry} (hat : t.at = true) (hb : BndL t.E) (hj : t.E[j]? = some e) (hh : e.hot = false) (hx : e.ps = [x]) (X : K.In h) (G : h.Ns mainGlobals mg)
    (hmg : mg e.d.name = some (.ref fa)) (s : He.SaysX t.fa t.fn [] t.tf t.ex w h K)
    (pl : ∀ ns : List Int, ns.length ≤ nx → (∀ z ∈ ns, Builtin.Int.intBits z ≤ 1048576) → t.holds n j ns) : LamX.LawAtS l w K (L2N.CX l.prog w) (4 * n) nx x mg fa h := by
  have he := List.mem_of_getElem? hj
  have sd := s.t.d
  obtain ⟨fd, F⟩ := sd.defs (d := e.d) (List.mem_map.mpr ⟨e, he, rfl⟩)
  have hat2 := hat
  unfold LawT.at at hat2
  have hok := List.all_eq_true.mp hat2 e he
  rw [Bool.and_eq_true] at hok
  have ea : e.d.at_ = (e.d.name, none) := of_decide_eq_true hok.1
  have efa : He.fAd K e.d.at_ = fa := by
    have := He.glo_ok X G (sd.facts (f := .glo e.d.name) (by unfold LawT.fa; simp only [List.mem_append, List.mem_map]; exact .inl (.inl (.inl (.inl ⟨e, he, rfl⟩)))))
    rw [hmg] at this
    rw [ea]
    exact (Value.ref.inj (Option.some.inj this)).symm
  have hd : e.d.dvs K = [] := by
    have ok := hok.2
    unfold Entry.ok at ok
    simp only [Bool.and_eq_true] at ok
    have : e.d.dfl = [] := by simpa using ok.1.1.2
    unfold He.DefD.dvs
    rw [this]; rfl
  have bj := bndL_at hb hj
  have hl1 : e.ps.length = 1 := by rw [hx]; rfl
  refine ⟨fd, t.tf.map (He.cT K), spF (t.c K fun P => ∃ p ∈ t.tf.map (He.cT K), p.2 = P) 1 (t.run n j), fun p hp => ?_, fun p hp => ?_, fun p hp => ?_, fun s u => ?_, fun H a ns hl hbits hH hS => ?_, fun base hKb hGb TB => ?_⟩
  · obtain ⟨q, hq, rfl⟩ := List.mem_map.mp hp
    exact s.empty q hq
  · obtain ⟨q, hq, rfl⟩ := List.mem_map.mp hp
    exact s.out q hq
  · obtain ⟨q, hq, rfl⟩ := List.mem_map.mp hp
    exact PySem.W.codeHd_of_K X (s.hd q hq)
  · rw [hd] at F
    have := FunD.bindsA (ps := e.ps) F (fun kV doc pm an cdv ct us hl => bj kV doc pm an cdv ct us hl) s [u] (by rw [hl1]; rfl)
    rw [hx] at this
    exact this
  · obtain ⟨as', hr⟩ := pl ns hl hbits
    have wf := run_wf t hat (n := n) hj
    rw [hl1] at wf
    exact script_sp rfl wf (fun P ⟨p, hp, ep⟩ => by rw [← ep]; exact hH p hp) hS hr
  · have g := t.glob hat hb hKb hGb s (fun p hp => ⟨(TB p hp).code, (TB p hp).bm, (TB p hp).gP⟩)
    have := fns_ok (P := l.prog) (w := w) g n j e fd hj hh F
    rw [efa, hx] at this
    exact this
end Den
set_option autoImplicit false
set_option maxRecDepth 100000
set_option maxHeartbeats 4000000
/-! Den, part Z: lemmas for the plain laws: loops, comprehensions, sizes. -/
namespace Den
open PySem
theorem log2_le {x a : Nat} (h : x < 2 ^ a) : x.log2 ≤ a := by
  by_cases z : x = 0
  · subst z; simp
  · exact Nat.le_of_lt ((Nat.log2_lt z).mpr h)
theorem mulOk_of {i j : Int} (a b : Nat) (hi : i.natAbs < 2 ^ a) (hj : j.natAbs < 2 ^ b) (h : a + b < 1000000) : mulOk i j = true := by
  unfold mulOk
  have := log2_le hi
  have := log2_le hj
  exact decide_eq_true (by omega)
theorem divOk_of {j : Int} (a : Nat) (hj : j.natAbs < 2 ^ a) (h0 : j ≠ 0) (h : a < 9000) : divOk j = true := by
  unfold divOk
  have := log2_le hj
  simp only [Bool.and_eq_true, bne_iff_ne, ne_eq, decide_eq_true_eq]
  exact ⟨h0, by omega⟩
theorem forL_nx {tg : Tg} {body : Ev → SR} {ds : List D} (I : Nat → Ev → Prop) (step : ∀ (k : Nat) (hk : k < ds.length) (ρ : Ev), I k ρ → ∃ ρ1 ρ2, asgD ρ tg ds[k] = some ρ1 ∧ (body ρ1 = .nx ρ2 ∨ body ρ1 = .ct ρ2) ∧ I (k + 1) ρ2) :
    ∀ {ρ : Ev}, I 0 ρ → ∃ ρ', forL tg body ds ρ = .nx ρ' ∧ I ds.length ρ' := by
  induction ds generalizing I with
  | nil => intro ρ h; exact ⟨ρ, rfl, h⟩
  | cons d ds ih =>
    intro ρ h
    obtain ⟨ρ1, ρ2, e1, e2, h2⟩ := step 0 (by simp) ρ h
    obtain ⟨ρ', e', h'⟩ := ih (fun k => I (k + 1)) (fun k hk ρ hI => step (k + 1) (by simpa using hk) ρ hI) h2
    refine ⟨ρ', ?_, h'⟩
    unfold forL
    have e1' : asgD ρ tg d = some ρ1 := e1
    rw [e1']
    rcases e2 with e2 | e2 <;> · simp only [e2]; exact e'
/-- a loop that may end by break or return -/
theorem forL_gen {tg : Tg} {body : Ev → SR} {Q : SR → Prop} : ∀ {ds : List D} (I : List D → Ev → Prop) (last : ∀ ρ, I [] ρ → Q (.nx ρ)) (step : ∀ d ds ρ, I (d :: ds) ρ → ∃ ρ1, asgD ρ tg d = some ρ1 ∧ ((∃ ρ2, (body ρ1 = .nx ρ2 ∨ body ρ1 = .ct ρ2) ∧ I ds ρ2) ∨ (∃ ρ2, body ρ1 = .bk ρ2 ∧ Q (.nx ρ2)) ∨ (∃ v ρ2, body ρ1 = .rt v ρ2 ∧ Q (.rt v ρ2)) ∨ (∃ c ρ2, body ρ1 = .ex c ρ2 ∧ Q (.ex c ρ2)))) {ρ : Ev}, I ds ρ → Q (forL tg body ds ρ)
  | [], I, last, step, ρ, h => last ρ h
  | d :: ds, I, last, step, ρ, h => by
    obtain ⟨ρ1, e1, q⟩ := step d ds ρ h
    unfold forL
    rw [e1]
    rcases q with ⟨ρ2, e2, h2⟩ | ⟨ρ2, e2, h2⟩ | ⟨v, ρ2, e2, h2⟩ | ⟨c, ρ2, e2, h2⟩
    · rcases e2 with e2 | e2 <;> · simp only [e2]; exact forL_gen I last step h2
    · simp only [e2]; exact h2
    · simp only [e2]; exact h2
    · simp only [e2]; exact h2
/-! ### comprehensions over one name -/
def plainSl : Sl → Bool
  | .own _ _ _ => false
  | _ => true
theorem compL_nm {i : Nat} {tst : M Bool} {elt : M D} {ρ0 : Ev} {p : D → Bool} {g : D → D} : ∀ {ds : List D} (hi : i < ρ0.length) (ht : ∀ d ∈ ds, tst (ρ0.set i (.val d)) = .ok (p d) (ρ0.set i (.val d))) (he : ∀ d ∈ ds, p d = true → elt (ρ0.set i (.val d)) = .ok (g d) (ρ0.set i (.val d))) (hl : ds.length ≤ line) (s : Sl),
    ∃ s', compL [i] (.nm i) tst elt ds (ρ0.set i s) = .ok ((ds.filter p).map g) (ρ0.set i s')
  | [], hi, ht, he, hl, s => ⟨s, rfl⟩
  | d :: ds, hi, ht, he, hl, s => by
    have e1 : asgD (wipes (ρ0.set i s) [i]) (.nm i) d = some (ρ0.set i (.val d)) := by
      simp [asgD, setN, wipes, hi]
    obtain ⟨s', e2⟩ := compL_nm (ds := ds) (p := p) (g := g) hi (fun d hd => ht d (List.mem_cons_of_mem _ hd)) (fun d hd => he d (List.mem_cons_of_mem _ hd)) (Nat.le_of_succ_le hl) (.val d)
    refine ⟨s', ?_⟩
    unfold compL
    rw [e1]
    simp only []
    rw [ht d (List.mem_cons_self ..)]
    cases hp : p d with
    | false =>
      simp only []
      rw [e2, List.filter_cons_of_neg (by simp [hp])]
    | true =>
      simp only []
      rw [he d (List.mem_cons_self ..) hp]
      simp only []
      rw [e2]
      simp only []
      have : ((ds.filter p).map g).length < line := by
        rw [List.length_map]
        exact Nat.lt_of_le_of_lt (List.length_filter_le _ _) (Nat.lt_of_lt_of_le (Nat.lt_succ_self _) hl)
      rw [if_pos this, List.filter_cons_of_pos hp, List.map_cons]
theorem set_back {ρ : Ev} {i : Nat} {sl s : Sl} (h : ρ[i]? = some sl) : (ρ.set i s).set i (ρ.getD i .no) = ρ := by
  obtain ⟨hi, e⟩ := List.getElem?_eq_some_iff.mp h
  rw [List.set_set, List.getD_eq_getElem?_getD, h, Option.getD_some, ← e, List.set_getElem_self]
theorem lcM_nm {i : Nat} {tst : M Bool} {elt : M D} {ρ : Ev} {v : EV} {ds : List D} (p : D → Bool) (g : D → D) {sl : Sl} (hs : ρ[i]? = some sl) (hpl : plainSl sl = true) (hv : lock ρ v = some ρ) (hu : unlockE v ρ = some ρ)
    (ht : ∀ d ∈ ds, tst (ρ.set i (.val d)) = .ok (p d) (ρ.set i (.val d))) (he : ∀ d ∈ ds, p d = true → elt (ρ.set i (.val d)) = .ok (g d) (ρ.set i (.val d))) (hl : ds.length ≤ line) :
    lcM (.nm i) tst elt (v, ds) ρ = .ok (.fresh ((ds.filter p).map g)) ρ := by
  have hi : i < ρ.length := (List.getElem?_eq_some_iff.mp hs).1
  have e0 : plainAt ρ (Tg.vars (.nm i)) = true := by
    unfold plainAt Tg.vars
    simp only [List.all_cons, List.all_nil, Bool.and_true, hs]
    cases sl <;> first | rfl | cases hpl
  obtain ⟨s', e⟩ := compL_nm (p := p) (g := g) hi ht he hl .no
  unfold lcM
  rw [if_pos e0]
  simp only [hv]
  have ew : wipes ρ (Tg.vars (.nm i)) = ρ.set i .no := rfl
  rw [ew]
  show (match compL [i] (.nm i) tst elt ds (ρ.set i .no) with | .ok ys ρ2 => _ | _ => _) = _
  rw [e]
  simp only []
  have er : restore ρ (ρ.set i s') (Tg.vars (.nm i)) = ρ := set_back hs
  rw [er, hu]
theorem lcM_loc {i j : Nat} {tst : M Bool} {elt : M D} {ρ : Ev} {o : Bool} {ds : List D} (p : D → Bool) (g : D → D) {sl : Sl} (hs : ρ[i]? = some sl) (hpl : plainSl sl = true) (hj : ρ[j]? = some (.own o false ds))
    (ht : ∀ d ∈ ds, tst ((ρ.set j (.own o true ds)).set i (.val d)) = .ok (p d) ((ρ.set j (.own o true ds)).set i (.val d))) (he : ∀ d ∈ ds, p d = true → elt ((ρ.set j (.own o true ds)).set i (.val d)) = .ok (g d) ((ρ.set j (.own o true ds)).set i (.val d))) (hl : ds.length ≤ line) :
    lcM (.nm i) tst elt (.loc j, ds) ρ = .ok (.fresh ((ds.filter p).map g)) ρ := by
  have hi : i < ρ.length := (List.getElem?_eq_some_iff.mp hs).1
  have hjl : j < ρ.length := (List.getElem?_eq_some_iff.mp hj).1
  have ne : j ≠ i := by
    intro z
    subst z
    rw [hs] at hj
    cases hj
    cases hpl
  have e0 : plainAt ρ (Tg.vars (.nm i)) = true := by
    unfold plainAt Tg.vars
    simp only [List.all_cons, List.all_nil, Bool.and_true, hs]
    cases sl <;> first | rfl | cases hpl
  obtain ⟨s', e⟩ := compL_nm (p := p) (g := g) (ρ0 := ρ.set j (.own o true ds)) (by simpa using hi) ht he hl .no
  unfold lcM
  rw [if_pos e0]
  have el : lock ρ (.loc j) = some (ρ.set j (.own o true ds)) := by unfold lock; simp only [hj]
  simp only [el]
  show (match compL [i] (.nm i) tst elt ds ((ρ.set j (.own o true ds)).set i .no) with | .ok ys ρ2 => _ | _ => _) = _
  rw [e]
  simp only []
  have er : restore ρ ((ρ.set j (.own o true ds)).set i s') (Tg.vars (.nm i)) = ρ.set j (.own o true ds) := by
    show ((ρ.set j (.own o true ds)).set i s').set i (ρ.getD i .no) = _
    have : (ρ.set j (.own o true ds))[i]? = some sl := by rw [List.getElem?_set_ne ne]; exact hs
    have q := set_back (s := s') this
    have g1 : (ρ.set j (.own o true ds)).getD i .no = ρ.getD i .no := by rw [List.getD_eq_getElem?_getD, List.getD_eq_getElem?_getD, this, hs]
    rw [g1] at q
    exact q
  rw [er]
  unfold unlockE
  simp only [List.getElem?_set_self hjl, List.set_set]
  have : ρ.set j (.own o false ds) = ρ := by
    obtain ⟨_, e⟩ := List.getElem?_eq_some_iff.mp hj
    rw [← e, List.set_getElem_self]
  rw [this]
theorem gxL_nm {b : GB} {i : Nat} {tst : M Bool} {elt : M Bool} {ρ0 : Ev} {p g : D → Bool} (hi : i < ρ0.length) : ∀ {ds : List D} (ht : ∀ d ∈ ds, tst (ρ0.set i (.val d)) = .ok (p d) (ρ0.set i (.val d))) (he : ∀ d ∈ ds, p d = true → elt (ρ0.set i (.val d)) = .ok (g d) (ρ0.set i (.val d))) (s : Sl),
    ∃ s', gxL b [i] (.nm i) tst elt ds (ρ0.set i s) = .ok (match b with | .all => (ds.filter p).all g | .any => (ds.filter p).any g) (ρ0.set i s')
  | [], ht, he, s => ⟨s, by cases b <;> rfl⟩
  | d :: ds, ht, he, s => by
    have e1 : asgD (wipes (ρ0.set i s) [i]) (.nm i) d = some (ρ0.set i (.val d)) := by
      simp [asgD, setN, wipes, hi]
    obtain ⟨s', e2⟩ := gxL_nm (b := b) hi (ds := ds) (p := p) (g := g) (fun d hd => ht d (List.mem_cons_of_mem _ hd)) (fun d hd => he d (List.mem_cons_of_mem _ hd)) (.val d)
    unfold gxL
    rw [e1]
    simp only []
    rw [ht d (List.mem_cons_self ..)]
    cases hp : p d with
    | false =>
      simp only []
      rw [List.filter_cons_of_neg (by simp [hp])]
      exact ⟨s', e2⟩
    | true =>
      simp only []
      rw [he d (List.mem_cons_self ..) hp]
      simp only [List.filter_cons_of_pos hp]
      cases b <;> cases hg : g d <;> simp [GB.stop, hg] <;> first | exact ⟨_, rfl⟩ | (simp at e2; exact ⟨s', e2⟩)
theorem gxM_nm {b : GB} {i : Nat} {tst elt : M Bool} {ρ : Ev} {v : EV} {ds : List D} (p g : D → Bool) {sl : Sl} (hs : ρ[i]? = some sl) (hpl : plainSl sl = true) (hv : lock ρ v = some ρ) (hu : unlockE v ρ = some ρ)
    (ht : ∀ d ∈ ds, tst (ρ.set i (.val d)) = .ok (p d) (ρ.set i (.val d))) (he : ∀ d ∈ ds, p d = true → elt (ρ.set i (.val d)) = .ok (g d) (ρ.set i (.val d))) :
    gxM b (.nm i) tst elt (v, ds) ρ = .ok (.val (.bool (match b with | .all => (ds.filter p).all g | .any => (ds.filter p).any g))) ρ := by
  have hi : i < ρ.length := (List.getElem?_eq_some_iff.mp hs).1
  have e0 : plainAt ρ (Tg.vars (.nm i)) = true := by
    unfold plainAt Tg.vars
    simp only [List.all_cons, List.all_nil, Bool.and_true, hs]
    cases sl <;> first | rfl | cases hpl
  obtain ⟨s', e⟩ := gxL_nm (b := b) (p := p) (g := g) hi ht he .no
  unfold gxM
  rw [if_pos e0]
  simp only [hv]
  show (match gxL b [i] (.nm i) tst elt ds (ρ.set i .no) with | .ok ys ρ2 => _ | _ => _) = _
  rw [e]
  simp only []
  have er : restore ρ (ρ.set i s') (Tg.vars (.nm i)) = ρ := set_back hs
  rw [er, hu]
/-! ### step by step -/
section
variable {Γ : Fns} {C : List D}
theorem evB_nx {s : CS} {r : CSs} {ρ ρ' : Ev} (h : evS Γ C s ρ = .nx ρ') : evB Γ C (.cons s r) ρ = evB Γ C r ρ' := by
  rw [evB]; simp only [h]
theorem evB_rt {s : CS} {r : CSs} {ρ ρ' : Ev} {v : EV} (h : evS Γ C s ρ = .rt v ρ') : evB Γ C (.cons s r) ρ = .rt v ρ' := by
  rw [evB]; simp only [h]
theorem evB_ct {s : CS} {r : CSs} {ρ ρ' : Ev} (h : evS Γ C s ρ = .ct ρ') : evB Γ C (.cons s r) ρ = .ct ρ' := by
  rw [evB]; simp only [h]
theorem evB_bk {s : CS} {r : CSs} {ρ ρ' : Ev} (h : evS Γ C s ρ = .bk ρ') : evB Γ C (.cons s r) ρ = .bk ρ' := by
  rw [evB]; simp only [h]
theorem evB_ex {s : CS} {r : CSs} {ρ ρ' : Ev} {c : Nat} (h : evS Γ C s ρ = .ex c ρ') : evB Γ C (.cons s r) ρ = .ex c ρ' := by
  rw [evB]; simp only [h]
theorem bnd_at {α β : Type} {m : M α} {f : α → M β} {a : α} {ρ ρ' : Ev} (h : m ρ = .ok a ρ') : bnd m f ρ = f a ρ' := by
  unfold bnd; rw [h]
theorem evS_val {i : Nat} {own : Bool} {e : CE} {d : D} {ρ ρ' : Ev} {sl : Sl} (h : evE Γ C e ρ = .ok (.val d) ρ') (hs : ρ'[i]? = some sl) (hp : canPut sl = true) : evS Γ C (.asg i own e) ρ = .nx (ρ'.set i (.val d)) := by
  rw [evS]
  unfold sE
  rw [bnd_at h]
  simp [soft, ret, putL, hs, hp]
theorem evS_fresh {i : Nat} {own : Bool} {e : CE} {ds : List D} {ρ ρ' : Ev} {sl : Sl} (h : evE Γ C e ρ = .ok (.fresh ds) ρ') (hs : ρ'[i]? = some sl) (hp : canPut sl = true) : evS Γ C (.asg i own e) ρ = .nx (ρ'.set i (if own then .own false false ds else .val (.list ds))) := by
  rw [evS]
  unfold sE
  rw [bnd_at h]
  simp [soft, ret, putL, hs, hp]
theorem evS_if {c : CE} {a b : CSs} {v : EV} {t : Bool} {ρ ρ' : Ev} (h : evE Γ C c ρ = .ok v ρ') (ht : truthM v ρ' = .ok t ρ') : evS Γ C (.ife c a b) ρ = (if t then evB Γ C a else evB Γ C b) ρ' := by
  rw [evS]
  unfold sE
  rw [bnd_at h, ht]
theorem evS_ifb {c : CE} {a b : CSs} {t : Bool} {ρ ρ' : Ev} (h : evE Γ C c ρ = .ok (.val (.bool t)) ρ') : evS Γ C (.ife c a b) ρ = (if t then evB Γ C a else evB Γ C b) ρ' := evS_if h rfl
theorem evS_ret {e : CE} {v : EV} {ρ ρ' : Ev} (h : evE Γ C e ρ = .ok v ρ') : evS Γ C (.ret e) ρ = .rt v ρ' := by
  rw [evS]; unfold sE; rw [h]
theorem evS_for {tg : Tg} {it : CI} {b : CSs} {d : D} {ds : List D} {ρ ρ' : Ev} (h : evI Γ C it ρ = .ok (.val d, ds) ρ') {r : SR} (hf : forL tg (evB Γ C b) ds ρ' = r) (hr : finR (.val d) r = r) : evS Γ C (.for_ tg it b) ρ = r := by
  rw [evS]; unfold sE; rw [h]
  simp only [lock]
  rw [hf, hr]
theorem fns_at {T : List Fd} {j : Nat} {fd : Fd} (hj : T[j]? = some fd) (n : Nat) (as : List Sl) : fns T C (n + 1) j as = runF (fns T C n) C fd as := by
  show (match T[j]? with | some fd => runF (fns T C n) C fd as | none => .bad) = _
  rw [hj]
theorem runF_rt {np ns : Nat} {b : CSs} {as as' : List Sl} {ρ ρ' : Ev} {d : D} (h1 : as.length = np) (h2 : np ≤ ns) (he : as ++ List.replicate (ns - np) .no = ρ) (h : evB Γ C b ρ = .rt (.val d) ρ') (ho : outs as ρ' = some as') : runF Γ C ⟨np, ns, b⟩ as = .ok (.val d) as' := by
  unfold runF
  rw [if_pos ⟨h1, h2⟩, he, h]
  simp only [ho]
theorem runF_fresh {np ns : Nat} {b : CSs} {as as' : List Sl} {ρ ρ' : Ev} {ds : List D} (h1 : as.length = np) (h2 : np ≤ ns) (he : as ++ List.replicate (ns - np) .no = ρ) (h : evB Γ C b ρ = .rt (.fresh ds) ρ') (ho : outs as ρ' = some as') : runF Γ C ⟨np, ns, b⟩ as = .ok (.fresh ds) as' := by
  unfold runF
  rw [if_pos ⟨h1, h2⟩, he, h]
  simp only [ho]
end
theorem big_nat {N : Nat} (h : N < 4611686018427387904) : big (N : Int) = true := by
  unfold big
  simp only [Bool.and_eq_true, decide_eq_true_eq]
  have h1 : (N : Int) < 4611686018427387904 := Int.ofNat_lt.mpr h
  have h2 : (0 : Int) ≤ N := Int.natCast_nonneg N
  have e : (2 : Int) ^ 62 = 4611686018427387904 := rfl
  rw [e]
  exact ⟨Int.le_trans (by decide) h2, h1⟩
theorem rngM_of {vs : List EV} {ds : List D} {ns : List Int} {ρ : Ev} (h1 : peeks ρ vs = some ds) (h2 : rangeD ds = some ns) : rngM vs ρ = .ok (.val .none, ns.map .int) ρ := by
  unfold rngM
  rw [h1]
  simp only []
  rw [h2]
theorem rangeD1 {j : Int} (b : big j = true) : rangeD [.int j] = some ((List.range j.toNat).map fun (k : Nat) => (k : Int)) := by
  unfold rangeD
  exact if_pos b
theorem evI_rng {Γ : Fns} {C : List D} {e : CE} {ρ ρ' : Ev} {N : Nat} (h : evE Γ C e ρ = .ok (.val (.int (N : Int))) ρ') (hN : N < 4611686018427387904) : evI Γ C (.rng (.cons e .nil)) ρ = .ok (.val .none, ((List.range N).map fun (k : Nat) => (k : Int)).map .int) ρ' := by
  have a1 : evEs Γ C (.cons e .nil) ρ = .ok [.val (.int (N : Int))] ρ' := by
    rw [evEs, evEs]
    unfold bnd
    rw [h]
    rfl
  have q := rangeD1 (big_nat hN)
  rw [Int.toNat_natCast] at q
  rw [evI]
  exact (bnd_at a1).trans (rngM_of (by simp only [peeks, peek]) q)
theorem fin_nx {d : D} {ρ : Ev} : finR (.val d) (.nx ρ) = .nx ρ := rfl
theorem fin_rt {d : D} {v : EV} {ρ : Ev} : finR (.val d) (.rt v ρ) = .rt v ρ := rfl
end Den
set_option autoImplicit false
set_option maxRecDepth 100000
set_option maxHeartbeats 4000000
/-! Den, part W1: the drawing of a law's input from the script. -/
namespace Den
open PySem
def bOpen : CSs := (.cons (.asg 1 false (.lc (.bi .abs (.cons (.bi .int (.cons (.var 2) .nil)) .nil)) (.nm 2) (.ex (.slc (.var 0) .nil (.cons (.cst (.int 63)) .nil))) .nil))
(.cons (.ret (.lst (.cons (.cst (.int 0)) (.cons (.cst (.int 0)) (.cons (.bin .add (.var 1) (.lst (.cons (.cst (.int 0)) .nil))) .nil)))))
.nil))
def bMixed : CSs := (.cons (.asg 2 false (.bin .mod (.bin .add (.bin .add (.bin .mul (.bin .mod (.var 0) (.bin .sub (.bin .pow (.cst (.int 2)) (.cst (.int 61))) (.cst (.int 1)))) (.cst (.int 6364136223846793005))) (.bin .mul (.var 1) (.cst (.int 1442695040888963407)))) (.cst (.int 97))) (.bin .pow (.cst (.int 2)) (.cst (.int 61)))))
(.cons (.asg 2 false (.bin .mod (.bin .mul (.bin .xor (.var 2) (.bin .shr (.var 2) (.cst (.int 29)))) (.cst (.int 3935559000370003845))) (.bin .pow (.cst (.int 2)) (.cst (.int 61)))))
(.cons (.ret (.bin .mod (.bin .mul (.bin .xor (.var 2) (.bin .shr (.var 2) (.cst (.int 31)))) (.cst (.int 2862933555777941757))) (.bin .pow (.cst (.int 2)) (.cst (.int 61)))))
.nil)))
def bDraw (m : Nat) : CSs := (.cons (.asgT [2, 3, 4] (.var 0))
(.cons (.ife (.cmp .lt (.var 3) (.var 1)) (.cons (.asg 5 false (.idx (.var 4) (.bin .mod (.var 2) (.bi .len (.cons (.var 4) .nil)))))
(.cons (.asg 3 false (.ite (.and (.cons (.cmp .lt (.var 2) (.bi .len (.cons (.var 4) .nil))) (.cons (.cmp .ge (.var 5) (.bin .pow (.cst (.int 10)) (.cst (.int 18)))) .nil))) (.var 5) (.call m (.cons (.var 5) (.cons (.var 2) .nil)))))
(.cons (.asg 2 false (.bin .add (.var 2) (.cst (.int 1))))
.nil))) .nil)
(.cons (.sto (.var 0) (.cst (.int 0)) (.var 2))
(.cons (.sto (.var 0) (.cst (.int 1)) (.bin .fdiv (.var 3) (.var 1)))
(.cons (.ret (.bin .mod (.var 3) (.var 1)))
.nil)))))
/-- the drawing's state: turn, what is left, the cells; N: the most turns it can have had -/
def Drw (N : Nat) (ds : List D) : Prop := ∃ (t : Nat) (l : Int) (cs : List Int), ds = [.int t, .int l, .list (cs.map .int)] ∧ t ≤ N ∧ 0 ≤ l ∧ cs ≠ [] ∧ ∀ c ∈ cs, 0 ≤ c
theorem Drw.mono {N M : Nat} {ds : List D} (h : Drw N ds) (q : N ≤ M) : Drw M ds := by
  obtain ⟨t, l, cs, e, h1, h2⟩ := h
  exact ⟨t, l, cs, e, Nat.le_trans h1 q, h2⟩
theorem xor_nonneg (a b : Int) (ha : 0 ≤ a) (hb : 0 ≤ b) (N : Nat) (h1 : a < 2 ^ N) (h2 : b < 2 ^ N) : 0 ≤ Builtin.bitXor a b ∧ Builtin.bitXor a b < 2 ^ N := by
  obtain ⟨x, rfl⟩ := Int.eq_ofNat_of_zero_le ha
  obtain ⟨y, rfl⟩ := Int.eq_ofNat_of_zero_le hb
  have e1 : Builtin.bitAnd (x : Int) (y : Int) = ((x &&& y : Nat) : Int) := by
    unfold Builtin.bitAnd
    rw [decide_eq_true (Int.natCast_nonneg x), decide_eq_true (Int.natCast_nonneg y)]
    rfl
  have nn : ∀ z : Nat, Builtin.bitNot (Builtin.bitNot (z : Int)) = z := fun z => by
    unfold Builtin.bitNot; omega
  have e2 : Builtin.bitOr (x : Int) (y : Int) = ((x ||| y : Nat) : Int) := by
    unfold Builtin.bitOr Builtin.bitAnd
    rw [decide_eq_false (p := 0 ≤ Builtin.bitNot (x : Int)) (by unfold Builtin.bitNot; omega), decide_eq_false (p := 0 ≤ Builtin.bitNot (y : Int)) (by unfold Builtin.bitNot; omega)]
    simp only [nn, Int.toNat_natCast]
  unfold Builtin.bitXor
  rw [e1, e2]
  have l1 : x &&& y ≤ x := Nat.and_le_left
  have l2 : x ≤ x ||| y := Nat.left_le_or
  have z := Nat.or_lt_two_pow (x := x) (y := y) (n := N) (by exact_mod_cast h1) (by exact_mod_cast h2)
  have z' : ((x ||| y : Nat) : Int) < 2 ^ N := by exact_mod_cast z
  omega
theorem mixed_ok {T : List Fd} {C : List D} {m : Nat} (hm : T[m]? = some ⟨2, 3, bMixed⟩) (n : Nat) (c : Int) (t : Nat) (ht : t ≤ 2 ^ 64) : ∃ r : Int, 0 ≤ r ∧ fns T C (n + 1) m [.val (.int c), .val (.int t)] = .ok (.val (.int r)) [.val (.int c), .val (.int t)] := by
  have e : fns T C (n + 1) m = runF (fns T C n) C ⟨2, 3, bMixed⟩ := by
    funext as
    show (match T[m]? with | some fd => runF (fns T C n) C fd as | none => .bad) = _
    rw [hm]
  rw [e]
  have p61 : (2 : Int) ^ 61 = 2305843009213693952 := by decide
  have k1 : powOk 2 61 = true := by decide
  have b1 : 0 ≤ c.fmod 2305843009213693951 ∧ c.fmod 2305843009213693951 < 2305843009213693951 := by
    rw [Int.fmod_eq_emod_of_nonneg _ (by decide)]
    omega
  obtain ⟨x, hx⟩ : ∃ x, x = c.fmod 2305843009213693951 := ⟨_, rfl⟩
  rw [← hx] at b1
  have m1 : mulOk x 6364136223846793005 = true := mulOk_of 61 64 (by omega) (by decide) (by omega)
  have m2 : mulOk (t : Int) 1442695040888963407 = true := mulOk_of 65 64 (by omega) (by decide) (by omega)
  obtain ⟨y, hy⟩ : ∃ y, y = (x * 6364136223846793005 + t * 1442695040888963407 + 97).fmod 2305843009213693952 := ⟨_, rfl⟩
  have b2 : 0 ≤ y ∧ y < 2 ^ 61 := by
    rw [hy, Int.fmod_eq_emod_of_nonneg _ (by decide), p61]
    omega
  have s1 : 0 ≤ y / 536870912 ∧ y / 536870912 < 2 ^ 61 := by omega
  obtain ⟨z, hz⟩ : ∃ z, z = Builtin.bitXor y (y / 536870912) := ⟨_, rfl⟩
  have b3 := xor_nonneg y (y / 536870912) b2.1 s1.1 61 b2.2 s1.2
  rw [← hz] at b3
  have m3 : mulOk z 3935559000370003845 = true := mulOk_of 61 64 (by omega) (by decide) (by omega)
  obtain ⟨u, hu⟩ : ∃ u, u = (z * 3935559000370003845).fmod 2305843009213693952 := ⟨_, rfl⟩
  have b4 : 0 ≤ u ∧ u < 2 ^ 61 := by
    rw [hu, Int.fmod_eq_emod_of_nonneg _ (by decide), p61]
    omega
  have s2 : 0 ≤ u / 2147483648 ∧ u / 2147483648 < 2 ^ 61 := by omega
  obtain ⟨v, hv⟩ : ∃ v, v = Builtin.bitXor u (u / 2147483648) := ⟨_, rfl⟩
  have b5 := xor_nonneg u (u / 2147483648) b4.1 s2.1 61 b4.2 s2.2
  rw [← hv] at b5
  have m4 : mulOk v 2862933555777941757 = true := mulOk_of 61 64 (by omega) (by decide) (by omega)
  refine ⟨(v * 2862933555777941757).fmod 2305843009213693952, ?_, ?_⟩
  · rw [Int.fmod_eq_emod_of_nonneg _ (by decide)]
    omega
  · unfold runF bMixed
    simp [evB, evS, evE, evEs, evCs, evPs, evO, evTs, evAnd, evOr, evI, bnd, sE, ret, fail, ofO, soft, coe, peek, peeks, settle, biM, biD, putL, canPut, cmpM, cmpD, ltD, leD, gtD, truthM, peekM, truthD, intM, binM, binD, idxM, idxD, slcM, slcD, outs, line, locM, appM, asgD, setN, isTyD, callM, argsOf, argOf, locs, backOf, augD, isNoneD, isBoolD, L2.atI, L2.ixN, lock, finR, unlockR, itemsD, k1, p61, ← hx, m1, m2, ← hy, ← hz, m3, ← hu, ← hv, m4]
theorem draw_ok {T : List Fd} {C : List D} {m j : Nat} (hm : T[m]? = some ⟨2, 3, bMixed⟩) (hj : T[j]? = some ⟨2, 6, bDraw m⟩) (n : Nat) {N : Nat} {ds : List D} (h : Drw N ds) (hN : N < 2 ^ 64) (s : Int) (s1 : 0 < s) (s2 : s < 2 ^ 64) :
    ∃ (r : Int) (ds' : List D), 0 ≤ r ∧ r < s ∧ Drw (N + 1) ds' ∧ fns T C (n + 2) j [.own true false ds, .val (.int s)] = .ok (.val (.int r)) [.own true false ds', .val (.int s)] := by
  obtain ⟨t, l, cs, rfl, h1, h2, h3, h4⟩ := h
  have e : fns T C (n + 2) j = runF (fns T C (n + 1)) C ⟨2, 6, bDraw m⟩ := by
    funext as
    show (match T[j]? with | some fd => runF (fns T C (n + 1)) C fd as | none => .bad) = _
    rw [hj]
  have d1 : divOk s = true := divOk_of 64 (by omega) (by omega) (by omega)
  have d2 : s ≠ 0 := by omega
  have key : ∀ (t' : Nat) (l' : Int), t' ≤ N + 1 → 0 ≤ l' → 0 ≤ l'.fmod s ∧ l'.fmod s < s ∧ Drw (N + 1) [.int t', .int (l'.fdiv s), .list (cs.map .int)] := fun t' l' q1 q2 => by
    rw [Int.fmod_eq_emod_of_nonneg _ (by omega)]
    refine ⟨Int.emod_nonneg _ d2, Int.emod_lt_of_pos _ s1, t', _, cs, rfl, q1, ?_, h3, h4⟩
    rw [Int.fdiv_eq_ediv_of_nonneg _ (by omega)]
    exact Int.ediv_nonneg q2 (by omega)
  rw [e]
  have lp : 0 < cs.length := List.length_pos_iff.mpr h3
  by_cases c1 : l < s
  · have b1 : 0 ≤ ((t : Int).fmod cs.length) ∧ ((t : Int).fmod cs.length) < cs.length := by
      rw [Int.fmod_eq_emod_of_nonneg _ (by omega)]
      exact ⟨Int.emod_nonneg _ (by omega), Int.emod_lt_of_pos _ (by omega)⟩
    obtain ⟨i, hi⟩ := Int.eq_ofNat_of_zero_le b1.1
    have il : i < cs.length := by omega
    have ia : L2.atI (cs.map PyData.int) (i : Int) = some (.int cs[i]) := by
      unfold L2.atI L2.ixN
      rw [if_pos (Int.natCast_nonneg i)]
      simp [il]
    have cn := h4 cs[i] (List.getElem_mem il)
    obtain ⟨r, r0, hr⟩ := mixed_ok (C := C) hm n cs[i] t (by omega)
    have cz : cs ≠ [] := h3
    have k4 : powOk 10 18 = true := by decide
    by_cases c2 : (t : Int) < cs.length ∧ cs[i] ≥ 1000000000000000000
    · obtain ⟨k1, k2, k3⟩ := key (t + 1) cs[i] (by omega) cn
      refine ⟨_, _, k1, k2, k3, ?_⟩
      unfold runF bDraw
      simp [evB, evS, evE, evEs, evCs, evPs, evO, evTs, evAnd, evOr, evI, bnd, sE, ret, fail, ofO, soft, coe, peek, peeks, settle, biM, biD, putL, canPut, cmpM, cmpD, ltD, leD, gtD, truthM, peekM, truthD, intM, binM, binD, idxM, idxD, slcM, slcD, outs, line, locM, appM, asgD, setN, isTyD, callM, argsOf, argOf, locs, backOf, augD, isNoneD, isBoolD, L2.ixN, lock, finR, unlockR, itemsD, c1, d1, d2, hi, ia, k4, cz, c2.1, c2.2]
    · obtain ⟨k1, k2, k3⟩ := key (t + 1) r (by omega) r0
      refine ⟨_, _, k1, k2, k3, ?_⟩
      unfold runF bDraw
      by_cases c3 : (t : Int) < cs.length
      · have c4 : ¬ 1000000000000000000 ≤ cs[i] := fun z => c2 ⟨c3, z⟩
        simp [evB, evS, evE, evEs, evCs, evPs, evO, evTs, evAnd, evOr, evI, bnd, sE, ret, fail, ofO, soft, coe, peek, peeks, settle, biM, biD, putL, canPut, cmpM, cmpD, ltD, leD, gtD, truthM, peekM, truthD, intM, binM, binD, idxM, idxD, slcM, slcD, outs, line, locM, appM, asgD, setN, isTyD, callM, argsOf, argOf, locs, backOf, augD, isNoneD, isBoolD, L2.ixN, lock, finR, unlockR, itemsD, c1, d1, d2, hi, ia, k4, cz, c3, c4, hr]
      · simp [evB, evS, evE, evEs, evCs, evPs, evO, evTs, evAnd, evOr, evI, bnd, sE, ret, fail, ofO, soft, coe, peek, peeks, settle, biM, biD, putL, canPut, cmpM, cmpD, ltD, leD, gtD, truthM, peekM, truthD, intM, binM, binD, idxM, idxD, slcM, slcD, outs, line, locM, appM, asgD, setN, isTyD, callM, argsOf, argOf, locs, backOf, augD, isNoneD, isBoolD, L2.ixN, lock, finR, unlockR, itemsD, c1, d1, d2, hi, ia, k4, cz, c3, hr]
  · obtain ⟨k1, k2, k3⟩ := key t l (by omega) h2
    refine ⟨_, _, k1, k2, k3, ?_⟩
    unfold runF bDraw
    simp [evB, evS, evE, evEs, evCs, evPs, evO, evTs, evAnd, evOr, evI, bnd, sE, ret, fail, ofO, soft, coe, peek, peeks, settle, biM, biD, putL, canPut, cmpM, cmpD, ltD, leD, gtD, truthM, peekM, truthD, intM, binM, binD, idxM, idxD, slcM, slcD, outs, line, locM, appM, asgD, setN, isTyD, callM, argsOf, argOf, locs, backOf, augD, isNoneD, isBoolD, L2.atI, L2.ixN, lock, finR, unlockR, itemsD, c1, d1, d2]
theorem draw_e {Γ : Fns} {C : List D} {i j : Nat} {e : CE} {ρ ρ1 : Ev} {o o' : Bool} {d0 ds ds' : List D} {s r : Int} {l : Bool} (h0 : ρ[i]? = some (.own o' l d0)) (he : evE Γ C e ρ = .ok (.val (.int s)) ρ1) (h1 : ρ1[i]? = some (.own o false ds))
    (h : Γ j [.own true false ds, .val (.int s)] = .ok (.val (.int r)) [.own true false ds', .val (.int s)]) : evE Γ C (.call j (.cons (.var i) (.cons e .nil))) ρ = .ok (.val (.int r)) (ρ1.set i (.own o false ds')) := by
  have a1 : evEs Γ C (.cons (.var i) (.cons e .nil)) ρ = .ok [.loc i, .val (.int s)] ρ1 := by
    simp [evB, evS, evE, evEs, evCs, evPs, evO, evTs, evAnd, evOr, evI, bnd, sE, ret, fail, ofO, soft, coe, peek, peeks, settle, biM, biD, putL, canPut, cmpM, cmpD, ltD, leD, gtD, truthM, peekM, truthD, intM, binM, binD, idxM, idxD, slcM, slcD, outs, line, locM, appM, asgD, setN, isTyD, callM, argsOf, argOf, locs, backOf, augD, isNoneD, isBoolD, L2.atI, L2.ixN, lock, finR, unlockR, itemsD, h0, he]
  rw [evE]
  refine (bnd_at a1).trans ?_
  simp [evB, evS, evE, evEs, evCs, evPs, evO, evTs, evAnd, evOr, evI, bnd, sE, ret, fail, ofO, soft, coe, peek, peeks, settle, biM, biD, putL, canPut, cmpM, cmpD, ltD, leD, gtD, truthM, peekM, truthD, intM, binM, binD, idxM, idxD, slcM, slcD, outs, line, locM, appM, asgD, setN, isTyD, callM, argsOf, argOf, locs, backOf, augD, isNoneD, isBoolD, L2.atI, L2.ixN, lock, finR, unlockR, itemsD, h1, h]
/-- a draw of so many -/
theorem draw_c {T : List Fd} {C : List D} {m j : Nat} (hm : T[m]? = some ⟨2, 3, bMixed⟩) (hj : T[j]? = some ⟨2, 6, bDraw m⟩) (n : Nat) {i N : Nat} {ds : List D} {o : Bool} {ρ : Ev} (h : Drw N ds) (hN : N < 2 ^ 64) (s : Int) (s1 : 0 < s) (s2 : s < 2 ^ 64) (h0 : ρ[i]? = some (.own o false ds)) :
    ∃ (r : Int) (ds' : List D), 0 ≤ r ∧ r < s ∧ Drw (N + 1) ds' ∧ evE (fns T C (n + 2)) C (.call j (.cons (.var i) (.cons (.cst (.int s)) .nil))) ρ = .ok (.val (.int r)) (ρ.set i (.own o false ds')) := by
  obtain ⟨r, ds', r1, r2, d, e⟩ := draw_ok (C := C) hm hj n h hN s s1 s2
  exact ⟨r, ds', r1, r2, d, draw_e h0 rfl h0 e⟩
theorem draw_x {T : List Fd} {C : List D} {m j : Nat} (hm : T[m]? = some ⟨2, 3, bMixed⟩) (hj : T[j]? = some ⟨2, 6, bDraw m⟩) (n : Nat) {i N : Nat} {e : CE} {ds d0 : List D} {o o' l : Bool} {ρ ρ1 : Ev} (h : Drw N ds) (hN : N < 2 ^ 64) {s : Int} (s1 : 0 < s) (s2 : s < 2 ^ 64) (h0 : ρ[i]? = some (.own o' l d0)) (he : evE (fns T C (n + 2)) C e ρ = .ok (.val (.int s)) ρ1) (h1 : ρ1[i]? = some (.own o false ds)) :
    ∃ (r : Int) (ds' : List D), 0 ≤ r ∧ r < s ∧ Drw (N + 1) ds' ∧ evE (fns T C (n + 2)) C (.call j (.cons (.var i) (.cons e .nil))) ρ = .ok (.val (.int r)) (ρ1.set i (.own o false ds')) := by
  obtain ⟨r, ds', r1, r2, d, e⟩ := draw_ok (C := C) hm hj n h hN s s1 s2
  exact ⟨r, ds', r1, r2, d, draw_e h0 he h1 e⟩
theorem open_ok {T : List Fd} {C : List D} {j : Nat} (hj : T[j]? = some ⟨1, 3, bOpen⟩) (n : Nat) (ns : List Int) (hn : ns.length ≤ 63) : ∃ ds : List D, Drw 0 ds ∧ fns T C (n + 1) j [.val (.list (ns.map .int))] = .ok (.fresh ds) [.val (.list (ns.map .int))] := by
  have e : fns T C (n + 1) j = runF (fns T C n) C ⟨1, 3, bOpen⟩ := by
    funext as
    show (match T[j]? with | some fd => runF (fns T C n) C fd as | none => .bad) = _
    rw [hj]
  rw [e]
  have hc : cutD (ns.map PyData.int) none (some 63) = (ns.take (HT.sIx ns.length ns.length (some 63))).map PyData.int := by
    unfold cutD
    rw [List.length_map]
    have : HT.sIx ns.length 0 none = 0 := rfl
    rw [this, Nat.sub_zero, List.drop_zero, List.map_take]
  obtain ⟨xs, hx⟩ : ∃ xs, xs = ns.take (HT.sIx ns.length ns.length (some 63)) := ⟨_, rfl⟩
  rw [← hx] at hc
  have lx : xs.length ≤ 63 := by rw [hx]; exact Nat.le_trans (List.length_take_le' _ _) hn
  refine ⟨[.int (0 : Nat), .int 0, .list ((xs.map (fun (z : Int) => if z < 0 then -z else z) ++ [0]).map .int)], ⟨0, 0, _, rfl, Nat.le_refl _, Int.le_refl _, by simp, ?_⟩, ?_⟩
  · intro c hc
    simp only [List.mem_append, List.mem_map, List.mem_singleton] at hc
    rcases hc with ⟨z, _, rfl⟩ | rfl
    · split <;> omega
    · omega
  · have L : evE (fns T C n) C (.lc (.bi .abs (.cons (.bi .int (.cons (.var 2) .nil)) .nil)) (.nm 2) (.ex (.slc (.var 0) .nil (.cons (.cst (.int 63)) .nil))) .nil) [.val (.list (ns.map .int)), .no, .no] = .ok (.fresh ((xs.map (fun (z : Int) => if z < 0 then -z else z)).map .int)) [.val (.list (ns.map .int)), .no, .no] := by
      have := lcM_nm (tst := evTs (fns T C n) C .nil) (elt := bnd (evE (fns T C n) C (.bi .abs (.cons (.bi .int (.cons (.var 2) .nil)) .nil))) coe) (ρ := [.val (.list (ns.map .int)), .no, .no]) (v := .val (.list (xs.map .int))) (ds := xs.map .int) (i := 2) (fun _ => true) (fun d => match d with | .int z => .int (if z < 0 then -z else z) | d => d) (sl := .no) rfl rfl rfl rfl (fun d hd => rfl) (fun d hd _ => by
        obtain ⟨z, _, rfl⟩ := List.mem_map.mp hd
        simp [evB, evS, evE, evEs, evCs, evPs, evO, evTs, evAnd, evOr, evI, bnd, sE, ret, fail, ofO, soft, coe, peek, peeks, settle, biM, biD, putL, canPut, cmpM, cmpD, ltD, leD, gtD, truthM, peekM, truthD, intM, binM, binD, idxM, idxD, slcM, slcD, outs, line, locM, appM, asgD, setN, isTyD, callM, argsOf, argOf, locs, backOf, augD, isNoneD, isBoolD, L2.atI, L2.ixN, lock, finR, unlockR, itemsD]) (by rw [List.length_map]; unfold line; omega)
      rw [List.filter_eq_self.mpr (fun _ _ => rfl)] at this
      have ei : evI (fns T C n) C (.ex (.slc (.var 0) .nil (.cons (.cst (.int 63)) .nil))) [.val (.list (ns.map .int)), .no, .no] = .ok (.val (.list (xs.map .int)), xs.map .int) [.val (.list (ns.map .int)), .no, .no] := by
        simp [evB, evS, evE, evEs, evCs, evPs, evO, evTs, evAnd, evOr, evI, bnd, sE, ret, fail, ofO, soft, coe, peek, peeks, settle, biM, biD, putL, canPut, cmpM, cmpD, ltD, leD, gtD, truthM, peekM, truthD, intM, binM, binD, idxM, idxD, slcM, slcD, outs, line, locM, appM, asgD, setN, isTyD, callM, argsOf, argOf, locs, backOf, augD, isNoneD, isBoolD, L2.atI, L2.ixN, lock, finR, unlockR, itemsD, hc]
      rw [evE]
      unfold bnd
      rw [ei]
      refine Eq.trans this ?_
      simp [Function.comp_def]
    refine runF_fresh (ρ' := [.val (.list (ns.map .int)), .val (.list ((xs.map (fun (z : Int) => if z < 0 then -z else z)).map .int)), .no]) rfl (by decide) rfl ?_ rfl
    refine (evB_nx (evS_fresh L rfl rfl)).trans (evB_rt (evS_ret ?_))
    have : xs.length + 1 ≤ 16777216 := by omega
    simp [evB, evS, evE, evEs, evCs, evPs, evO, evTs, evAnd, evOr, evI, bnd, sE, ret, fail, ofO, soft, coe, peek, peeks, settle, biM, biD, putL, canPut, cmpM, cmpD, ltD, leD, gtD, truthM, peekM, truthD, intM, binM, binD, idxM, idxD, slcM, slcD, outs, line, locM, appM, asgD, setN, isTyD, callM, argsOf, argOf, locs, backOf, augD, isNoneD, isBoolD, L2.atI, L2.ixN, lock, finR, unlockR, itemsD, this]
end Den
set_option autoImplicit false
set_option maxRecDepth 100000
set_option maxHeartbeats 4000000
/-! Den, part V1: the evaluator as a machine of equations that fire on whole states only. -/
namespace Den
open PySem
section
variable {α β : Type} {Γ : Fns} {C : List D} {ρ ρ' : Ev}
def bR : R α → (α → M β) → R β
  | .ok a ρ, f => f a ρ
  | .exc c ρ, _ => .exc c ρ
  | .bad, _ => .bad
def eR : R α → (α → Ev → SR) → SR
  | .ok a ρ, f => f a ρ
  | .exc c ρ, _ => .ex c ρ
  | .bad, _ => .bad
def sR : SR → (Ev → SR) → SR
  | .nx ρ, f => f ρ
  | r, _ => r
theorem bR_ok {a : α} {f : α → M β} : bR (.ok a ρ) f = f a ρ := rfl
theorem bR_exc {c : Nat} {f : α → M β} : bR (.exc c ρ) f = .exc c ρ := rfl
theorem eR_ok {a : α} {f : α → Ev → SR} : eR (.ok a ρ) f = f a ρ := rfl
theorem eR_exc {c : Nat} {f : α → Ev → SR} : eR (.exc c ρ) f = .ex c ρ := rfl
theorem sR_nx {f : Ev → SR} : sR (.nx ρ) f = f ρ := rfl
theorem sR_rt {v : EV} {f : Ev → SR} : sR (.rt v ρ) f = .rt v ρ := rfl
theorem sR_bk {f : Ev → SR} : sR (.bk ρ) f = .bk ρ := rfl
theorem sR_ct {f : Ev → SR} : sR (.ct ρ) f = .ct ρ := rfl
theorem sR_ex {c : Nat} {f : Ev → SR} : sR (.ex c ρ) f = .ex c ρ := rfl
theorem bnd_bR {m : M α} {f : α → M β} : bnd m f ρ = bR (m ρ) f := by unfold bnd; cases m ρ <;> rfl
theorem sE_eR {m : M α} {f : α → Ev → SR} : sE m f ρ = eR (m ρ) f := by unfold sE; cases m ρ <;> rfl
/-! ### slots read -/
def varR : Option Sl → Nat → Ev → R EV
  | some (.val d), _, ρ => .ok (.val d) ρ
  | some (.own _ _ _), i, ρ => .ok (.loc i) ρ
  | _, _, _ => .bad
theorem varR_val {d : D} {i : Nat} : varR (some (.val d)) i ρ = .ok (.val d) ρ := rfl
theorem varR_own {p l : Bool} {ds : List D} {i : Nat} : varR (some (.own p l ds)) i ρ = .ok (.loc i) ρ := rfl
theorem x_var {i : Nat} : evE Γ C (.var i) ρ = varR ρ[i]? i ρ := by
  unfold evE varR
  cases ρ[i]? with
  | none => rfl
  | some s => cases s <;> rfl
theorem x_cst {d : D} : evE Γ C (.cst d) ρ = .ok (.val d) ρ := by unfold evE; rfl
def glbR : Option D → Ev → R EV
  | some d, ρ => .ok (.val d) ρ
  | none, _ => .bad
theorem glbR_s {d : D} : glbR (some d) ρ = .ok (.val d) ρ := rfl
theorem x_glb {x : Nat} : evE Γ C (.glb x) ρ = glbR C[x]? ρ := by unfold evE glbR; cases C[x]? <;> rfl
/-! ### worths read -/
def pkR : Option Sl → Option D
  | some (.own _ _ ds) => some (.list ds)
  | _ => none
theorem pk_val {d : D} : peek ρ (.val d) = some d := rfl
theorem pk_fresh {ds : List D} : peek ρ (.fresh ds) = some (.list ds) := rfl
theorem pk_loc {i : Nat} : peek ρ (.loc i) = pkR ρ[i]? := by
  unfold peek pkR
  dsimp only
  all_goals cases ρ[i]? with
  | none => rfl
  | some s => cases s <;> rfl
theorem pkR_own {p l : Bool} {ds : List D} : pkR (some (.own p l ds)) = some (.list ds) := rfl
theorem st_val {d : D} : settle (.val d) = .val d := rfl
theorem st_loc {i : Nat} : settle (.loc i) = .loc i := rfl
theorem st_fresh {ds : List D} : settle (.fresh ds) = .val (.list ds) := rfl
def coR : Option Sl → Nat → Ev → R D
  | some (.own false false ds), i, ρ => .ok (.list ds) (ρ.set i (.val (.list ds)))
  | _, _, _ => .bad
theorem co_val {d : D} : coe (.val d) ρ = .ok d ρ := rfl
theorem co_fresh {ds : List D} : coe (.fresh ds) ρ = .ok (.list ds) ρ := rfl
theorem co_loc {i : Nat} : coe (.loc i) ρ = coR ρ[i]? i ρ := by
  unfold coe coR
  dsimp only
  cases h : ρ[i]? with
  | none => rfl
  | some s => 
    cases s with
    | own p l ds => cases p <;> cases l <;> rfl
    | _ => rfl
theorem coR_own {ds : List D} {i : Nat} : coR (some (.own false false ds)) i ρ = .ok (.list ds) (ρ.set i (.val (.list ds))) := rfl
/-! ### operators -/
def oR : Option EV → Ev → R EV
  | some r, ρ => .ok r ρ
  | none, _ => .bad
theorem oR_s {r : EV} : oR (some r) ρ = .ok r ρ := rfl
def binR : Option D → Option D → Op2 → Ev → R EV
  | some a, some b, o, ρ => oR (binD o a b) ρ
  | _, _, _, _ => .bad
theorem binR_s {a b : D} {o : Op2} : binR (some a) (some b) o ρ = oR (binD o a b) ρ := rfl
def k_bin (Γ : Fns) (C : List D) (o : Op2) (b : CE) : EV → M EV := fun x => bnd (evE Γ C b) fun y => binM o x y
theorem x_bin {o : Op2} {a b : CE} : evE Γ C (.bin o a b) ρ = bR (evE Γ C a ρ) (k_bin Γ C o b) := by rw [evE, bnd_bR]; rfl
theorem k_bin_ {o : Op2} {b : CE} {x : EV} : k_bin Γ C o b x ρ = bR (evE Γ C b ρ) (binM o x) := by unfold k_bin; rw [bnd_bR]
theorem m_bin {o : Op2} {x y : EV} : binM o x y ρ = binR (peek ρ (settle x)) (peek ρ (settle y)) o ρ := by
  unfold binM binR
  cases peek ρ (settle x) <;> cases peek ρ (settle y) <;> first | rfl | skip
  unfold oR
  rename_i a b
  simp only []
  cases binD o a b <;> rfl
theorem b_add {i j : Int} : binD .add (.int i) (.int j) = some (.val (.int (i + j))) := rfl
theorem b_addb {i : Int} {b : Bool} : binD .add (.int i) (.bool b) = some (.val (.int (i + (if b = true then 1 else 0)))) := rfl
theorem b_sub {i j : Int} : binD .sub (.int i) (.int j) = some (.val (.int (i - j))) := rfl
theorem b_mul {i j : Int} (h : mulOk i j = true) : binD .mul (.int i) (.int j) = some (.val (.int (i * j))) := if_pos h
theorem b_fdiv {i j : Int} (h : divOk j = true) : binD .fdiv (.int i) (.int j) = some (.val (.int (i.fdiv j))) := if_pos h
theorem b_mod {i j : Int} (h : j ≠ 0) : binD .mod (.int i) (.int j) = some (.val (.int (i.fmod j))) := if_pos (by simpa using h)
theorem b_pow {i j : Int} (h : powOk i j = true) : binD .pow (.int i) (.int j) = some (.val (.int (i ^ j.toNat))) := if_pos h
theorem b_addL {xs ys : List D} (h : xs.length + ys.length ≤ line) : binD .add (.list xs) (.list ys) = some (.fresh (xs ++ ys)) := if_pos h
theorem b_addT {xs ys : List D} (h : xs.length + ys.length ≤ line) : binD .add (.tuple xs) (.tuple ys) = some (.val (.tuple (xs ++ ys))) := if_pos h
theorem b_mulT {xs : List D} {k : Int} (h : 0 ≤ k ∧ k ≤ 1000 ∧ xs.isEmpty = false ∧ xs.length ≤ 1000) : binD .mul (.tuple xs) (.int k) = some (.val (.tuple (List.replicate k.toNat xs).flatten)) := if_pos h
theorem b_mulL {xs : List D} {k : Int} (h : 0 ≤ k ∧ xs.length * k.toNat ≤ line ∧ k < 2 ^ 62) : binD .mul (.list xs) (.int k) = some (.fresh (List.replicate k.toNat xs).flatten) := if_pos h
def k_neg : EV → M EV := fun x => bnd (intM x) fun i => ret (.val (.int (-i)))
theorem x_neg {a : CE} : evE Γ C (.neg a) ρ = bR (evE Γ C a ρ) k_neg := by rw [evE, bnd_bR]; rfl
theorem k_neg_ {i : Int} : k_neg (.val (.int i)) ρ = .ok (.val (.int (-i))) ρ := rfl
/-! ### comparisons -/
def obR : Option Bool → Ev → R EV
  | some r, ρ => .ok (.val (.bool r)) ρ
  | none, _ => .bad
theorem obR_s {r : Bool} : obR (some r) ρ = .ok (.val (.bool r)) ρ := rfl
def cmR : Option D → Option D → Cmp → Ev → R EV
  | some a, some b, o, ρ => obR (cmpD o a b) ρ
  | _, _, _, _ => .bad
theorem cmR_s {a b : D} {o : Cmp} : cmR (some a) (some b) o ρ = obR (cmpD o a b) ρ := rfl
def k_cmp (Γ : Fns) (C : List D) (o : Cmp) (b : CE) : EV → M EV := fun x => bnd (evE Γ C b) fun y => cmpM o x y
theorem x_cmp {o : Cmp} {a b : CE} : evE Γ C (.cmp o a b) ρ = bR (evE Γ C a ρ) (k_cmp Γ C o b) := by rw [evE, bnd_bR]; rfl
theorem k_cmp_ {o : Cmp} {b : CE} {x : EV} : k_cmp Γ C o b x ρ = bR (evE Γ C b ρ) (cmpM o x) := by unfold k_cmp; rw [bnd_bR]
theorem m_cmp {o : Cmp} {x y : EV} : cmpM o x y ρ = cmR (peek ρ (settle x)) (peek ρ (settle y)) o ρ := by
  unfold cmpM cmR
  cases peek ρ (settle x) <;> cases peek ρ (settle y) <;> first | rfl | skip
  unfold obR
  rename_i a b
  simp only []
  cases cmpD o a b <;> rfl
def k_cm2 (Γ : Fns) (C : List D) (o p : Cmp) (b c : CE) : EV → M EV := fun x => bnd (evE Γ C b) fun y => bnd (cmpM o x y) fun r => match r with
    | .val (.bool true) => bnd (evE Γ C c) fun z => cmpM p y z
    | .val (.bool false) => ret (.val (.bool false))
    | _ => fail
def k_cm3 (Γ : Fns) (C : List D) (o p : Cmp) (c : CE) (x : EV) : EV → M EV := fun y => bnd (cmpM o x y) fun r => match r with
    | .val (.bool true) => bnd (evE Γ C c) fun z => cmpM p y z
    | .val (.bool false) => ret (.val (.bool false))
    | _ => fail
def k_cm4 (Γ : Fns) (C : List D) (p : Cmp) (c : CE) (y : EV) : EV → M EV := fun r => match r with
    | .val (.bool true) => bnd (evE Γ C c) fun z => cmpM p y z
    | .val (.bool false) => ret (.val (.bool false))
    | _ => fail
theorem x_cmp2 {o p : Cmp} {a b c : CE} : evE Γ C (.cmp2 o p a b c) ρ = bR (evE Γ C a ρ) (k_cm2 Γ C o p b c) := by rw [evE, bnd_bR]; rfl
theorem k_cm2_ {o p : Cmp} {b c : CE} {x : EV} : k_cm2 Γ C o p b c x ρ = bR (evE Γ C b ρ) (k_cm3 Γ C o p c x) := by unfold k_cm2; rw [bnd_bR]; rfl
theorem k_cm3_ {o p : Cmp} {c : CE} {x y : EV} : k_cm3 Γ C o p c x y ρ = bR (cmpM o x y ρ) (k_cm4 Γ C p c y) := by unfold k_cm3; rw [bnd_bR]; rfl
theorem k_cm4_ {p : Cmp} {c : CE} {y : EV} {b : Bool} : k_cm4 Γ C p c y (.val (.bool b)) ρ = if b = true then bR (evE Γ C c ρ) (cmpM p y) else .ok (.val (.bool false)) ρ := by
  cases b
  · rfl
  · rw [if_pos rfl]; show bnd (evE Γ C c) (fun z => cmpM p y z) ρ = _; rw [bnd_bR]
theorem eqv_ii {i j : Int} : PyData.eqv (.int i) (.int j) = decide (i = j) := by
  unfold PyData.eqv
  first | rfl | simp
theorem c_eq_ii {i j : Int} : cmpD .eq (.int i) (.int j) = some (decide (i = j)) := by
  show (if eqOk (.int i) (.int j) = true then some (PyData.eqv (.int i) (.int j)) else none) = _
  rw [eqv_ii]; rfl
theorem c_ne_ii {i j : Int} : cmpD .ne (.int i) (.int j) = some (!decide (i = j)) := by
  show (if eqOk (.int i) (.int j) = true then some (!PyData.eqv (.int i) (.int j)) else none) = _
  rw [eqv_ii]; rfl
theorem c_eq {a b : D} (h : eqOk a b = true) : cmpD .eq a b = some (PyData.eqv a b) := if_pos h
theorem c_ne {a b : D} (h : eqOk a b = true) : cmpD .ne a b = some (!PyData.eqv a b) := if_pos h
theorem c_lt {i j : Int} : cmpD .lt (.int i) (.int j) = some (decide (i < j)) := rfl
theorem c_gt {i j : Int} : cmpD .gt (.int i) (.int j) = some (decide (j < i)) := rfl
theorem c_le {i j : Int} : cmpD .le (.int i) (.int j) = some (decide (i ≤ j)) := rfl
theorem c_ge {i j : Int} : cmpD .ge (.int i) (.int j) = some (decide (j ≤ i)) := rfl
theorem c_isN {a : D} : cmpD .iss a .none = some (isNoneD a) := by cases a <;> rfl
theorem c_isnN {a : D} : cmpD .isn a .none = some (!isNoneD a) := by cases a <;> rfl
theorem c_isB {a : D} {b : Bool} : cmpD .iss a (.bool b) = some (isBoolD b a) := by cases a <;> rfl
theorem c_isnB {a : D} {b : Bool} : cmpD .isn a (.bool b) = some (!isBoolD b a) := by cases a <;> rfl
theorem isN_n : isNoneD .none = true := rfl
theorem isN_b {b : Bool} : isNoneD (.bool b) = false := rfl
theorem isN_i {b : Int} : isNoneD (.int b) = false := rfl
theorem isN_s {b : Str} : isNoneD (.str b) = false := rfl
theorem isN_l {b : List D} : isNoneD (.list b) = false := rfl
theorem isN_t {b : List D} : isNoneD (.tuple b) = false := rfl
theorem isB_n {b : Bool} : isBoolD b .none = false := rfl
theorem isB_b {b c : Bool} : isBoolD b (.bool c) = (c == b) := rfl
theorem isB_i {b : Bool} {i : Int} : isBoolD b (.int i) = false := rfl
theorem isB_s {b : Bool} {i : Str} : isBoolD b (.str i) = false := rfl
theorem isB_l {b : Bool} {i : List D} : isBoolD b (.list i) = false := rfl
theorem isB_t {b : Bool} {i : List D} : isBoolD b (.tuple i) = false := rfl
/-! ### truth, and, or, not -/
def tOR : Option Bool → Ev → R Bool
  | some b, ρ => .ok b ρ
  | none, _ => .bad
def tpR : Option D → Ev → R Bool
  | some d, ρ => tOR (truthD d) ρ
  | none, _ => .bad
theorem tOR_s {b : Bool} : tOR (some b) ρ = .ok b ρ := rfl
theorem tpR_s {d : D} : tpR (some d) ρ = tOR (truthD d) ρ := rfl
theorem m_tru {x : EV} : truthM x ρ = tpR (peek ρ x) ρ := by
  unfold truthM bnd peekM tpR tOR
  cases peek ρ x with
  | none => rfl
  | some d => dsimp only; cases truthD d <;> rfl
theorem t_bool {b : Bool} : truthD (.bool b) = some b := rfl
theorem t_int {i : Int} : truthD (.int i) = some (i != 0) := rfl
theorem t_none : truthD .none = some false := rfl
theorem t_list {ds : List D} : truthD (.list ds) = some (!ds.isEmpty) := rfl
theorem t_tup {ds : List D} : truthD (.tuple ds) = some (!ds.isEmpty) := rfl
def k_nt : EV → M EV := fun x => bnd (truthM x) fun b => ret (.val (.bool (!b)))
def k_nt2 : Bool → M EV := fun b => ret (.val (.bool (!b)))
theorem x_nt {a : CE} : evE Γ C (.nt a) ρ = bR (evE Γ C a ρ) k_nt := by rw [evE, bnd_bR]; rfl
theorem k_nt_ {x : EV} : k_nt x ρ = bR (truthM x ρ) k_nt2 := by unfold k_nt; rw [bnd_bR]; rfl
theorem k_nt2_ {b : Bool} : k_nt2 b ρ = .ok (.val (.bool (!b))) ρ := rfl
def k_cv : EV → M EV := fun x => bnd (coe x) fun d => ret (.val d)
def k_cv2 : D → M EV := fun d => ret (.val d)
theorem k_cv_ {x : EV} : k_cv x ρ = bR (coe x ρ) k_cv2 := by unfold k_cv; rw [bnd_bR]; rfl
theorem k_cv2_ {d : D} : k_cv2 d ρ = .ok (.val d) ρ := rfl
def k_and (Γ : Fns) (C : List D) (es : CEs) : EV → M EV := fun x => bnd (truthM x) fun t => if t then evAnd Γ C es else bnd (coe x) fun d => ret (.val d)
def k_and2 (Γ : Fns) (C : List D) (es : CEs) (x : EV) : Bool → M EV := fun t => if t then evAnd Γ C es else bnd (coe x) fun d => ret (.val d)
theorem x_and {es : CEs} : evE Γ C (.and es) ρ = evAnd Γ C es ρ := by rw [evE]
theorem a_one {e : CE} : evAnd Γ C (.cons e .nil) ρ = evE Γ C e ρ := by rw [evAnd]
theorem a_cons {e e2 : CE} {es : CEs} : evAnd Γ C (.cons e (.cons e2 es)) ρ = bR (evE Γ C e ρ) (k_and Γ C (.cons e2 es)) := by
  rw [evAnd.eq_def]; exact bnd_bR
theorem k_and_ {es : CEs} {x : EV} : k_and Γ C es x ρ = bR (truthM x ρ) (k_and2 Γ C es x) := by unfold k_and; rw [bnd_bR]; rfl
theorem k_and2_ {es : CEs} {x : EV} {t : Bool} : k_and2 Γ C es x t ρ = if t = true then evAnd Γ C es ρ else k_cv x ρ := by unfold k_and2; cases t <;> rfl
def k_or (Γ : Fns) (C : List D) (es : CEs) : EV → M EV := fun x => bnd (truthM x) fun t => if t then bnd (coe x) fun d => ret (.val d) else evOr Γ C es
def k_or2 (Γ : Fns) (C : List D) (es : CEs) (x : EV) : Bool → M EV := fun t => if t then bnd (coe x) fun d => ret (.val d) else evOr Γ C es
theorem x_or {es : CEs} : evE Γ C (.or es) ρ = evOr Γ C es ρ := by rw [evE]
theorem o_one {e : CE} : evOr Γ C (.cons e .nil) ρ = evE Γ C e ρ := by rw [evOr]
theorem o_cons {e e2 : CE} {es : CEs} : evOr Γ C (.cons e (.cons e2 es)) ρ = bR (evE Γ C e ρ) (k_or Γ C (.cons e2 es)) := by
  rw [evOr.eq_def]; exact bnd_bR
theorem k_or_ {es : CEs} {x : EV} : k_or Γ C es x ρ = bR (truthM x ρ) (k_or2 Γ C es x) := by unfold k_or; rw [bnd_bR]; rfl
theorem k_or2_ {es : CEs} {x : EV} {t : Bool} : k_or2 Γ C es x t ρ = if t = true then k_cv x ρ else evOr Γ C es ρ := by unfold k_or2; cases t <;> rfl
def k_ite (Γ : Fns) (C : List D) (a b : CE) : EV → M EV := fun x => bnd (truthM x) fun t => if t then evE Γ C a else evE Γ C b
def k_ite2 (Γ : Fns) (C : List D) (a b : CE) : Bool → M EV := fun t => if t then evE Γ C a else evE Γ C b
theorem x_ite {c a b : CE} : evE Γ C (.ite c a b) ρ = bR (evE Γ C c ρ) (k_ite Γ C a b) := by rw [evE, bnd_bR]; rfl
theorem k_ite_ {a b : CE} {x : EV} : k_ite Γ C a b x ρ = bR (truthM x ρ) (k_ite2 Γ C a b) := by unfold k_ite; rw [bnd_bR]; rfl
theorem k_ite2_ {a b : CE} {t : Bool} : k_ite2 Γ C a b t ρ = if t = true then evE Γ C a ρ else evE Γ C b ρ := by unfold k_ite2; cases t <;> rfl
/-! ### displays, arguments -/
def k_cs (Γ : Fns) (C : List D) (es : CEs) : EV → M (List D) := fun x => bnd (coe x) fun d => bnd (evCs Γ C es) fun ds => ret (d :: ds)
def k_cs2 (Γ : Fns) (C : List D) (es : CEs) : D → M (List D) := fun d => bnd (evCs Γ C es) fun ds => ret (d :: ds)
def k_cs3 (d : D) : List D → M (List D) := fun ds => ret (d :: ds)
theorem cs_nil : evCs Γ C .nil ρ = .ok [] ρ := by rw [evCs]; rfl
theorem cs_cons {e : CE} {es : CEs} : evCs Γ C (.cons e es) ρ = bR (evE Γ C e ρ) (k_cs Γ C es) := by rw [evCs, bnd_bR]; rfl
theorem k_cs_ {es : CEs} {x : EV} : k_cs Γ C es x ρ = bR (coe x ρ) (k_cs2 Γ C es) := by unfold k_cs; rw [bnd_bR]; rfl
theorem k_cs2_ {es : CEs} {d : D} : k_cs2 Γ C es d ρ = bR (evCs Γ C es ρ) (k_cs3 d) := by unfold k_cs2; rw [bnd_bR]; rfl
theorem k_cs3_ {d : D} {ds : List D} : k_cs3 d ds ρ = .ok (d :: ds) ρ := rfl
def k_tup : List D → M EV := fun ds => if ds.length ≤ line then ret (.val (.tuple ds)) else fail
def k_lst : List D → M EV := fun ds => if ds.length ≤ line then ret (.fresh ds) else fail
theorem x_tup {es : CEs} : evE Γ C (.tup es) ρ = bR (evCs Γ C es ρ) k_tup := by rw [evE, bnd_bR]; rfl
theorem x_lst {es : CEs} : evE Γ C (.lst es) ρ = bR (evCs Γ C es ρ) k_lst := by rw [evE, bnd_bR]; rfl
theorem k_tup_ {ds : List D} (h : ds.length ≤ line) : k_tup ds ρ = .ok (.val (.tuple ds)) ρ := by unfold k_tup; rw [if_pos h]; rfl
theorem k_lst_ {ds : List D} (h : ds.length ≤ line) : k_lst ds ρ = .ok (.fresh ds) ρ := by unfold k_lst; rw [if_pos h]; rfl
def k_es (Γ : Fns) (C : List D) (es : CEs) : EV → M (List EV) := fun x => bnd (evEs Γ C es) fun ys => ret (settle x :: ys)
def k_es2 (x : EV) : List EV → M (List EV) := fun ys => ret (settle x :: ys)
theorem es_nil : evEs Γ C .nil ρ = .ok [] ρ := by rw [evEs]; rfl
theorem es_cons {e : CE} {es : CEs} : evEs Γ C (.cons e es) ρ = bR (evE Γ C e ρ) (k_es Γ C es) := by rw [evEs, bnd_bR]; rfl
theorem k_es_ {es : CEs} {x : EV} : k_es Γ C es x ρ = bR (evEs Γ C es ρ) (k_es2 x) := by unfold k_es; rw [bnd_bR]; rfl
theorem k_es2_ {x : EV} {ys : List EV} : k_es2 x ys ρ = .ok (settle x :: ys) ρ := rfl
/-! ### calls -/
def clR3 (r : EV) : Option Ev → R EV
  | some ρ' => .ok r ρ'
  | none => .bad
def clX3 (c : Nat) : Option Ev → R EV
  | some ρ' => .exc c ρ'
  | none => .bad
def clR2 (vs : List EV) (ρ : Ev) : FR → R EV
  | .ok r as' => clR3 r (backOf ρ vs as')
  | .exc c as' => clX3 c (backOf ρ vs as')
  | .bad => .bad
def clR (Γ : Fns) (f : Nat) (vs : List EV) (ρ : Ev) : Option (List Sl) → R EV
  | none => .bad
  | some as => if (locs vs).Nodup then clR2 vs ρ (Γ f as) else .bad
theorem x_call {f : Nat} {es : CEs} : evE Γ C (.call f es) ρ = bR (evEs Γ C es ρ) (callM Γ f) := by rw [evE, bnd_bR]
theorem m_call {f : Nat} {vs : List EV} : callM Γ f vs ρ = clR Γ f vs ρ (argsOf ρ vs) := by
  unfold callM clR
  cases argsOf ρ vs with
  | none => rfl
  | some as =>
    simp only []
    split
    · unfold clR2 clR3 clX3
      cases Γ f as with
      | ok r as' => rfl
      | exc c as' => rfl
      | bad => rfl
    · rfl
def ndB (l : List Nat) : Bool := decide l.Nodup
theorem nd_0 : ndB [] = true := by decide
theorem nd_1 {i : Nat} : ndB [i] = true := by unfold ndB; simp
theorem nd_2 {i j : Nat} : ndB [i, j] = !decide (i = j) := by
  unfold ndB
  by_cases h : i = j
  · simp [h]
  · simp [h]
theorem clR_s {f : Nat} {vs : List EV} {as : List Sl} (h : ndB (locs vs) = true) : clR Γ f vs ρ (some as) = clR2 vs ρ (Γ f as) := if_pos (of_decide_eq_true h)
theorem clR2_ok {vs : List EV} {r : EV} {as : List Sl} : clR2 vs ρ (.ok r as) = clR3 r (backOf ρ vs as) := rfl
theorem clR2_exc {vs : List EV} {c : Nat} {as : List Sl} : clR2 vs ρ (.exc c as) = clX3 c (backOf ρ vs as) := rfl
theorem clR3_s {r : EV} : clR3 r (some ρ) = .ok r ρ := rfl
theorem clX3_s {c : Nat} : clX3 c (some ρ) = .exc c ρ := rfl
def ao2 : Option Sl → Option (List Sl) → Option (List Sl)
  | some a, some as => some (a :: as)
  | _, _ => none
theorem ao2_s {a : Sl} {as : List Sl} : ao2 (some a) (some as) = some (a :: as) := rfl
theorem ao_nil : argsOf ρ [] = some [] := rfl
theorem ao_cons {v : EV} {vs : List EV} : argsOf ρ (v :: vs) = ao2 (argOf ρ v) (argsOf ρ vs) := by
  unfold ao2
  rw [argsOf]
  all_goals cases argOf ρ v <;> cases argsOf ρ vs <;> rfl
theorem ag_val {d : D} : argOf ρ (.val d) = some (.val d) := rfl
def agR : Option Sl → Option Sl
  | some (.own _ false ds) => some (.own true false ds)
  | _ => none
theorem ag_loc {i : Nat} : argOf ρ (.loc i) = agR ρ[i]? := by
  unfold argOf agR
  dsimp only
  all_goals cases ρ[i]? with
  | none => rfl
  | some s =>
    cases s with
    | own p l ds => cases l <;> rfl
    | _ => rfl
theorem agR_own {p : Bool} {ds : List D} : agR (some (.own p false ds)) = some (.own true false ds) := rfl
theorem lo_nil : locs [] = [] := rfl
theorem lo_val {d : D} {vs : List EV} : locs (.val d :: vs) = locs vs := rfl
theorem lo_loc {i : Nat} {vs : List EV} : locs (.loc i :: vs) = i :: locs vs := rfl
theorem bo_nil : backOf ρ [] [] = some ρ := rfl
theorem bo_val {d : D} {vs : List EV} {a : Sl} {as : List Sl} : backOf ρ (.val d :: vs) (a :: as) = backOf ρ vs as := rfl
def boR (i : Nat) (ds : List D) (vs : List EV) (as : List Sl) (ρ : Ev) : Option Sl → Option Ev
  | some (.own p l _) => backOf (ρ.set i (.own p l ds)) vs as
  | _ => none
theorem bo_loc {i : Nat} {vs : List EV} {q r : Bool} {ds : List D} {as : List Sl} : backOf ρ (.loc i :: vs) (.own q r ds :: as) = boR i ds vs as ρ ρ[i]? := by
  unfold boR
  rw [backOf]
  all_goals cases ρ[i]? with
  | none => rfl
  | some s => cases s <;> rfl
theorem boR_own {i : Nat} {ds d0 : List D} {vs : List EV} {as : List Sl} {p l : Bool} : boR i ds vs as ρ (some (.own p l d0)) = backOf (ρ.set i (.own p l ds)) vs as := rfl
theorem x_callX {f i : Nat} : evE Γ C (.callX f i) ρ = callXM Γ f i ρ := by rw [evE]
def cxR (ρ : Ev) : FR → R EV
  | .ok (.val d) _ => .ok (.val d) ρ
  | .ok (.fresh ds) _ => .ok (.fresh ds) ρ
  | _ => .bad
def cxR1 (Γ : Fns) (f : Nat) (ρ : Ev) : Option Sl → R EV
  | some (.err k) => cxR ρ (Γ f [.err k])
  | _ => .bad
theorem m_callX {f i : Nat} : callXM Γ f i ρ = cxR1 Γ f ρ ρ[i]? := by
  unfold callXM cxR1 cxR
  cases ρ[i]? with
  | none => rfl
  | some s => cases s <;> rfl
theorem cxR1_e {f k : Nat} : cxR1 Γ f ρ (some (.err k)) = cxR ρ (Γ f [.err k]) := rfl
theorem cxR_v {d : D} {as : List Sl} : cxR ρ (.ok (.val d) as) = .ok (.val d) ρ := rfl
def isxR (ks : List Nat) (ρ : Ev) : Option Sl → R EV
  | some (.err k) => .ok (.val (.bool (ks.contains k))) ρ
  | _ => .bad
theorem x_isx {i : Nat} {ks : List Nat} : evE Γ C (.isx i ks) ρ = isxR ks ρ ρ[i]? := by
  rw [evE]
  unfold isxM isxR
  cases ρ[i]? with
  | none => rfl
  | some s => cases s <;> rfl
theorem isxR_e {ks : List Nat} {k : Nat} : isxR ks ρ (some (.err k)) = .ok (.val (.bool (ks.contains k))) ρ := rfl
/-! ### built-in functions, isinstance, subscripts -/
def pks : Option (List D) → BI → Ev → R EV
  | some ds, b, ρ => oR (biD b ds) ρ
  | none, _, _ => .bad
theorem x_bi {b : BI} {es : CEs} : evE Γ C (.bi b es) ρ = bR (evEs Γ C es ρ) (biM b) := by rw [evE, bnd_bR]
theorem m_bi {b : BI} {vs : List EV} : biM b vs ρ = pks (peeks ρ vs) b ρ := by
  unfold biM pks
  cases peeks ρ vs with
  | none => rfl
  | some ds => simp only []; unfold oR; cases biD b ds <;> rfl
theorem pks_s {ds : List D} {b : BI} : pks (some ds) b ρ = oR (biD b ds) ρ := rfl
def ps2 : Option D → Option (List D) → Option (List D)
  | some a, some as => some (a :: as)
  | _, _ => none
theorem ps2_s {a : D} {as : List D} : ps2 (some a) (some as) = some (a :: as) := rfl
theorem ps_nil : peeks ρ [] = some [] := rfl
theorem ps_cons {v : EV} {vs : List EV} : peeks ρ (v :: vs) = ps2 (peek ρ v) (peeks ρ vs) := by
  unfold ps2
  rw [peeks]
  all_goals cases peek ρ v <;> cases peeks ρ vs <;> rfl
theorem i_lenL {xs : List D} : biD .len [.list xs] = some (.val (.int xs.length)) := rfl
theorem i_lenT {xs : List D} : biD .len [.tuple xs] = some (.val (.int xs.length)) := rfl
theorem i_abs {i : Int} : biD .abs [.int i] = some (.val (.int (if i < 0 then -i else i))) := rfl
theorem i_mx {i j : Int} : biD .mx [.int i, .int j] = some (.val (.int (if j > i then j else i))) := rfl
theorem i_mn {i j : Int} : biD .mn [.int i, .int j] = some (.val (.int (if j < i then j else i))) := rfl
theorem i_tupL {xs : List D} : biD .tuple [.list xs] = some (.val (.tuple xs)) := rfl
theorem i_tupT {xs : List D} : biD .tuple [.tuple xs] = some (.val (.tuple xs)) := rfl
theorem i_lstL {xs : List D} : biD .list [.list xs] = some (.fresh xs) := rfl
theorem i_lstT {xs : List D} : biD .list [.tuple xs] = some (.fresh xs) := rfl
theorem i_intI {i : Int} : biD .int [.int i] = some (.val (.int i)) := rfl
theorem i_intB {b : Bool} : biD .int [.bool b] = some (.val (.int (if b = true then 1 else 0))) := rfl
theorem i_gcd {i j : Int} : biD .gcd [.int i, .int j] = some (.val (.int ((Int.gcd i j : Nat) : Int))) := rfl
theorem intsD_map {ns : List Int} : intsD (ns.map .int) = some ns := by
  induction ns with
  | nil => rfl
  | cons n ns ih => rw [List.map_cons, intsD, ih]; rfl
theorem i_sumL {ns : List Int} : biD .sum [.list (ns.map .int)] = some (.val (.int ns.sum)) := by
  show (intsD (ns.map .int)).map _ = _
  rw [intsD_map]; rfl
theorem i_sumT {ns : List Int} : biD .sum [.tuple (ns.map .int)] = some (.val (.int ns.sum)) := by
  show (intsD (ns.map .int)).map _ = _
  rw [intsD_map]; rfl
def isR (t : Ty) (ρ : Ev) : Option D → R EV
  | some d => .ok (.val (.bool (isTyD t d))) ρ
  | none => .bad
def k_isi (t : Ty) : EV → M EV := fun x => bnd (peekM x) fun d => ret (.val (.bool (isTyD t d)))
theorem x_isi {a : CE} {t : Ty} : evE Γ C (.isi a t) ρ = bR (evE Γ C a ρ) (k_isi t) := by rw [evE, bnd_bR]; rfl
theorem k_isi_ {t : Ty} {x : EV} : k_isi t x ρ = isR t ρ (peek ρ x) := by
  unfold k_isi bnd peekM isR
  cases peek ρ x <;> rfl
theorem isR_s {t : Ty} {d : D} : isR t ρ (some d) = .ok (.val (.bool (isTyD t d))) ρ := rfl
def ixR (ρ : Ev) : Option D → Option D → R EV
  | some a, some b => oR ((idxD a b).map .val) ρ
  | _, _ => .bad
def k_idx (Γ : Fns) (C : List D) (i : CE) : EV → M EV := fun x => bnd (evE Γ C i) fun y => idxM x y
theorem x_idx {a i : CE} : evE Γ C (.idx a i) ρ = bR (evE Γ C a ρ) (k_idx Γ C i) := by rw [evE, bnd_bR]; rfl
theorem k_idx_ {i : CE} {x : EV} : k_idx Γ C i x ρ = bR (evE Γ C i ρ) (idxM x) := by unfold k_idx; rw [bnd_bR]
theorem m_idx {x y : EV} : idxM x y ρ = ixR ρ (peek ρ (settle x)) (peek ρ (settle y)) := by
  unfold idxM ixR
  cases peek ρ (settle x) <;> cases peek ρ (settle y) <;> first | rfl | skip
  rename_i a b
  simp only []
  unfold oR
  cases idxD a b <;> rfl
def atR (ρ : Ev) : Option D → R EV
  | some d => .ok (.val d) ρ
  | none => .bad
theorem ixR_l {xs : List D} {i : Int} : ixR ρ (some (.list xs)) (some (.int i)) = atR ρ (L2.atI xs i) := by
  show oR ((L2.atI xs i).map .val) ρ = _
  cases L2.atI xs i <;> rfl
theorem ixR_t {xs : List D} {i : Int} : ixR ρ (some (.tuple xs)) (some (.int i)) = atR ρ (L2.atI xs i) := by
  show oR ((L2.atI xs i).map .val) ρ = _
  cases L2.atI xs i <;> rfl
theorem atR_s {d : D} : atR ρ (some d) = .ok (.val d) ρ := rfl
theorem at_nat {α : Type} {xs : List α} {k : Nat} (h : k < xs.length) : L2.atI xs (k : Int) = some xs[k] := by
  unfold L2.atI L2.ixN
  rw [if_pos (Int.natCast_nonneg k), if_pos (by omega), Int.toNat_natCast]
  simp [h]
theorem at_get {α : Type} {xs : List α} {k : Nat} {x : α} (h : xs[k]? = some x) : L2.atI xs (k : Int) = some x := by
  obtain ⟨hk, e⟩ := List.getElem?_eq_some_iff.mp h
  rw [at_nat hk, e]
theorem at_0 {α : Type} {x : α} {xs : List α} : L2.atI (x :: xs) 0 = some x := at_get (k := 0) rfl
theorem at_1 {α : Type} {x y : α} {xs : List α} : L2.atI (x :: y :: xs) 1 = some y := at_get (k := 1) rfl
theorem at_2 {α : Type} {x y z : α} {xs : List α} : L2.atI (x :: y :: z :: xs) 2 = some z := at_get (k := 2) rfl
theorem at_3 {α : Type} {x y z w : α} {xs : List α} : L2.atI (x :: y :: z :: w :: xs) 3 = some w := at_get (k := 3) rfl
theorem at_4 {α : Type} {x y z w v : α} {xs : List α} : L2.atI (x :: y :: z :: w :: v :: xs) 4 = some v := at_get (k := 4) rfl
theorem at_last {α : Type} {xs : List α} {x : α} : L2.atI (xs ++ [x]) (-1) = some x := by
  unfold L2.atI L2.ixN
  have e : (xs ++ [x]).length = xs.length + 1 := by simp
  rw [e, if_neg (by decide), if_pos (by omega)]
  have h3 : (-1 + ((xs.length + 1 : Nat) : Int)).toNat = xs.length := by omega
  rw [h3]
  simp
/-! ### slices -/
def k_slc (Γ : Fns) (C : List D) (lo hi : CEs) : EV → M EV := fun x => bnd (evO Γ C lo) fun l => bnd (evO Γ C hi) fun h => slcM x l h
def k_slc2 (Γ : Fns) (C : List D) (hi : CEs) (x : EV) : Option Int → M EV := fun l => bnd (evO Γ C hi) fun h => slcM x l h
theorem x_slc {a : CE} {lo hi : CEs} : evE Γ C (.slc a lo hi) ρ = bR (evE Γ C a ρ) (k_slc Γ C lo hi) := by rw [evE, bnd_bR]; rfl
theorem k_slc_ {lo hi : CEs} {x : EV} : k_slc Γ C lo hi x ρ = bR (evO Γ C lo ρ) (k_slc2 Γ C hi x) := by unfold k_slc; rw [bnd_bR]; rfl
theorem k_slc2_ {hi : CEs} {x : EV} {l : Option Int} : k_slc2 Γ C hi x l ρ = bR (evO Γ C hi ρ) (slcM x l) := by unfold k_slc2; rw [bnd_bR]
def k_o : EV → M (Option Int) := fun x => bnd (intM x) fun i => ret (some i)
theorem o_nil : evO Γ C .nil ρ = .ok none ρ := by rw [evO]; rfl
theorem o_some1 {e : CE} {es : CEs} : evO Γ C (.cons e es) ρ = bR (evE Γ C e ρ) k_o := by rw [evO, bnd_bR]; rfl
theorem k_o_ {i : Int} : k_o (.val (.int i)) ρ = .ok (some i) ρ := rfl
def slR (l h : Option Int) (ρ : Ev) : Option D → R EV
  | some d => oR (slcD d l h) ρ
  | none => .bad
theorem m_slc {x : EV} {l h : Option Int} : slcM x l h ρ = slR l h ρ (peek ρ (settle x)) := by
  unfold slcM slR
  cases peek ρ (settle x) with
  | none => rfl
  | some d => simp only []; unfold oR; cases slcD d l h <;> rfl
theorem slR_l {l h : Option Int} {ds : List D} : slR l h ρ (some (.list ds)) = .ok (.fresh (cutD ds l h)) ρ := rfl
theorem slR_t {l h : Option Int} {ds : List D} : slR l h ρ (some (.tuple ds)) = .ok (.val (.tuple (cutD ds l h))) ρ := rfl
/-! ### comprehensions, generator expressions (they stand till they are told) -/
theorem x_lc {elt : CE} {tg : Tg} {it : CI} {ifs : CEs} : evE Γ C (.lc elt tg it ifs) ρ = bR (evI Γ C it ρ) (lcM tg (evTs Γ C ifs) (bnd (evE Γ C elt) coe)) := by rw [evE, bnd_bR]
theorem x_gx {b : GB} {elt : CE} {tg : Tg} {it : CI} {ifs : CEs} : evE Γ C (.gx b elt tg it ifs) ρ = bR (evI Γ C it ρ) (gxM b tg (evTs Γ C ifs) (bnd (evE Γ C elt) boolM)) := by rw [evE, bnd_bR]
theorem bo_b {b : Bool} : boolM (.val (.bool b)) ρ = .ok b ρ := rfl
def k_ts (Γ : Fns) (C : List D) (es : CEs) : EV → M Bool := fun x => bnd (truthM x) fun t => if t then evTs Γ C es else ret false
def k_ts2 (Γ : Fns) (C : List D) (es : CEs) : Bool → M Bool := fun t => if t then evTs Γ C es else ret false
theorem ts_nil : evTs Γ C .nil ρ = .ok true ρ := by rw [evTs]; rfl
theorem ts_cons {e : CE} {es : CEs} : evTs Γ C (.cons e es) ρ = bR (evE Γ C e ρ) (k_ts Γ C es) := by rw [evTs, bnd_bR]; rfl
theorem k_ts_ {es : CEs} {x : EV} : k_ts Γ C es x ρ = bR (truthM x ρ) (k_ts2 Γ C es) := by unfold k_ts; rw [bnd_bR]; rfl
theorem k_ts2_ {es : CEs} {t : Bool} : k_ts2 Γ C es t ρ = if t = true then evTs Γ C es ρ else .ok false ρ := by unfold k_ts2; cases t <;> rfl
/-! ### a list of one's own changed -/
def k_app (Γ : Fns) (C : List D) (e : CE) : EV → M EV := fun x => bnd (locM x) fun _ => bnd (evE Γ C e) fun y => bnd (coe y) fun d => appM x d
def k_app2 (Γ : Fns) (C : List D) (e : CE) (x : EV) : EV → M EV := fun _ => bnd (evE Γ C e) fun y => bnd (coe y) fun d => appM x d
def k_app3 (x : EV) : EV → M EV := fun y => bnd (coe y) fun d => appM x d
theorem x_app {a e : CE} : evE Γ C (.app a e) ρ = bR (evE Γ C a ρ) (k_app Γ C e) := by rw [evE, bnd_bR]; rfl
theorem k_app_ {e : CE} {x : EV} : k_app Γ C e x ρ = bR (locM x ρ) (k_app2 Γ C e x) := by unfold k_app; rw [bnd_bR]; rfl
theorem k_app2_ {e : CE} {x z : EV} : k_app2 Γ C e x z ρ = bR (evE Γ C e ρ) (k_app3 x) := by unfold k_app2; rw [bnd_bR]; rfl
theorem k_app3_ {x y : EV} : k_app3 x y ρ = bR (coe y ρ) (appM x) := by unfold k_app3; rw [bnd_bR]
def lmR (i : Nat) (ρ : Ev) : Option Sl → R EV
  | some (.own _ _ _) => .ok (.loc i) ρ
  | _ => .bad
theorem m_loc {i : Nat} : locM (.loc i) ρ = lmR i ρ ρ[i]? := by
  unfold locM lmR
  dsimp only
  all_goals cases ρ[i]? with
  | none => rfl
  | some s => cases s <;> rfl
theorem lmR_own {i : Nat} {p l : Bool} {ds : List D} : lmR i ρ (some (.own p l ds)) = .ok (.loc i) ρ := rfl
def amR (i : Nat) (d : D) (ρ : Ev) : Option Sl → R EV
  | some (.own p false ds) => if ds.length < line then .ok (.val .none) (ρ.set i (.own p false (ds ++ [d]))) else .bad
  | _ => .bad
theorem m_app {i : Nat} {d : D} : appM (.loc i) d ρ = amR i d ρ ρ[i]? := by
  unfold appM amR
  dsimp only
  all_goals cases ρ[i]? with
  | none => rfl
  | some s =>
    cases s with
    | own p l ds => cases l <;> rfl
    | _ => rfl
theorem amR_own {i : Nat} {d : D} {p : Bool} {ds : List D} (h : ds.length < line) : amR i d ρ (some (.own p false ds)) = .ok (.val .none) (ρ.set i (.own p false (ds ++ [d]))) := if_pos h
def pmR (i : Nat) (ρ : Ev) : Option Sl → R EV
  | some (.own p false ds) => match ds.getLast? with
        | some d => .ok (.val d) (ρ.set i (.own p false ds.dropLast))
        | none => .bad
  | _ => .bad
theorem x_pop {a : CE} : evE Γ C (.pop a) ρ = bR (evE Γ C a ρ) popM := by rw [evE, bnd_bR]
theorem m_pop {i : Nat} : popM (.loc i) ρ = pmR i ρ ρ[i]? := by
  unfold popM pmR
  dsimp only
  all_goals cases ρ[i]? with
  | none => rfl
  | some s =>
    cases s with
    | own p l ds => cases l <;> rfl
    | _ => rfl
theorem pmR_own {i : Nat} {d : D} {p : Bool} {ds : List D} (h : ds.getLast? = some d) : pmR i ρ (some (.own p false ds)) = .ok (.val d) (ρ.set i (.own p false ds.dropLast)) := by unfold pmR; simp only [h]
theorem x_rev {a : CE} : evE Γ C (.rev a) ρ = bR (evE Γ C a ρ) revM := by rw [evE, bnd_bR]
theorem m_rev {ds : List D} : revM (.val (.list ds)) ρ = .ok (.fresh ds.reverse) ρ := rfl
def rvR (ρ : Ev) : Option D → R EV
  | some (.list ds) => .ok (.fresh ds.reverse) ρ
  | _ => .bad
theorem m_revL {i : Nat} : revM (.loc i) ρ = rvR ρ (pkR ρ[i]?) := by
  rw [← pk_loc]
  unfold revM bnd peekM rvR
  cases peek ρ (.loc i) with
  | none => rfl
  | some d => cases d <;> rfl
theorem rvR_l {ds : List D} : rvR ρ (some (.list ds)) = .ok (.fresh ds.reverse) ρ := rfl
/-! ### what is walked -/
def exR (x : EV) (ρ : Ev) : Option D → R (EV × List D)
  | some (.list ds) => .ok (settle x, ds) ρ
  | some (.tuple ds) => .ok (settle x, ds) ρ
  | some d => match itemsD d with
    | some ds => .ok (settle x, ds) ρ
    | none => .bad
  | none => .bad
def k_ex : EV → M (EV × List D) := fun x => bnd (peekM x) fun d => bnd (ofO (itemsD d)) fun ds => ret (settle x, ds)
theorem w_ex {e : CE} : evI Γ C (.ex e) ρ = bR (evE Γ C e ρ) k_ex := by rw [evI, bnd_bR]; rfl
theorem k_ex_ {x : EV} : k_ex x ρ = exR x ρ (peek ρ x) := by
  unfold k_ex bnd peekM exR
  cases peek ρ x with
  | none => rfl
  | some d =>
    dsimp only
    cases d <;> first | rfl | skip
    rename_i z
    show bnd (ofO (itemsD (.str z))) _ ρ = (match itemsD (.str z) with | some ds => R.ok (settle x, ds) ρ | none => .bad)
    cases itemsD (.str z) <;> rfl
theorem exR_l {x : EV} {ds : List D} : exR x ρ (some (.list ds)) = .ok (settle x, ds) ρ := rfl
theorem exR_t {x : EV} {ds : List D} : exR x ρ (some (.tuple ds)) = .ok (settle x, ds) ρ := rfl
theorem w_seq {e : CE} : evI Γ C (.seq e) ρ = bR (evE Γ C e ρ) seqI := by rw [evI, bnd_bR]
theorem seqI_l {ds : List D} : seqI (.val (.list ds)) ρ = .ok (.val (.list ds), ds) ρ := rfl
theorem seqI_t {ds : List D} : seqI (.val (.tuple ds)) ρ = .ok (.val (.tuple ds), ds) ρ := rfl
theorem w_rng {es : CEs} : evI Γ C (.rng es) ρ = bR (evEs Γ C es ρ) rngM := by rw [evI, bnd_bR]
/-- i, i + 1, .., j - 1 -/
def rgI (i j : Int) : List Int := (List.range (j - i).toNat).map fun (k : Nat) => i + (k : Int)
theorem rg_1 {j : Int} (h : j < 4611686018427387904) (h' : -4611686018427387904 ≤ j) : rngM [.val (.int j)] ρ = .ok (.val .none, (rgI 0 j).map .int) ρ := by
  have b : big j = true := by unfold big; rw [Bool.and_eq_true]; exact ⟨decide_eq_true h', decide_eq_true h⟩
  show (match rangeD [.int j] with | some ns => R.ok (EV.val PyData.none, ns.map PyData.int) ρ | none => R.bad) = _
  have e : rangeD [.int j] = some (rgI 0 j) := by
    show (if big j = true then _ else _) = _
    rw [if_pos b]
    unfold rgI
    simp
  rw [e]
theorem rg_2 {i j : Int} (h : j < 4611686018427387904) (h' : -4611686018427387904 ≤ j) (h2 : i < 4611686018427387904) (h2' : -4611686018427387904 ≤ i) : rngM [.val (.int i), .val (.int j)] ρ = .ok (.val .none, (rgI i j).map .int) ρ := by
  have b : big j = true := by unfold big; rw [Bool.and_eq_true]; exact ⟨decide_eq_true h', decide_eq_true h⟩
  have b2 : big i = true := by unfold big; rw [Bool.and_eq_true]; exact ⟨decide_eq_true h2', decide_eq_true h2⟩
  show (match rangeD [.int i, .int j] with | some ns => R.ok (EV.val PyData.none, ns.map PyData.int) ρ | none => R.bad) = _
  have e : rangeD [.int i, .int j] = some (rgI i j) := by
    show (if (big i && big j) = true then _ else _) = _
    rw [b, b2]
    rfl
  rw [e]
theorem w_enum {e : CE} : evI Γ C (.enum e) ρ = bR (evE Γ C e ρ) enumM := by rw [evI, bnd_bR]
def enL (ds : List D) : List D := (List.range ds.length).zipWith (fun k d => .tuple [.int (k : Nat), d]) ds
theorem en_l {ds : List D} : enumM (.val (.list ds)) ρ = .ok (.val (.list ds), enL ds) ρ := rfl
theorem en_t {ds : List D} : enumM (.val (.tuple ds)) ρ = .ok (.val (.tuple ds), enL ds) ρ := rfl
theorem en_f {ds : List D} : enumM (.fresh ds) ρ = .ok (.val (.list ds), enL ds) ρ := rfl
theorem w_rev {e : CE} : evI Γ C (.rev e) ρ = bR (evE Γ C e ρ) revI := by rw [evI, bnd_bR]
theorem rv_l {ds : List D} : revI (.val (.list ds)) ρ = .ok (.val (.list ds), ds.reverse) ρ := rfl
theorem rv_t {ds : List D} : revI (.val (.tuple ds)) ρ = .ok (.val (.tuple ds), ds.reverse) ρ := rfl
def k_zip (Γ : Fns) (C : List D) (b : CE) : EV → M (EV × List D) := fun x => bnd (evE Γ C b) fun y => zipM x y
theorem w_zip {a b : CE} : evI Γ C (.zip a b) ρ = bR (evE Γ C a ρ) (k_zip Γ C b) := by rw [evI, bnd_bR]; rfl
theorem k_zip_ {b : CE} {x : EV} : k_zip Γ C b x ρ = bR (evE Γ C b ρ) (zipM x) := by unfold k_zip; rw [bnd_bR]
theorem zp_tt {xs ys : List D} : zipM (.val (.tuple xs)) (.val (.tuple ys)) ρ = .ok (.val .none, xs.zipWith (fun a b => .tuple [a, b]) ys) ρ := rfl
theorem zp_ll {xs ys : List D} : zipM (.val (.list xs)) (.val (.list ys)) ρ = .ok (.val .none, xs.zipWith (fun a b => .tuple [a, b]) ys) ρ := rfl
/-! ### statements -/
theorem v_nil : evB Γ C .nil ρ = .nx ρ := by rw [evB]
theorem v_cons {s : CS} {r : CSs} : evB Γ C (.cons s r) ρ = sR (evS Γ C s ρ) (evB Γ C r) := by
  rw [evB]
  unfold sR
  dsimp only
  cases evS Γ C s ρ <;> rfl
def frR (Γ : Fns) (C : List D) (i : Nat) (r : CSs) (ρ : Ev) : Option Sl → SR
  | some (.own false false ds) => evB Γ C r (ρ.set i (.val (.list ds)))
  | some (.val _) => evB Γ C r ρ
  | _ => .bad
theorem v_frz {i : Nat} {r : CSs} : evB Γ C (.frz i r) ρ = frR Γ C i r ρ ρ[i]? := by
  rw [evB]
  unfold frR
  dsimp only
  all_goals cases ρ[i]? with
  | none => rfl
  | some s =>
    cases s with
    | own p l ds => cases p <;> cases l <;> rfl
    | _ => rfl
theorem frR_own {i : Nat} {r : CSs} {ds : List D} : frR Γ C i r ρ (some (.own false false ds)) = evB Γ C r (ρ.set i (.val (.list ds))) := rfl
theorem frR_val {i : Nat} {r : CSs} {d : D} : frR Γ C i r ρ (some (.val d)) = evB Γ C r ρ := rfl
def puR : Option Ev → SR
  | some ρ => .nx ρ
  | none => .bad
theorem puR_s : puR (some ρ) = .nx ρ := rfl
def k_asg (i : Nat) (own : Bool) : EV → Ev → SR := fun v ρ => match putL ρ [i] [own] [v] with
    | some ρ' => .nx ρ'
    | none => .bad
theorem s_asg_ {i : Nat} {own : Bool} {e : CE} : evS Γ C (.asg i own e) ρ = eR (bR (evE Γ C e ρ) Den.soft) (k_asg i own) := by
  rw [evS, sE_eR, bnd_bR]; rfl
theorem k_asg_ {i : Nat} {own : Bool} {v : EV} : k_asg i own v ρ = puR (putL ρ [i] [own] [v]) := by
  unfold k_asg puR
  cases putL ρ [i] [own] [v] <;> rfl
theorem sf_val {d : D} : Den.soft (.val d) ρ = .ok (.val d) ρ := rfl
theorem sf_fresh {d : List D} : Den.soft (.fresh d) ρ = .ok (.fresh d) ρ := rfl
def k_sf : D → M EV := fun d => ret (.val d)
theorem sf_loc {i : Nat} : Den.soft (.loc i) ρ = bR (coe (.loc i) ρ) k_sf := by
  show bnd (coe (.loc i)) (fun d => ret (EV.val d)) ρ = _
  rw [bnd_bR]; rfl
theorem k_sf_ {d : D} : k_sf d ρ = .ok (.val d) ρ := rfl
def plR (i : Nat) (is : List Nat) (o : Bool) (os : List Bool) (v : EV) (vs : List EV) (ρ : Ev) : Option Sl → Option Ev
  | some sl => if canPut sl = true then match v with
        | .val d => putL (ρ.set i (.val d)) is os vs
        | .fresh ds => putL (ρ.set i (if o then .own false false ds else .val (.list ds))) is os vs
        | .loc _ => none
      else none
  | none => none
theorem pl_nil : putL ρ [] [] [] = some ρ := rfl
theorem pl_cons {i : Nat} {is : List Nat} {o : Bool} {os : List Bool} {v : EV} {vs : List EV} : putL ρ (i :: is) (o :: os) (v :: vs) = plR i is o os v vs ρ ρ[i]? := by
  unfold plR
  cases h : ρ[i]? <;> simp only [putL, h] <;> rfl
theorem plR_v {i : Nat} {is : List Nat} {o : Bool} {os : List Bool} {d : D} {vs : List EV} {sl : Sl} (h : canPut sl = true) : plR i is o os (.val d) vs ρ (some sl) = putL (ρ.set i (.val d)) is os vs := if_pos h
theorem plR_f {i : Nat} {is : List Nat} {o : Bool} {os : List Bool} {d : List D} {vs : List EV} {sl : Sl} (h : canPut sl = true) : plR i is o os (.fresh d) vs ρ (some sl) = putL (ρ.set i (if o = true then .own false false d else .val (.list d))) is os vs := if_pos h
theorem cp_no : canPut .no = true := rfl
theorem cp_val {d : D} : canPut (.val d) = true := rfl
theorem cp_own {d : List D} : canPut (.own false false d) = true := rfl
theorem cp_err {k : Nat} : canPut (.err k) = true := rfl
def k_par (is : List Nat) (ows : List Bool) : List EV → Ev → SR := fun vs ρ => match putL ρ is ows vs with
    | some ρ' => .nx ρ'
    | none => .bad
theorem s_par_ {is : List Nat} {ows : List Bool} {es : CEs} : evS Γ C (.par is ows es) ρ = eR (evPs Γ C es ρ) (k_par is ows) := by rw [evS, sE_eR]; rfl
theorem k_par_ {is : List Nat} {ows : List Bool} {vs : List EV} : k_par is ows vs ρ = puR (putL ρ is ows vs) := by
  unfold k_par puR
  cases putL ρ is ows vs <;> rfl
def k_ps (Γ : Fns) (C : List D) (es : CEs) : EV → M (List EV) := fun x => bnd (Den.soft x) fun y => bnd (evPs Γ C es) fun ys => ret (y :: ys)
def k_ps2 (Γ : Fns) (C : List D) (es : CEs) : EV → M (List EV) := fun y => bnd (evPs Γ C es) fun ys => ret (y :: ys)
def k_ps3 (y : EV) : List EV → M (List EV) := fun ys => ret (y :: ys)
theorem ps_nil_ : evPs Γ C .nil ρ = .ok [] ρ := by rw [evPs]; rfl
theorem ps_cons_ {e : CE} {es : CEs} : evPs Γ C (.cons e es) ρ = bR (evE Γ C e ρ) (k_ps Γ C es) := by rw [evPs, bnd_bR]; rfl
theorem k_ps_ {es : CEs} {x : EV} : k_ps Γ C es x ρ = bR (Den.soft x ρ) (k_ps2 Γ C es) := by unfold k_ps; rw [bnd_bR]; rfl
theorem k_ps2_ {es : CEs} {y : EV} : k_ps2 Γ C es y ρ = bR (evPs Γ C es ρ) (k_ps3 y) := by unfold k_ps2; rw [bnd_bR]; rfl
theorem k_ps3_ {y : EV} {ys : List EV} : k_ps3 y ys ρ = .ok (y :: ys) ρ := rfl
def agT (is : List Nat) (ρ : Ev) : Option D → SR
  | some d => puR (asgD ρ (.tp is) d)
  | none => .bad
def k_asT (is : List Nat) : EV → Ev → SR := fun x ρ => agT is ρ (peek ρ x)
theorem s_asgT_ {is : List Nat} {e : CE} : evS Γ C (.asgT is e) ρ = eR (evE Γ C e ρ) (k_asT is) := by
  rw [evS, sE_eR, bnd_bR]
  cases evE Γ C e ρ with
  | bad => rfl
  | exc c ρ => rfl
  | ok x ρ1 =>
    show eR (peekM x ρ1) _ = k_asT is x ρ1
    unfold peekM k_asT agT puR
    cases peek ρ1 x with
    | none => rfl
    | some d =>
      show (match asgD ρ1 (.tp is) d with | some ρ' => SR.nx ρ' | none => .bad) = _
      dsimp only
theorem k_asT_ {is : List Nat} {x : EV} : k_asT is x ρ = agT is ρ (peek ρ x) := rfl
theorem agT_t {is : List Nat} {ds : List D} : agT is ρ (some (.tuple ds)) = puR (setN ρ is ds) := rfl
theorem agT_l {is : List Nat} {ds : List D} : agT is ρ (some (.list ds)) = puR (setN ρ is ds) := rfl
theorem ad_nm {i : Nat} {d : D} : asgD ρ (.nm i) d = setN ρ [i] [d] := rfl
theorem ad_tt {is : List Nat} {ds : List D} : asgD ρ (.tp is) (.tuple ds) = setN ρ is ds := rfl
theorem ad_tl {is : List Nat} {ds : List D} : asgD ρ (.tp is) (.list ds) = setN ρ is ds := rfl
theorem sn_nil : setN ρ [] [] = some ρ := rfl
def snR (i : Nat) (is : List Nat) (d : D) (ds : List D) (ρ : Ev) : Option Sl → Option Ev
  | some (.own _ _ _) => none
  | some _ => setN (ρ.set i (.val d)) is ds
  | none => none
theorem sn_cons {i : Nat} {is : List Nat} {d : D} {ds : List D} : setN ρ (i :: is) (d :: ds) = snR i is d ds ρ ρ[i]? := by
  unfold snR
  rw [setN]
  all_goals cases ρ[i]? with
  | none => rfl
  | some s => cases s <;> rfl
theorem snR_no {i : Nat} {is : List Nat} {d : D} {ds : List D} : snR i is d ds ρ (some .no) = setN (ρ.set i (.val d)) is ds := rfl
theorem snR_val {i : Nat} {is : List Nat} {d d0 : D} {ds : List D} : snR i is d ds ρ (some (.val d0)) = setN (ρ.set i (.val d)) is ds := rfl
theorem snR_err {i k : Nat} {is : List Nat} {d : D} {ds : List D} : snR i is d ds ρ (some (.err k)) = setN (ρ.set i (.val d)) is ds := rfl
def k_exp : EV → Ev → SR := fun _ ρ => .nx ρ
theorem s_exp_ {e : CE} : evS Γ C (.exp e) ρ = eR (evE Γ C e ρ) k_exp := by rw [evS, sE_eR]; rfl
theorem k_exp_ {v : EV} : k_exp v ρ = .nx ρ := rfl
def k_ret : EV → Ev → SR := fun v ρ => .rt v ρ
theorem s_ret_ {e : CE} : evS Γ C (.ret e) ρ = eR (evE Γ C e ρ) k_ret := by rw [evS, sE_eR]; rfl
theorem k_ret_ {v : EV} : k_ret v ρ = .rt v ρ := rfl
theorem s_retN_ : evS Γ C .retN ρ = .rt (.val .none) ρ := by rw [evS]
theorem s_brk_ : evS Γ C .brk ρ = .bk ρ := by rw [evS]
theorem s_cnt_ : evS Γ C .cnt ρ = .ct ρ := by rw [evS]
theorem s_pss_ : evS Γ C .pss ρ = .nx ρ := by rw [evS]
theorem s_rse_ {c : Nat} : evS Γ C (.rse c) ρ = .ex c ρ := by rw [evS]
def k_ife (Γ : Fns) (C : List D) (a b : CSs) : Bool → Ev → SR := fun t => if t then evB Γ C a else evB Γ C b
theorem s_ife_ {c : CE} {a b : CSs} : evS Γ C (.ife c a b) ρ = eR (bR (evE Γ C c ρ) truthM) (k_ife Γ C a b) := by rw [evS, sE_eR, bnd_bR]; rfl
theorem k_ife_ {a b : CSs} {t : Bool} : k_ife Γ C a b t ρ = if t = true then evB Γ C a ρ else evB Γ C b ρ := by unfold k_ife; cases t <;> rfl
/-- behind a loop over what is not locked -/
def finV : SR → SR
  | .nx ρ => .nx ρ
  | .rt v ρ => .rt v ρ
  | .ex c ρ => .ex c ρ
  | _ => .bad
theorem finV_nx : finV (.nx ρ) = .nx ρ := rfl
theorem finV_rt {v : EV} : finV (.rt v ρ) = .rt v ρ := rfl
theorem finV_ex {c : Nat} : finV (.ex c ρ) = .ex c ρ := rfl
def k_for (Γ : Fns) (C : List D) (tg : Tg) (b : CSs) : EV × List D → Ev → SR := fun p ρ => match lock ρ p.1 with
    | none => .bad
    | some ρ1 => finR p.1 (forL tg (evB Γ C b) p.2 ρ1)
theorem s_for_ {tg : Tg} {it : CI} {b : CSs} : evS Γ C (.for_ tg it b) ρ = eR (evI Γ C it ρ) (k_for Γ C tg b) := by rw [evS, sE_eR]; rfl
theorem k_for_v {tg : Tg} {b : CSs} {d : D} {ds : List D} : k_for Γ C tg b (.val d, ds) ρ = finV (forL tg (evB Γ C b) ds ρ) := by
  show finR (.val d) (forL tg (evB Γ C b) ds ρ) = _
  cases forL tg (evB Γ C b) ds ρ <;> rfl
theorem s_whl_ {n : Nat} {c : CE} {b : CSs} : evS Γ C (.whl n c b) ρ = whlL (bnd (evE Γ C c) truthM) (evB Γ C b) n ρ := by rw [evS]
theorem s_try_ {i : Option Nat} {ks os : List Nat} {b h : CSs} : evS Γ C (.tryE i ks os b h) ρ = tryR i ks os (evB Γ C h) (evB Γ C b ρ) := by rw [evS]
theorem ty_nx {i : Option Nat} {ks os : List Nat} {h : Ev → SR} : tryR i ks os h (.nx ρ) = .nx ρ := rfl
theorem ty_rt {i : Option Nat} {ks os : List Nat} {h : Ev → SR} {v : EV} : tryR i ks os h (.rt v ρ) = .rt v ρ := rfl
def ceB (ρ : Ev) (b : Bool) : Option Ev := if b = true then some ρ else none
def ceR (i : Nat) (ρ : Ev) : Option Sl → Option Ev
  | some (.own _ _ _) => none
  | some _ => ceB (ρ.set i .no) (noErr (ρ.set i .no))
  | none => none
theorem ce_n : clrErr ρ none = ceB ρ (noErr ρ) := rfl
theorem ce_s {i : Nat} : clrErr ρ (some i) = ceR i ρ ρ[i]? := by
  unfold ceR clrErr ceB
  cases h : ρ[i]? with
  | none => simp only [h]
  | some s => cases s <;> simp only [h]
theorem ceB_t : ceB ρ true = some ρ := rfl
theorem ceR_e {i k : Nat} : ceR i ρ (some (.err k)) = ceB (ρ.set i .no) (noErr (ρ.set i .no)) := rfl
theorem ne_nil : noErr [] = true := rfl
theorem ne_no : noErr (.no :: ρ) = noErr ρ := rfl
theorem ne_v {d : D} : noErr (.val d :: ρ) = noErr ρ := rfl
theorem ne_o {p l : Bool} {d : List D} : noErr (.own p l d :: ρ) = noErr ρ := rfl
def exVR (d : D) : Option Ev → SR
  | some ρ' => .rt (.val d) ρ'
  | none => .bad
def exNR : Option Ev → SR
  | some ρ' => .nx ρ'
  | none => .bad
theorem en_rt {i : Option Nat} {d : D} : endX i (.rt (.val d) ρ) = exVR d (clrErr ρ i) := rfl
theorem en_nx {i : Option Nat} : endX i (.nx ρ) = exNR (clrErr ρ i) := rfl
theorem exVR_s {d : D} : exVR d (some ρ) = .rt (.val d) ρ := rfl
theorem exNR_s : exNR (some ρ) = .nx ρ := rfl
def peR (k i : Nat) (ρ : Ev) : Option Sl → Option Ev
  | some (.own _ _ _) => none
  | some _ => some (ρ.set i (.err k))
  | none => none
theorem pe_n {k : Nat} : putErr ρ k none = some ρ := rfl
theorem pe_s {k i : Nat} : putErr ρ k (some i) = peR k i ρ ρ[i]? := by
  unfold peR putErr
  cases h : ρ[i]? with
  | none => simp only [h]
  | some s => cases s <;> simp only [h]
theorem peR_no {k i : Nat} : peR k i ρ (some .no) = some (ρ.set i (.err k)) := rfl
theorem peR_v {k i : Nat} {d : D} : peR k i ρ (some (.val d)) = some (ρ.set i (.err k)) := rfl
def tyPm (i : Option Nat) (h : Ev → SR) : Option Ev → SR
  | some ρ2 => endX i (h ρ2)
  | none => .bad
def tyQm (i : Option Nat) (ks os : List Nat) (h : Ev → SR) (k : Nat) (ρ : Ev) (b : Bool) : SR :=
  if b = true then tyPm i h (putErr ρ k i) else if os.contains k = true then .ex k ρ else .bad
theorem ty_k {i : Option Nat} {ks os : List Nat} {h : Ev → SR} {k : Nat} : tryR i ks os h (.ex k ρ) = tyQm i ks os h k ρ (ks.contains k) := by
  unfold tyQm tyPm tryR
  simp only []
  all_goals split <;> first | rfl | (cases putErr ρ k i <;> rfl)
theorem tyQm_t {i : Option Nat} {ks os : List Nat} {h : Ev → SR} {k : Nat} : tyQm i ks os h k ρ true = tyPm i h (putErr ρ k i) := rfl
theorem tyPm_s {i : Option Nat} {h : Ev → SR} : tyPm i h (some ρ) = endX i (h ρ) := rfl
theorem ct_nil {k : Nat} : ([] : List Nat).contains k = false := rfl
theorem ct_cons {k a : Nat} {l : List Nat} : (a :: l).contains k = (k == a || l.contains k) := List.contains_cons
theorem ty_ex {i : Nat} {ks os : List Nat} {h : Ev → SR} {k : Nat} {sl : Sl} (hk : ks.contains k = true) (hs : ρ[i]? = some sl) (hc : ∀ p l ds, sl ≠ .own p l ds) : tryR (some i) ks os h (.ex k ρ) = endX (some i) (h (ρ.set i (.err k))) := by
  show (if ks.contains k = true then _ else _) = _
  rw [if_pos hk]
  cases sl <;> first | exact absurd rfl (hc _ _ _) | (simp only [putErr, hs])
/-! ### further forms -/
theorem x_revs {a : CE} : evE Γ C (.revs a) ρ = bR (evE Γ C a ρ) revsM := by rw [evE, bnd_bR]
def rvsR (ρ : Ev) : Option D → R EV
  | some (.list ds) => .ok (.fresh ds.reverse) ρ
  | some (.tuple ds) => .ok (.val (.tuple ds.reverse)) ρ
  | _ => .bad
theorem m_revs {x : EV} : revsM x ρ = rvsR ρ (peek ρ x) := by
  unfold revsM bnd peekM rvsR
  cases peek ρ x with
  | none => rfl
  | some d => cases d <;> rfl
theorem rvsR_l {ds : List D} : rvsR ρ (some (.list ds)) = .ok (.fresh ds.reverse) ρ := rfl
theorem rvsR_t {ds : List D} : rvsR ρ (some (.tuple ds)) = .ok (.val (.tuple ds.reverse)) ρ := rfl
def k_slS (Γ : Fns) (C : List D) (s : CE) : EV → M EV := fun x => bnd (evE Γ C s) fun y => slSM x y
theorem x_slcS {a s : CE} : evE Γ C (.slcS a s) ρ = bR (evE Γ C a ρ) (k_slS Γ C s) := by rw [evE, bnd_bR]; rfl
theorem k_slS_ {s : CE} {x : EV} : k_slS Γ C s x ρ = bR (evE Γ C s ρ) (slSM x) := by unfold k_slS; rw [bnd_bR]
def slsR (ρ : Ev) : Option D → Option D → R EV
  | some (.list ds), some (.int k) => if 0 < k then .ok (.fresh (pickL ds k)) ρ else .bad
  | _, _ => .bad
theorem m_slS {x y : EV} : slSM x y ρ = slsR ρ (peek ρ (settle x)) (peek ρ (settle y)) := rfl
theorem slsR_l {ds : List D} {k : Int} (h : 0 < k) : slsR ρ (some (.list ds)) (some (.int k)) = .ok (.fresh (pickL ds k)) ρ := if_pos h
theorem x_srev {a : CE} : evE Γ C (.srev a) ρ = bR (evE Γ C a ρ) srvM := by rw [evE, bnd_bR]
def srvR (ρ : Ev) : Option D → R EV
  | some (.list ds) => match intsD ds with
    | some ns => .ok (.fresh ((sortedI ns).reverse.map .int)) ρ
    | none => .bad
  | _ => .bad
theorem m_srv {x : EV} : srvM x ρ = srvR ρ (peek ρ x) := by
  unfold srvM bnd peekM srvR
  cases peek ρ x with
  | none => rfl
  | some d =>
    cases d <;> first | rfl | skip
    rename_i ds
    dsimp only
    cases intsD ds <;> rfl
theorem srvR_l {ns : List Int} : srvR ρ (some (.list (ns.map .int))) = .ok (.fresh ((sortedI ns).reverse.map .int)) ρ := by
  unfold srvR
  dsimp only
  rw [intsD_map]
theorem x_tupS {fs : List Bool} {es : CEs} : evE Γ C (.tupS fs es) ρ = bR (evSs Γ C fs es ρ) k_tup := by rw [evE, bnd_bR]; rfl
def k_ss (Γ : Fns) (C : List D) (fs : List Bool) (es : CEs) : EV → M (List D) := fun x => bnd (coe x) fun d => match fs with
    | true :: fs' => (match d with
      | .tuple xs => bnd (evSs Γ C fs' es) fun ys => ret (xs ++ ys)
      | .list xs => bnd (evSs Γ C fs' es) fun ys => ret (xs ++ ys)
      | _ => fail)
    | false :: fs' => bnd (evSs Γ C fs' es) fun ys => ret (d :: ys)
    | [] => fail
def k_ss2 (Γ : Fns) (C : List D) (es : CEs) : List Bool → D → M (List D)
  | true :: fs', d => (match d with
      | .tuple xs => bnd (evSs Γ C fs' es) fun ys => ret (xs ++ ys)
      | .list xs => bnd (evSs Γ C fs' es) fun ys => ret (xs ++ ys)
      | _ => fail)
  | false :: fs', d => bnd (evSs Γ C fs' es) fun ys => ret (d :: ys)
  | [], _ => fail
def k_ss3 (xs : List D) : List D → M (List D) := fun ys => ret (xs ++ ys)
theorem ss_nil {fs : List Bool} : evSs Γ C fs .nil ρ = .ok [] ρ := by rw [evSs]; rfl
theorem ss_cons {fs : List Bool} {e : CE} {es : CEs} : evSs Γ C fs (.cons e es) ρ = bR (evE Γ C e ρ) (k_ss Γ C fs es) := by rw [evSs, bnd_bR]; rfl
theorem k_ss_ {fs : List Bool} {es : CEs} {x : EV} : k_ss Γ C fs es x ρ = bR (coe x ρ) (k_ss2 Γ C es fs) := by
  unfold k_ss
  rw [bnd_bR]
  congr 1
  funext d
  unfold k_ss2
  cases fs with
  | nil => rfl
  | cons b fs => cases b <;> rfl
theorem k_ss2_f {fs : List Bool} {es : CEs} {d : D} : k_ss2 Γ C es (false :: fs) d ρ = bR (evSs Γ C fs es ρ) (k_ss3 [d]) := by
  show bnd (evSs Γ C fs es) _ ρ = _
  rw [bnd_bR]
  rfl
theorem k_ss2_t {fs : List Bool} {es : CEs} {xs : List D} : k_ss2 Γ C es (true :: fs) (.tuple xs) ρ = bR (evSs Γ C fs es ρ) (k_ss3 xs) := by
  show bnd (evSs Γ C fs es) _ ρ = _
  rw [bnd_bR]
  rfl
theorem k_ss2_l {fs : List Bool} {es : CEs} {xs : List D} : k_ss2 Γ C es (true :: fs) (.list xs) ρ = bR (evSs Γ C fs es ρ) (k_ss3 xs) := by
  show bnd (evSs Γ C fs es) _ ρ = _
  rw [bnd_bR]
  rfl
theorem k_ss3_ {xs ys : List D} : k_ss3 xs ys ρ = .ok (xs ++ ys) ρ := rfl
def k_ins (Γ : Fns) (C : List D) (i e : CE) : EV → M EV := fun x => bnd (locM x) fun _ => bnd (evE Γ C i) fun y => bnd (evE Γ C e) fun z => bnd (coe z) fun d => insM x (settle y) d
def k_ins2 (Γ : Fns) (C : List D) (i e : CE) (x : EV) : EV → M EV := fun _ => bnd (evE Γ C i) fun y => bnd (evE Γ C e) fun z => bnd (coe z) fun d => insM x (settle y) d
def k_ins3 (Γ : Fns) (C : List D) (e : CE) (x : EV) : EV → M EV := fun y => bnd (evE Γ C e) fun z => bnd (coe z) fun d => insM x (settle y) d
def k_ins4 (x y : EV) : EV → M EV := fun z => bnd (coe z) fun d => insM x (settle y) d
theorem x_ins {a i e : CE} : evE Γ C (.ins a i e) ρ = bR (evE Γ C a ρ) (k_ins Γ C i e) := by rw [evE, bnd_bR]; rfl
theorem k_ins_ {i e : CE} {x : EV} : k_ins Γ C i e x ρ = bR (locM x ρ) (k_ins2 Γ C i e x) := by unfold k_ins; rw [bnd_bR]; rfl
theorem k_ins2_ {i e : CE} {x z : EV} : k_ins2 Γ C i e x z ρ = bR (evE Γ C i ρ) (k_ins3 Γ C e x) := by unfold k_ins2; rw [bnd_bR]; rfl
theorem k_ins3_ {e : CE} {x y : EV} : k_ins3 Γ C e x y ρ = bR (evE Γ C e ρ) (k_ins4 x y) := by unfold k_ins3; rw [bnd_bR]; rfl
theorem k_ins4_ {x y z : EV} : k_ins4 x y z ρ = bR (coe z ρ) (insM x (settle y)) := by unfold k_ins4; rw [bnd_bR]
def inR (i : Nat) (n : Int) (d : D) (ρ : Ev) : Option Sl → R EV
  | some (.own p false ds) => if ds.length < line ∧ 0 ≤ n ∧ n < 2 ^ 62 then .ok (.val .none) (ρ.set i (.own p false (ds.take n.toNat ++ [d] ++ ds.drop n.toNat))) else .bad
  | _ => .bad
theorem m_ins {i : Nat} {n : Int} {d : D} : insM (.loc i) (.val (.int n)) d ρ = inR i n d ρ ρ[i]? := by
  unfold insM inR peek
  dsimp only
  all_goals generalize ρ[i]? = o
  all_goals rcases o with _ | s
  all_goals first
    | rfl
    | (cases s <;> first
        | rfl
        | (rename_i p l ds
           cases l <;> rfl))
theorem inR_0 {i : Nat} {d : D} {p : Bool} {ds : List D} (h : ds.length < line) : inR i 0 d ρ (some (.own p false ds)) = .ok (.val .none) (ρ.set i (.own p false (d :: ds))) := by
  show (if _ then _ else _) = _
  rw [if_pos ⟨h, by decide, by decide⟩]
  rfl
def k_pI (Γ : Fns) (C : List D) (e : CE) : EV → M EV := fun x => bnd (locM x) fun _ => bnd (evE Γ C e) fun y => popIM x y
def k_pI2 (Γ : Fns) (C : List D) (e : CE) (x : EV) : EV → M EV := fun _ => bnd (evE Γ C e) fun y => popIM x y
theorem x_popI {a e : CE} : evE Γ C (.popI a e) ρ = bR (evE Γ C a ρ) (k_pI Γ C e) := by rw [evE, bnd_bR]; rfl
theorem k_pI_ {e : CE} {x : EV} : k_pI Γ C e x ρ = bR (locM x ρ) (k_pI2 Γ C e x) := by unfold k_pI; rw [bnd_bR]; rfl
theorem k_pI2_ {e : CE} {x z : EV} : k_pI2 Γ C e x z ρ = bR (evE Γ C e ρ) (popIM x) := by unfold k_pI2; rw [bnd_bR]
def k_ext (Γ : Fns) (C : List D) (e : CE) : EV → M EV := fun x => bnd (locM x) fun _ => bnd (evE Γ C e) fun y => extM x y
def k_ext2 (Γ : Fns) (C : List D) (e : CE) (x : EV) : EV → M EV := fun _ => bnd (evE Γ C e) fun y => extM x y
theorem x_ext {a e : CE} : evE Γ C (.ext a e) ρ = bR (evE Γ C a ρ) (k_ext Γ C e) := by rw [evE, bnd_bR]; rfl
theorem k_ext_ {e : CE} {x : EV} : k_ext Γ C e x ρ = bR (locM x ρ) (k_ext2 Γ C e x) := by unfold k_ext; rw [bnd_bR]; rfl
theorem k_ext2_ {e : CE} {x z : EV} : k_ext2 Γ C e x z ρ = bR (evE Γ C e ρ) (extM x) := by unfold k_ext2; rw [bnd_bR]
def exmR (i : Nat) (es : List D) (ρ : Ev) : Option Sl → R EV
  | some (.own p false ds) => if ds.length + es.length ≤ line then .ok (.val .none) (ρ.set i (.own p false (ds ++ es))) else .bad
  | _ => .bad
theorem m_ext {i : Nat} {es : List D} : extM (.loc i) (.fresh es) ρ = exmR i es ρ ρ[i]? := by
  unfold extM exmR
  dsimp only
  all_goals generalize ρ[i]? = o
  all_goals rcases o with _ | s
  all_goals first
    | rfl
    | (cases s <;> first
        | rfl
        | (rename_i p l ds
           cases l <;> rfl))
theorem exmR_own {i : Nat} {es ds : List D} {p : Bool} (h : ds.length + es.length ≤ line) : exmR i es ρ (some (.own p false ds)) = .ok (.val .none) (ρ.set i (.own p false (ds ++ es))) := if_pos h
theorem w_rng3 {es : CEs} : evI Γ C (.rng3 es) ρ = bR (evEs Γ C es ρ) rng3M := by rw [evI, bnd_bR]
def agN (ts : List (Nat ⊕ List Nat)) (ρ : Ev) : Option D → SR
  | some d => puR (asgD ρ (.np ts) d)
  | none => .bad
def k_asN (ts : List (Nat ⊕ List Nat)) : EV → Ev → SR := fun x ρ => agN ts ρ (peek ρ x)
theorem s_asgN_ {ts : List (Nat ⊕ List Nat)} {e : CE} : evS Γ C (.asgN ts e) ρ = eR (evE Γ C e ρ) (k_asN ts) := by
  rw [evS, sE_eR, bnd_bR]
  cases evE Γ C e ρ with
  | bad => rfl
  | exc c ρ => rfl
  | ok x ρ1 =>
    show eR (peekM x ρ1) _ = k_asN ts x ρ1
    unfold peekM k_asN agN puR
    cases peek ρ1 x with
    | none => rfl
    | some d =>
      show (match asgD ρ1 (.np ts) d with | some ρ' => SR.nx ρ' | none => .bad) = _
      dsimp only
theorem k_asN_ {ts : List (Nat ⊕ List Nat)} {x : EV} : k_asN ts x ρ = agN ts ρ (peek ρ x) := rfl
theorem agN_t {ts : List (Nat ⊕ List Nat)} {ds : List D} : agN ts ρ (some (.tuple ds)) = puR (setNN ρ ts ds) := rfl
theorem agN_l {ts : List (Nat ⊕ List Nat)} {ds : List D} : agN ts ρ (some (.list ds)) = puR (setNN ρ ts ds) := rfl
theorem ad_nt {ts : List (Nat ⊕ List Nat)} {ds : List D} : asgD ρ (.np ts) (.tuple ds) = setNN ρ ts ds := rfl
theorem ad_nl {ts : List (Nat ⊕ List Nat)} {ds : List D} : asgD ρ (.np ts) (.list ds) = setNN ρ ts ds := rfl
def snnR (ts : List (Nat ⊕ List Nat)) (ds : List D) : Option Ev → Option Ev
  | some ρ' => setNN ρ' ts ds
  | none => none
theorem nn_nil : setNN ρ [] [] = some ρ := rfl
theorem nn_l {i : Nat} {ts : List (Nat ⊕ List Nat)} {d : D} {ds : List D} : setNN ρ (.inl i :: ts) (d :: ds) = snnR ts ds (setN ρ [i] [d]) := by
  rw [setNN]
  cases setN ρ [i] [d] <;> rfl
theorem nn_r {is : List Nat} {ts : List (Nat ⊕ List Nat)} {es ds : List D} : setNN ρ (.inr is :: ts) (.tuple es :: ds) = snnR ts ds (setN ρ is es) := by
  rw [setNN]
  cases setN ρ is es <;> rfl
theorem snnR_s {ts : List (Nat ⊕ List Nat)} {ds : List D} : snnR ts ds (some ρ) = setNN ρ ts ds := rfl
theorem nv_nil : npVars [] = [] := rfl
theorem nv_l {i : Nat} {ts : List (Nat ⊕ List Nat)} : npVars (.inl i :: ts) = i :: npVars ts := rfl
theorem nv_r {is : List Nat} {ts : List (Nat ⊕ List Nat)} : npVars (.inr is :: ts) = is ++ npVars ts := rfl
/-- i, i - 1, .., j + 1 -/
def rgD (i j : Int) : List Int := (List.range (i - j).toNat).map fun (k : Nat) => i - (k : Int)
theorem rg_3m {i j : Int} (h1 : -1000000000 ≤ j) (h2 : j < 1000000000) (h3 : -1000000000 ≤ i) (h4 : i < 1000000000) : rng3M [.val (.int i), .val (.int j), .val (.int (-1))] ρ = .ok (.val .none, (rgD i j).map .int) ρ := by
  have sz : Builtin.Range.rangeSize i j (-1) = ((i - j).toNat : Int) := by
    unfold Builtin.Range.rangeSize
    rw [if_neg (by decide)]
    split
    · rw [show - -1 = (1 : Int) by decide, Int.ediv_one]; omega
    · omega
  have fl : ∀ x : Int, -3000000000 ≤ x → x ≤ 3000000000 → Builtin.Range.rangeFitsLong x = true := fun x h1 h2 => by
    unfold Builtin.Range.rangeFitsLong
    simp
    omega
  have sm : Builtin.Range.small i j (-1) = true := by
    unfold Builtin.Range.small
    rw [sz]
    rw [fl i (by omega) (by omega), fl j (by omega) (by omega), fl (-1) (by decide) (by decide), fl _ (by omega) (by omega)]
    rw [if_neg (by decide), fl (j + (-1 + 1)) (by omega) (by omega)]
    simp
  have e : range3D [.int i, .int j, .int (-1)] = some (rgD i j) := by
    show (if _ then _ else _) = _
    have b1 : big i = true := by unfold big; rw [Bool.and_eq_true]; exact ⟨decide_eq_true (by omega), decide_eq_true (by omega)⟩
    have b2 : big j = true := by unfold big; rw [Bool.and_eq_true]; exact ⟨decide_eq_true (by omega), decide_eq_true (by omega)⟩
    rw [b1, b2, sm, sz, if_pos (by simp; omega)]
    unfold rgD
    congr 1
    rw [Int.toNat_natCast]
    apply List.map_congr_left
    intro k _
    omega
  show (match range3D [.int i, .int j, .int (-1)] with | some ns => R.ok (EV.val PyData.none, ns.map PyData.int) ρ | none => R.bad) = _
  rw [e]
/-! ### defs -/
def oO (r : EV) : Option (List Sl) → FR
  | some as => .ok r as
  | none => .bad
def oX (c : Nat) : Option (List Sl) → FR
  | some as => .exc c as
  | none => .bad
def reR (as : List Sl) : SR → FR
  | .nx ρ => oO (.val .none) (outs as ρ)
  | .rt (.val d) ρ => oO (.val d) (outs as ρ)
  | .rt (.fresh ds) ρ => oO (.fresh ds) (outs as ρ)
  | .rt (.loc i) ρ => match ρ[i]? with
    | some (.own false false ds) => oO (.fresh ds) (outs as ρ)
    | _ => .bad
  | .ex c ρ => oX c (outs as ρ)
  | _ => .bad
theorem run_re {np ns : Nat} {b : CSs} {as : List Sl} (h : as.length = np) (h2 : np ≤ ns) : runF Γ C ⟨np, ns, b⟩ as = reR as (evB Γ C b (as ++ List.replicate (ns - np) .no)) := by
  unfold runF
  rw [if_pos ⟨h, h2⟩]
  unfold reR oO oX
  simp only []
  cases evB Γ C b (as ++ List.replicate (ns - np) .no) with
  | rt v ρ =>
    cases v with
    | loc i =>
      simp only []
      all_goals cases ρ[i]? with
      | none => rfl
      | some s =>
        cases s with
        | own p l ds => cases p <;> cases l <;> rfl
        | _ => rfl
    | _ => rfl
  | _ => rfl
theorem re_nx {as : List Sl} : reR as (.nx ρ) = oO (.val .none) (outs as ρ) := rfl
theorem re_v {as : List Sl} {d : D} : reR as (.rt (.val d) ρ) = oO (.val d) (outs as ρ) := rfl
theorem re_f {as : List Sl} {d : List D} : reR as (.rt (.fresh d) ρ) = oO (.fresh d) (outs as ρ) := rfl
theorem re_l {as : List Sl} {i : Nat} {d : List D} (h : ρ[i]? = some (.own false false d)) : reR as (.rt (.loc i) ρ) = oO (.fresh d) (outs as ρ) := by
  show (match ρ[i]? with | some (.own false false ds) => oO (.fresh ds) (outs as ρ) | _ => .bad) = _
  rw [h]
theorem re_ex {as : List Sl} {c : Nat} : reR as (.ex c ρ) = oX c (outs as ρ) := rfl
theorem oO_s {r : EV} {as : List Sl} : oO r (some as) = .ok r as := rfl
theorem oX_s {r : Nat} {as : List Sl} : oX r (some as) = .exc r as := rfl
def ouR (a : Sl) : Option (List Sl) → Option (List Sl)
  | some as => some (a :: as)
  | none => none
theorem ouR_s {a : Sl} {as : List Sl} : ouR a (some as) = some (a :: as) := rfl
theorem ou_nil : outs [] ρ = some [] := rfl
theorem ou_val {d : D} {as : List Sl} {b : Sl} {r : List Sl} : outs (.val d :: as) (b :: r) = ouR (.val d) (outs as r) := by
  show (outs as r).map _ = _
  cases outs as r <;> rfl
theorem ou_err {d : Nat} {as : List Sl} {b : Sl} {r : List Sl} : outs (.err d :: as) (b :: r) = ouR (.err d) (outs as r) := by
  show (outs as r).map _ = _
  cases outs as r <;> rfl
theorem ou_own {p l : Bool} {d0 d : List D} {as r : List Sl} : outs (.own p l d0 :: as) (.own true false d :: r) = ouR (.own true false d) (outs as r) := by
  show (outs as r).map _ = _
  cases outs as r <;> rfl
theorem fn_at {T : List Fd} {j np ns : Nat} {b : CSs} (hj : T[j]? = some ⟨np, ns, b⟩) (h2 : np ≤ ns) (n : Nat) {as : List Sl} (h : as.length = np) : fns T C (n + 1) j as = reR as (evB (fns T C n) C b (as ++ List.replicate (ns - np) .no)) := by
  show (match T[j]? with | some fd => runF (fns T C n) C fd as | none => .bad) = _
  rw [hj]
  exact run_re h h2
theorem ty_int_none : isTyD .int (.none) = false := rfl
theorem ty_int_int {x : Int} : isTyD .int (.int x) = true := rfl
theorem ty_int_bool {x : Bool} : isTyD .int (.bool x) = true := rfl
theorem ty_int_str {x : Str} : isTyD .int (.str x) = false := rfl
theorem ty_int_tuple {x : List D} : isTyD .int (.tuple x) = false := rfl
theorem ty_int_list {x : List D} : isTyD .int (.list x) = false := rfl
theorem ty_bool_none : isTyD .bool (.none) = false := rfl
theorem ty_bool_int {x : Int} : isTyD .bool (.int x) = false := rfl
theorem ty_bool_bool {x : Bool} : isTyD .bool (.bool x) = true := rfl
theorem ty_bool_str {x : Str} : isTyD .bool (.str x) = false := rfl
theorem ty_bool_tuple {x : List D} : isTyD .bool (.tuple x) = false := rfl
theorem ty_bool_list {x : List D} : isTyD .bool (.list x) = false := rfl
theorem ty_str_none : isTyD .str (.none) = false := rfl
theorem ty_str_int {x : Int} : isTyD .str (.int x) = false := rfl
theorem ty_str_bool {x : Bool} : isTyD .str (.bool x) = false := rfl
theorem ty_str_str {x : Str} : isTyD .str (.str x) = true := rfl
theorem ty_str_tuple {x : List D} : isTyD .str (.tuple x) = false := rfl
theorem ty_str_list {x : List D} : isTyD .str (.list x) = false := rfl
theorem ty_tuple_none : isTyD .tuple (.none) = false := rfl
theorem ty_tuple_int {x : Int} : isTyD .tuple (.int x) = false := rfl
theorem ty_tuple_bool {x : Bool} : isTyD .tuple (.bool x) = false := rfl
theorem ty_tuple_str {x : Str} : isTyD .tuple (.str x) = false := rfl
theorem ty_tuple_tuple {x : List D} : isTyD .tuple (.tuple x) = true := rfl
theorem ty_tuple_list {x : List D} : isTyD .tuple (.list x) = false := rfl
theorem ty_list_none : isTyD .list (.none) = false := rfl
theorem ty_list_int {x : Int} : isTyD .list (.int x) = false := rfl
theorem ty_list_bool {x : Bool} : isTyD .list (.bool x) = false := rfl
theorem ty_list_str {x : Str} : isTyD .list (.str x) = false := rfl
theorem ty_list_tuple {x : List D} : isTyD .list (.tuple x) = false := rfl
theorem ty_list_list {x : List D} : isTyD .list (.list x) = true := rfl
theorem ty_dict_none : isTyD .dict (.none) = false := rfl
theorem ty_dict_int {x : Int} : isTyD .dict (.int x) = false := rfl
theorem ty_dict_bool {x : Bool} : isTyD .dict (.bool x) = false := rfl
theorem ty_dict_str {x : Str} : isTyD .dict (.str x) = false := rfl
theorem ty_dict_tuple {x : List D} : isTyD .dict (.tuple x) = false := rfl
theorem ty_dict_list {x : List D} : isTyD .dict (.list x) = false := rfl
end
end Den
set_option autoImplicit false
set_option maxRecDepth 100000
set_option maxHeartbeats 4000000
/-! Den, part V2: the machine at loops and comprehensions over lists that lie open. -/
namespace Den
open PySem
section
variable {α β : Type} {Γ : Fns} {C : List D} {ρ ρ' : Ev}
def flR (tg : Tg) (b : Ev → SR) (ds : List D) : SR → SR
  | .nx ρ2 => forL tg b ds ρ2
  | .ct ρ2 => forL tg b ds ρ2
  | .bk ρ2 => .nx ρ2
  | r => r
def flA (tg : Tg) (b : Ev → SR) (ds : List D) : Option Ev → SR
  | some ρ1 => flR tg b ds (b ρ1)
  | none => .bad
theorem fl_nil {tg : Tg} {b : Ev → SR} : forL tg b [] ρ = .nx ρ := rfl
theorem fl_cons {tg : Tg} {b : Ev → SR} {d : D} {ds : List D} : forL tg b (d :: ds) ρ = flA tg b ds (asgD ρ tg d) := by
  unfold flA flR
  rw [forL]
  cases asgD ρ tg d with
  | none => rfl
  | some ρ1 => simp only [] <;> (cases b ρ1 <;> rfl)
theorem flA_s {tg : Tg} {b : Ev → SR} {ds : List D} : flA tg b ds (some ρ) = flR tg b ds (b ρ) := rfl
theorem flR_nx {tg : Tg} {b : Ev → SR} {ds : List D} : flR tg b ds (.nx ρ) = forL tg b ds ρ := rfl
theorem flR_ct {tg : Tg} {b : Ev → SR} {ds : List D} : flR tg b ds (.ct ρ) = forL tg b ds ρ := rfl
theorem flR_bk {tg : Tg} {b : Ev → SR} {ds : List D} : flR tg b ds (.bk ρ) = .nx ρ := rfl
theorem flR_rt {tg : Tg} {b : Ev → SR} {ds : List D} {v : EV} : flR tg b ds (.rt v ρ) = .rt v ρ := rfl
theorem flR_ex {tg : Tg} {b : Ev → SR} {ds : List D} {v : Nat} : flR tg b ds (.ex v ρ) = .ex v ρ := rfl
/-! loops over a list of one's own -/
def foLk (tg : Tg) (b : Ev → SR) (i : Nat) (ds : List D) (ρ : Ev) : Option Sl → SR
  | some (.own p false d0) => finR (.loc i) (forL tg b ds (ρ.set i (.own p true d0)))
  | _ => .bad
theorem k_for_l {tg : Tg} {b : CSs} {i : Nat} {ds : List D} : k_for Γ C tg b (.loc i, ds) ρ = foLk tg (evB Γ C b) i ds ρ ρ[i]? := by
  unfold k_for lock foLk
  dsimp only
  cases ρ[i]? with
  | none => rfl
  | some s =>
    cases s with
    | own p l d => cases l <;> rfl
    | _ => rfl
theorem foLk_o {tg : Tg} {b : Ev → SR} {i : Nat} {p : Bool} {ds d0 : List D} : foLk tg b i ds ρ (some (.own p false d0)) = finR (.loc i) (forL tg b ds (ρ.set i (.own p true d0))) := rfl
def unLk (f : Ev → SR) (i : Nat) (ρ : Ev) : Option Sl → SR
  | some (.own p true ds) => f (ρ.set i (.own p false ds))
  | _ => .bad
theorem unL_ {f : Ev → SR} {i : Nat} : unlockR (.loc i) f ρ = unLk f i ρ ρ[i]? := by
  unfold unlockR unLk
  dsimp only
  all_goals cases ρ[i]? with
  | none => rfl
  | some s =>
    cases s with
    | own p l d => cases l <;> rfl
    | _ => rfl
theorem unLk_o {f : Ev → SR} {i : Nat} {p : Bool} {ds : List D} : unLk f i ρ (some (.own p true ds)) = f (ρ.set i (.own p false ds)) := rfl
theorem finL_nx {i : Nat} : finR (.loc i) (.nx ρ) = unLk .nx i ρ ρ[i]? := unL_
theorem finL_rt {i : Nat} {w : EV} : finR (.loc i) (.rt w ρ) = unLk (.rt w) i ρ ρ[i]? := unL_
theorem finL_ex {i c : Nat} : finR (.loc i) (.ex c ρ) = unLk (.ex c) i ρ ρ[i]? := unL_
/-! comprehensions -/
def lcU (v : EV) : Option Ev → List D → R EV
  | some ρ3, ys => .ok (.fresh ys) ρ3
  | none, _ => .bad
def lcE (ρ : Ev) (vs : List Nat) (v : EV) : R (List D) → R EV
  | .ok ys ρ2 => lcU v (unlockE v (restore ρ ρ2 vs)) ys
  | _ => .bad
def lcP (tg : Tg) (tst : M Bool) (elt : M D) (v : EV) (ds : List D) (ρ : Ev) : Bool → R EV
  | true => match lock ρ v with
    | some ρ1 => lcE ρ tg.vars v (compL tg.vars tg tst elt ds (wipes ρ1 tg.vars))
    | none => .bad
  | false => .bad
theorem lc_m {tg : Tg} {tst : M Bool} {elt : M D} {v : EV} {ds : List D} : lcM tg tst elt (v, ds) ρ = lcP tg tst elt v ds ρ (plainAt ρ tg.vars) := by
  unfold lcM lcP
  cases plainAt ρ tg.vars with
  | false => rfl
  | true =>
    rw [if_pos rfl]
    simp only []
    cases lock ρ v with
    | none => rfl
    | some ρ1 =>
      simp only []
      unfold lcE lcU
      cases compL tg.vars tg tst elt ds (wipes ρ1 tg.vars) with
      | ok ys ρ2 => simp only []; cases unlockE v (restore ρ ρ2 tg.vars) <;> rfl
      | _ => rfl
theorem lcP_v {tg : Tg} {tst : M Bool} {elt : M D} {d : D} {ds : List D} : lcP tg tst elt (.val d) ds ρ true = lcE ρ tg.vars (.val d) (compL tg.vars tg tst elt ds (wipes ρ tg.vars)) := rfl
theorem lcE_ok {vs : List Nat} {d : D} {ys : List D} : lcE ρ vs (.val d) (.ok ys ρ') = .ok (.fresh ys) (restore ρ ρ' vs) := rfl
def clY (y : D) : R (List D) → R (List D)
  | .ok ys ρ4 => if ys.length < line then .ok (y :: ys) ρ4 else .bad
  | _ => .bad
def clE (vs : List Nat) (tg : Tg) (tst : M Bool) (elt : M D) (ds : List D) : R D → R (List D)
  | .ok y ρ3 => clY y (compL vs tg tst elt ds ρ3)
  | _ => .bad
def clT (vs : List Nat) (tg : Tg) (tst : M Bool) (elt : M D) (ds : List D) : R Bool → R (List D)
  | .ok t ρ2 => if t = true then clE vs tg tst elt ds (elt ρ2) else compL vs tg tst elt ds ρ2
  | _ => .bad
def clA (vs : List Nat) (tg : Tg) (tst : M Bool) (elt : M D) (ds : List D) : Option Ev → R (List D)
  | some ρ1 => clT vs tg tst elt ds (tst ρ1)
  | none => .bad
theorem cl_nil {vs : List Nat} {tg : Tg} {tst : M Bool} {elt : M D} : compL vs tg tst elt [] ρ = .ok [] ρ := rfl
theorem cl_cons {vs : List Nat} {tg : Tg} {tst : M Bool} {elt : M D} {d : D} {ds : List D} : compL vs tg tst elt (d :: ds) ρ = clA vs tg tst elt ds (asgD (wipes ρ vs) tg d) := by
  unfold clA clT clE clY
  rw [compL]
  cases asgD (wipes ρ vs) tg d with
  | none => rfl
  | some ρ1 =>
    simp only []
    cases tst ρ1 with
    | ok t ρ2 =>
      cases t with
      | false => rfl
      | true =>
        simp only [↓reduceIte]
        all_goals cases elt ρ2 with
        | ok y ρ3 => simp only []; cases compL vs tg tst elt ds ρ3 <;> rfl
        | _ => rfl
    | _ => rfl
theorem clA_s {vs : List Nat} {tg : Tg} {tst : M Bool} {elt : M D} {ds : List D} : clA vs tg tst elt ds (some ρ) = clT vs tg tst elt ds (tst ρ) := rfl
theorem clT_ok {vs : List Nat} {tg : Tg} {tst : M Bool} {elt : M D} {ds : List D} {t : Bool} : clT vs tg tst elt ds (.ok t ρ) = if t = true then clE vs tg tst elt ds (elt ρ) else compL vs tg tst elt ds ρ := rfl
theorem clE_ok {vs : List Nat} {tg : Tg} {tst : M Bool} {elt : M D} {ds : List D} {y : D} : clE vs tg tst elt ds (.ok y ρ) = clY y (compL vs tg tst elt ds ρ) := rfl
theorem clY_ok {y : D} {ys : List D} (h : ys.length < line) : clY y (.ok ys ρ) = .ok (y :: ys) ρ := if_pos h
/-! over a list of one's own -/
def lcLk (tg : Tg) (tst : M Bool) (elt : M D) (i : Nat) (ds : List D) (ρ : Ev) : Option Sl → R EV
  | some (.own p false d0) => lcE ρ tg.vars (.loc i) (compL tg.vars tg tst elt ds (wipes (ρ.set i (.own p true d0)) tg.vars))
  | _ => .bad
theorem lcP_l {tg : Tg} {tst : M Bool} {elt : M D} {i : Nat} {ds : List D} : lcP tg tst elt (.loc i) ds ρ true = lcLk tg tst elt i ds ρ ρ[i]? := by
  unfold lcP lcLk lock
  dsimp only
  cases ρ[i]? with
  | none => rfl
  | some s =>
    cases s with
    | own p l d => cases l <;> rfl
    | _ => rfl
theorem lcLk_o {tg : Tg} {tst : M Bool} {elt : M D} {i : Nat} {ds d0 : List D} {p : Bool} : lcLk tg tst elt i ds ρ (some (.own p false d0)) = lcE ρ tg.vars (.loc i) (compL tg.vars tg tst elt ds (wipes (ρ.set i (.own p true d0)) tg.vars)) := rfl
def lcUk (ys : List D) (i : Nat) (ρ : Ev) : Option Sl → R EV
  | some (.own p true ds) => .ok (.fresh ys) (ρ.set i (.own p false ds))
  | _ => .bad
theorem lcE_l {vs : List Nat} {i : Nat} {ys : List D} : lcE ρ vs (.loc i) (.ok ys ρ') = lcUk ys i (restore ρ ρ' vs) (restore ρ ρ' vs)[i]? := by
  unfold lcE lcU lcUk unlockE
  dsimp only
  cases (restore ρ ρ' vs)[i]? with
  | none => rfl
  | some s =>
    cases s with
    | own p l d => cases l <;> rfl
    | _ => rfl
theorem lcUk_o {ys : List D} {i : Nat} {p : Bool} {ds : List D} : lcUk ys i ρ (some (.own p true ds)) = .ok (.fresh ys) (ρ.set i (.own p false ds)) := rfl
/-! all and any -/
def gxE (ρ : Ev) (vs : List Nat) (v : EV) : R Bool → R EV
  | .ok y ρ2 => match unlockE v (restore ρ ρ2 vs) with
    | some ρ3 => .ok (.val (.bool y)) ρ3
    | none => .bad
  | _ => .bad
def gxP (b : GB) (tg : Tg) (tst : M Bool) (elt : M Bool) (v : EV) (ds : List D) (ρ : Ev) : Bool → R EV
  | true => match lock ρ v with
    | some ρ1 => gxE ρ tg.vars v (gxL b tg.vars tg tst elt ds (wipes ρ1 tg.vars))
    | none => .bad
  | false => .bad
theorem gx_m {b : GB} {tg : Tg} {tst : M Bool} {elt : M Bool} {v : EV} {ds : List D} : gxM b tg tst elt (v, ds) ρ = gxP b tg tst elt v ds ρ (plainAt ρ tg.vars) := by
  unfold gxM gxP
  cases plainAt ρ tg.vars with
  | false => rfl
  | true =>
    rw [if_pos rfl]
    simp only []
    cases lock ρ v with
    | none => rfl
    | some ρ1 =>
      simp only []
      unfold gxE
      cases gxL b tg.vars tg tst elt ds (wipes ρ1 tg.vars) with
      | ok ys ρ2 => simp only [] <;> (cases unlockE v (restore ρ ρ2 tg.vars) <;> rfl)
      | _ => rfl
theorem gxP_v {b : GB} {tg : Tg} {tst : M Bool} {elt : M Bool} {d : D} {ds : List D} : gxP b tg tst elt (.val d) ds ρ true = gxE ρ tg.vars (.val d) (gxL b tg.vars tg tst elt ds (wipes ρ tg.vars)) := rfl
theorem gxE_ok {vs : List Nat} {d : D} {y : Bool} : gxE ρ vs (.val d) (.ok y ρ') = .ok (.val (.bool y)) (restore ρ ρ' vs) := rfl
def glE (b : GB) (vs : List Nat) (tg : Tg) (tst : M Bool) (elt : M Bool) (ds : List D) : R Bool → R Bool
  | .ok y ρ3 => if y = b.stop then .ok y ρ3 else gxL b vs tg tst elt ds ρ3
  | _ => .bad
def glT (b : GB) (vs : List Nat) (tg : Tg) (tst : M Bool) (elt : M Bool) (ds : List D) : R Bool → R Bool
  | .ok t ρ2 => if t = true then glE b vs tg tst elt ds (elt ρ2) else gxL b vs tg tst elt ds ρ2
  | _ => .bad
def glA (b : GB) (vs : List Nat) (tg : Tg) (tst : M Bool) (elt : M Bool) (ds : List D) : Option Ev → R Bool
  | some ρ1 => glT b vs tg tst elt ds (tst ρ1)
  | none => .bad
theorem gl_nil {b : GB} {vs : List Nat} {tg : Tg} {tst : M Bool} {elt : M Bool} : gxL b vs tg tst elt [] ρ = .ok (!b.stop) ρ := rfl
theorem gl_cons {b : GB} {vs : List Nat} {tg : Tg} {tst : M Bool} {elt : M Bool} {d : D} {ds : List D} : gxL b vs tg tst elt (d :: ds) ρ = glA b vs tg tst elt ds (asgD (wipes ρ vs) tg d) := by
  unfold glA glT glE
  rw [gxL]
  cases asgD (wipes ρ vs) tg d with
  | none => rfl
  | some ρ1 =>
    simp only []
    cases tst ρ1 with
    | ok t ρ2 =>
      cases t with
      | false => rfl
      | true =>
        simp only [↓reduceIte]
        all_goals cases elt ρ2 <;> rfl
    | _ => rfl
theorem glA_s {b : GB} {vs : List Nat} {tg : Tg} {tst : M Bool} {elt : M Bool} {ds : List D} : glA b vs tg tst elt ds (some ρ) = glT b vs tg tst elt ds (tst ρ) := rfl
theorem glT_ok {b : GB} {vs : List Nat} {tg : Tg} {tst : M Bool} {elt : M Bool} {ds : List D} {t : Bool} : glT b vs tg tst elt ds (.ok t ρ) = if t = true then glE b vs tg tst elt ds (elt ρ) else gxL b vs tg tst elt ds ρ := rfl
theorem glE_all {vs : List Nat} {tg : Tg} {tst : M Bool} {elt : M Bool} {ds : List D} {y : Bool} : glE .all vs tg tst elt ds (.ok y ρ) = if y = true then gxL .all vs tg tst elt ds ρ else .ok false ρ := by cases y <;> rfl
theorem glE_any {vs : List Nat} {tg : Tg} {tst : M Bool} {elt : M Bool} {ds : List D} {y : Bool} : glE .any vs tg tst elt ds (.ok y ρ) = if y = true then .ok true ρ else gxL .any vs tg tst elt ds ρ := by cases y <;> rfl
theorem stop_all : GB.all.stop = false := rfl
theorem stop_any : GB.any.stop = true := rfl
theorem e_nl : cmpD .ne (.list []) (.list []) = some false := by rw [c_ne (by decide)]; rfl
theorem e_nt : cmpD .ne (.tuple []) (.tuple []) = some false := by rw [c_ne (by decide)]; rfl
theorem e_ql : cmpD .eq (.list []) (.list []) = some true := by rw [c_eq (by decide)]; rfl
theorem e_qt : cmpD .eq (.tuple []) (.tuple []) = some true := by rw [c_eq (by decide)]; rfl
theorem e_nlc {x : D} {xs : List D} : cmpD .ne (.list (x :: xs)) (.list []) = some true := by rw [c_ne (by unfold eqOk; rw [Bool.or_eq_true]; right; rfl)]; simp [PyData.eqv, PyData.eqvAll]
theorem e_ntc {x : D} {xs : List D} : cmpD .ne (.tuple (x :: xs)) (.tuple []) = some true := by rw [c_ne (by unfold eqOk; rw [Bool.or_eq_true]; right; rfl)]; simp [PyData.eqv, PyData.eqvAll]
theorem e_qlc {x : D} {xs : List D} : cmpD .eq (.list (x :: xs)) (.list []) = some false := by rw [c_eq (by unfold eqOk; rw [Bool.or_eq_true]; right; rfl)]; simp [PyData.eqv, PyData.eqvAll]
theorem e_qtc {x : D} {xs : List D} : cmpD .eq (.tuple (x :: xs)) (.tuple []) = some false := by rw [c_eq (by unfold eqOk; rw [Bool.or_eq_true]; right; rfl)]; simp [PyData.eqv, PyData.eqvAll]
theorem snR_p {i : Nat} {is : List Nat} {d : D} {ds : List D} {sl : Sl} (h : plainSl sl = true) : snR i is d ds ρ (some sl) = setN (ρ.set i (.val d)) is ds := by
  cases sl <;> first | rfl | cases h
theorem cp_pl {sl : Sl} (h : plainSl sl = true) : canPut sl = true := by
  cases sl <;> first | rfl | cases h
theorem pl_no : plainSl .no = true := rfl
theorem pl_v {d : D} : plainSl (.val d) = true := rfl
theorem x_lrg {es : CEs} : evE Γ C (.lrg es) ρ = bR (evEs Γ C es ρ) lrgM := by rw [evE, bnd_bR]
theorem x_trg {es : CEs} : evE Γ C (.trg es) ρ = bR (evEs Γ C es ρ) trgM := by rw [evE, bnd_bR]
theorem lr_2 {i j : Int} (h : j < 4611686018427387904) (h' : -4611686018427387904 ≤ j) (h2 : i < 4611686018427387904) (h2' : -4611686018427387904 ≤ i) (hl : (j - i).toNat ≤ line) : lrgM [.val (.int i), .val (.int j)] ρ = .ok (.fresh ((rgI i j).map .int)) ρ := by
  have b : big j = true := by unfold big; rw [Bool.and_eq_true]; exact ⟨decide_eq_true h', decide_eq_true h⟩
  have b2 : big i = true := by unfold big; rw [Bool.and_eq_true]; exact ⟨decide_eq_true h2', decide_eq_true h2⟩
  show (match rangeD [.int i, .int j] with | some ns => if ns.length ≤ line then R.ok (EV.fresh (ns.map PyData.int)) ρ else R.bad | none => R.bad) = _
  have e : rangeD [.int i, .int j] = some (rgI i j) := by
    show (if (big i && big j) = true then _ else _) = _
    rw [b, b2]
    rfl
  rw [e]
  exact if_pos (by unfold rgI; rw [List.length_map, List.length_range]; exact hl)
theorem at_l2 {α : Type} {x y : α} : L2.atI [x, y] (-1) = some y := rfl
theorem at_l1 {α : Type} {x : α} : L2.atI [x] (-1) = some x := rfl
theorem pm_v {d : D} : peekM (.val d) ρ = .ok d ρ := rfl
theorem pm_f {ds : List D} : peekM (.fresh ds) ρ = .ok (.list ds) ρ := rfl
def stJ (i : Nat) (d : D) (p : Bool) (ds : List D) (ρ : Ev) : Option Nat → SR
  | some j => .nx (ρ.set i (.own p false (ds.set j d)))
  | none => .bad
def stR (i : Nat) (n : Int) (d : D) (ρ : Ev) : Option Sl → SR
  | some (.own p false ds) => stJ i d p ds ρ (L2.ixN ds.length n)
  | _ => .bad
def k_st3 (d : D) (x : EV) : D → Ev → SR := fun k ρ => match x, k with
  | .loc i, .int n => match ρ[i]? with
    | some (.own p false ds) => match L2.ixN ds.length n with
      | some j => .nx (ρ.set i (.own p false (ds.set j d)))
      | none => .bad
    | _ => .bad
  | _, _ => .bad
def k_st2 (Γ : Fns) (C : List D) (ix : CE) (d : D) : EV → Ev → SR := fun x => sE (bnd (evE Γ C ix) peekM) (k_st3 d x)
def k_st (Γ : Fns) (C : List D) (a ix : CE) : D → Ev → SR := fun d => sE (evE Γ C a) (k_st2 Γ C ix d)
theorem s_sto_ {a ix e : CE} : evS Γ C (.sto a ix e) ρ = eR (bR (evE Γ C e ρ) coe) (k_st Γ C a ix) := by rw [evS, sE_eR, bnd_bR]; rfl
theorem k_st_ {a ix : CE} {d : D} : k_st Γ C a ix d ρ = eR (evE Γ C a ρ) (k_st2 Γ C ix d) := by unfold k_st; rw [sE_eR]
theorem k_st2_ {ix : CE} {d : D} {x : EV} : k_st2 Γ C ix d x ρ = eR (bR (evE Γ C ix ρ) peekM) (k_st3 d x) := by unfold k_st2; rw [sE_eR, bnd_bR]
theorem k_st3_ {d : D} {i : Nat} {n : Int} : k_st3 d (.loc i) (.int n) ρ = stR i n d ρ ρ[i]? := by
  unfold k_st3 stR stJ
  dsimp only
  all_goals generalize ρ[i]? = o
  all_goals rcases o with _ | s
  all_goals first
    | rfl
    | (cases s <;> first
        | rfl
        | (rename_i p l ds
           cases l <;> first
            | rfl
            | (generalize L2.ixN ds.length n = q; cases q <;> rfl)))
theorem stR_own {i : Nat} {n : Int} {d : D} {p : Bool} {ds : List D} : stR i n d ρ (some (.own p false ds)) = stJ i d p ds ρ (L2.ixN ds.length n) := rfl
theorem stJ_s {i j : Nat} {d : D} {p : Bool} {ds : List D} : stJ i d p ds ρ (some j) = .nx (ρ.set i (.own p false (ds.set j d))) := rfl
theorem ixN_20 : L2.ixN 2 0 = some 0 := rfl
theorem ixN_21 : L2.ixN 2 1 = some 1 := rfl
/-! wipes, restore, plainAt on open states -/
theorem wp_nil : wipes ρ [] = ρ := rfl
theorem wp_cons {i : Nat} {is : List Nat} : wipes ρ (i :: is) = (wipes ρ is).set i .no := rfl
theorem rs_nil {ρ0 : Ev} : restore ρ0 ρ [] = ρ := rfl
theorem rs_cons {ρ0 : Ev} {i : Nat} {is : List Nat} : restore ρ0 ρ (i :: is) = restore ρ0 (ρ.set i (ρ0.getD i .no)) is := rfl
theorem gd_0 {x y : Sl} {xs : List Sl} : (x :: xs).getD 0 y = x := by rfl
theorem gd_s {x y : Sl} {xs : List Sl} {n : Nat} : (x :: xs).getD (n + 1) y = xs.getD n y := by rfl
def paR : Option Sl → Bool
  | some (.own _ _ _) => false
  | some _ => true
  | none => false
theorem pa_nil : plainAt ρ [] = true := rfl
theorem pa_cons {i : Nat} {is : List Nat} : plainAt ρ (i :: is) = (paR ρ[i]? && plainAt ρ is) := by
  unfold plainAt paR
  rw [List.all_cons]
  all_goals congr 1
theorem paR_no : paR (some .no) = true := rfl
theorem paR_v {d : D} : paR (some (.val d)) = true := rfl
theorem paR_p {sl : Sl} (h : plainSl sl = true) : paR (some sl) = true := by
  cases sl <;> first | rfl | cases h
theorem paR_e {d : Nat} : paR (some (.err d)) = true := rfl
end
/-! ### comprehensions whose turns leave the state as it was -/
theorem wipes_len2 {ρ : Ev} {is : List Nat} : (wipes ρ is).length = ρ.length := by
  induction is with
  | nil => rfl
  | cons i is ih => rw [wp_cons, List.length_set, ih]
/-- each turn begins at the wiped state -/
theorem compL_gen {vs : List Nat} {tg : Tg} {tst : M Bool} {elt : M D} {ρ0 : Ev} (p : D → Bool) (g : D → D) : ∀ {ds : List D} (_ : ∀ d ∈ ds, ∃ ρ1, asgD ρ0 tg d = some ρ1 ∧ tst ρ1 = .ok (p d) ρ1 ∧ (p d = true → elt ρ1 = .ok (g d) ρ1) ∧ wipes ρ1 vs = ρ0) (_ : ds.length ≤ line) (ρ : Ev) (_ : wipes ρ vs = ρ0),
    ∃ ρ', compL vs tg tst elt ds ρ = .ok ((ds.filter p).map g) ρ' ∧ wipes ρ' vs = ρ0
  | [], _, _, ρ, hr => ⟨ρ, rfl, hr⟩
  | d :: ds, h, hl, ρ, hr => by
    obtain ⟨ρ1, h1, h2, h3, h4⟩ := h d (List.mem_cons_self ..)
    obtain ⟨ρ2, e, h5⟩ := compL_gen p g (ds := ds) (fun d hd => h d (List.mem_cons_of_mem _ hd)) (Nat.le_of_succ_le hl) ρ1 h4
    refine ⟨ρ2, ?_, h5⟩
    rw [cl_cons, hr, h1, clA_s, h2, clT_ok]
    cases hp : p d with
    | false => rw [if_neg (by decide), e, List.filter_cons_of_neg (by rw [hp]; decide)]
    | true =>
      rw [if_pos rfl, h3 hp, clE_ok, e, clY_ok, List.filter_cons_of_pos hp, List.map_cons]
      rw [List.length_map]
      exact Nat.lt_of_le_of_lt (List.length_filter_le ..) hl
theorem gxL_gen {b : GB} {vs : List Nat} {tg : Tg} {tst : M Bool} {elt : M Bool} {ρ0 : Ev} (p g : D → Bool) : ∀ {ds : List D} (_ : ∀ d ∈ ds, ∃ ρ1, asgD ρ0 tg d = some ρ1 ∧ tst ρ1 = .ok (p d) ρ1 ∧ (p d = true → elt ρ1 = .ok (g d) ρ1) ∧ wipes ρ1 vs = ρ0) (ρ : Ev) (_ : wipes ρ vs = ρ0),
    ∃ ρ', gxL b vs tg tst elt ds ρ = .ok (match b with | .all => (ds.filter p).all g | .any => (ds.filter p).any g) ρ' ∧ wipes ρ' vs = ρ0
  | [], _, ρ, hr => ⟨ρ, by cases b <;> rfl, hr⟩
  | d :: ds, h, ρ, hr => by
    obtain ⟨ρ1, h1, h2, h3, h4⟩ := h d (List.mem_cons_self ..)
    obtain ⟨ρ2, e, h5⟩ := gxL_gen (b := b) p g (ds := ds) (fun d hd => h d (List.mem_cons_of_mem _ hd)) ρ1 h4
    rw [gl_cons, hr, h1, glA_s, h2, glT_ok]
    cases hp : p d with
    | false => exact ⟨ρ2, by rw [if_neg (by decide), e, List.filter_cons_of_neg (by rw [hp]; decide)], h5⟩
    | true =>
      rw [if_pos rfl, h3 hp]
      cases b with
      | all =>
        rw [glE_all]
        cases hg : g d with
        | true => exact ⟨ρ2, by rw [if_pos rfl, e]; simp [hp, hg], h5⟩
        | false => exact ⟨ρ1, by rw [if_neg (by decide)]; simp [hp, hg], h4⟩
      | any =>
        rw [glE_any]
        cases hg : g d with
        | false => exact ⟨ρ2, by rw [if_neg (by decide), e]; simp [hp, hg], h5⟩
        | true => exact ⟨ρ1, by rw [if_pos rfl]; simp [hp, hg], h4⟩
theorem wipes_set {ρ : Ev} {i : Nat} {s : Sl} : ∀ {is : List Nat}, i ∈ is → wipes (ρ.set i s) is = wipes ρ is
  | j :: is, h => by
    rw [wp_cons, wp_cons]
    by_cases hj : i ∈ is
    · rw [wipes_set hj]
    · have e : i = j := by
        rcases List.mem_cons.mp h with z | z
        · exact z
        · exact absurd z hj
      subst e
      have : ∀ (is : List Nat), (wipes (ρ.set i s) is).set i Sl.no = (wipes ρ is).set i Sl.no := by
        intro is
        induction is with
        | nil => simp [wipes]
        | cons k is ih =>
          rw [wp_cons, wp_cons]
          by_cases e : k = i
          · subst e; rw [List.set_set, List.set_set, ih]
          · rw [List.set_comm _ _ e, List.set_comm _ _ e, ih]
      exact this is
theorem wipes_idem {ρ : Ev} : ∀ {is js : List Nat}, (∀ i ∈ is, i ∈ js) → wipes (wipes ρ is) js = wipes ρ js
  | [], _, _ => rfl
  | i :: is, js, h => by rw [wp_cons, wipes_set (h i (List.mem_cons_self ..)), wipes_idem (fun i hi => h i (List.mem_cons_of_mem _ hi))]
/-- what was wiped and is put back -/
theorem restore_of {ρ ρ' : Ev} {is : List Nat} (h : wipes ρ' is = wipes ρ is) : restore ρ ρ' is = ρ := by
  have key : ∀ (js : List Nat) (σ : Ev), σ.length = ρ.length → (∀ k, k ∉ js → σ[k]? = ρ[k]?) → restore ρ σ js = ρ := by
    intro js
    induction js with
    | nil => intro σ hl hk; exact List.ext_getElem? (fun k => hk k (by simp))
    | cons j js ih =>
      intro σ hl hk
      rw [rs_cons]
      refine ih _ (by rw [List.length_set, hl]) (fun k hkj => ?_)
      by_cases e : j = k
      · subst e
        rw [List.getElem?_set]
        split
        · split
          · next h => rw [List.getD_eq_getElem?_getD, List.getElem?_eq_getElem (by omega)]; rfl
          · next h => rw [List.getElem?_eq_none (by omega)]
        · next h => exact absurd rfl h
      · rw [List.getElem?_set_ne e]
        exact hk k (by simp; exact ⟨fun z => e z.symm, hkj⟩)
  have wget : ∀ (is : List Nat) (σ : Ev) (k : Nat), k ∉ is → (wipes σ is)[k]? = σ[k]? := by
    intro is
    induction is with
    | nil => intro σ k _; rfl
    | cons j js ih =>
      intro σ k hk
      rw [wp_cons, List.getElem?_set_ne (fun z => hk (by rw [z]; exact List.mem_cons_self ..)), ih σ k (fun z => hk (List.mem_cons_of_mem _ z))]
  refine key is ρ' ?_ (fun k hk => ?_)
  · have := congrArg List.length h
    rw [wipes_len2, wipes_len2] at this
    exact this
  · rw [← wget is ρ' k hk, h, wget is ρ k hk]
/-- a comprehension: p d, g d at each d -/
theorem lcM_gen {tg : Tg} {tst : M Bool} {elt : M D} {ρ : Ev} {d0 : D} {ds : List D} (p : D → Bool) (g : D → D) (hp : plainAt ρ tg.vars = true) (h : ∀ d ∈ ds, ∃ ρ1, asgD (wipes ρ tg.vars) tg d = some ρ1 ∧ tst ρ1 = .ok (p d) ρ1 ∧ (p d = true → elt ρ1 = .ok (g d) ρ1) ∧ wipes ρ1 tg.vars = wipes ρ tg.vars) (hl : ds.length ≤ line) :
    lcM tg tst elt (.val d0, ds) ρ = .ok (.fresh ((ds.filter p).map g)) ρ := by
  obtain ⟨ρ', e, h'⟩ := compL_gen p g h hl (wipes ρ tg.vars) (wipes_idem (fun _ z => z))
  rw [lc_m, hp, lcP_v, e, lcE_ok, restore_of h']
theorem gxM_gen {b : GB} {tg : Tg} {tst : M Bool} {elt : M Bool} {ρ : Ev} {d0 : D} {ds : List D} (p g : D → Bool) (hp : plainAt ρ tg.vars = true) (h : ∀ d ∈ ds, ∃ ρ1, asgD (wipes ρ tg.vars) tg d = some ρ1 ∧ tst ρ1 = .ok (p d) ρ1 ∧ (p d = true → elt ρ1 = .ok (g d) ρ1) ∧ wipes ρ1 tg.vars = wipes ρ tg.vars) :
    gxM b tg tst elt (.val d0, ds) ρ = .ok (.val (.bool (match b with | .all => (ds.filter p).all g | .any => (ds.filter p).any g))) ρ := by
  obtain ⟨ρ', e, h'⟩ := gxL_gen (b := b) p g h (wipes ρ tg.vars) (wipes_idem (fun _ z => z))
  rw [gx_m, hp, gxP_v, e, gxE_ok, restore_of h']
/-! ### comprehensions whose turns move the state -/
theorem compL_inv {vs : List Nat} {tg : Tg} {tst : M Bool} {elt : M D} (P : D → Prop) (I : Nat → Ev → Prop) (K : Nat) : ∀ (ds : List D) (k : Nat) (_ : k + ds.length ≤ K) (ρ : Ev), I k ρ → (∀ d ∈ ds, ∀ (k : Nat) (_ : k < K) (ρ : Ev), I k ρ → ∃ ρ1 ρ2 ρ3 y, asgD (wipes ρ vs) tg d = some ρ1 ∧ tst ρ1 = .ok true ρ2 ∧ elt ρ2 = .ok y ρ3 ∧ P y ∧ I (k + 1) ρ3) → ds.length ≤ line →
    ∃ ys ρ', compL vs tg tst elt ds ρ = .ok ys ρ' ∧ I (k + ds.length) ρ' ∧ ys.length = ds.length ∧ ∀ y ∈ ys, P y
  | [], k, _, ρ, i, _, _ => ⟨[], ρ, rfl, i, rfl, fun _ z => (by cases z)⟩
  | d :: ds, k, hK, ρ, i, h, hl => by
    rw [List.length_cons] at hK
    obtain ⟨ρ1, ρ2, ρ3, y, h1, h2, h3, h4, h5⟩ := h d (List.mem_cons_self ..) k (by omega) ρ i
    obtain ⟨ys, ρ', e, i', l', p'⟩ := compL_inv P I K ds (k + 1) (by omega) ρ3 h5 (fun d hd => h d (List.mem_cons_of_mem _ hd)) (Nat.le_of_succ_le hl)
    refine ⟨y :: ys, ρ', ?_, ?_, by rw [List.length_cons, List.length_cons, l'], ?_⟩
    · rw [cl_cons, h1, clA_s, h2, clT_ok, if_pos rfl, h3, clE_ok, e, clY_ok]
      rw [l']; exact hl
    · rw [List.length_cons]
      have : k + (ds.length + 1) = k + 1 + ds.length := by omega
      rw [this]; exact i'
    · intro z hz
      rcases List.mem_cons.mp hz with e | e
      · rw [e]; exact h4
      · exact p' z e
end Den
set_option autoImplicit false
set_option maxRecDepth 100000
set_option maxHeartbeats 4000000
/-! Den, part F1: fractions in lowest terms are the rationals. -/
local macro_rules
  | `(tactic| simp_arith [$ts,*]) => `(tactic| simp -implicitDefEqProofs only [Den.bR_ok, Den.bR_exc, Den.eR_ok, Den.eR_exc, Den.sR_nx, Den.sR_rt, Den.sR_bk, Den.sR_ct, Den.sR_ex, Den.varR_val, Den.varR_own, Den.x_var, Den.x_cst, Den.glbR_s, Den.x_glb, Den.pk_val, Den.pk_fresh, Den.pk_loc, Den.pkR_own, Den.st_val, Den.st_loc, Den.st_fresh, Den.co_val, Den.co_fresh, Den.co_loc, Den.coR_own, Den.oR_s, Den.binR_s, Den.x_bin, Den.k_bin_, Den.m_bin, Den.b_add, Den.b_addb, Den.b_sub, Den.b_mul, Den.b_fdiv, Den.b_mod, Den.b_pow, Den.b_addL, Den.b_addT, Den.b_mulT, Den.b_mulL, Den.x_neg, Den.k_neg_, Den.obR_s, Den.cmR_s, Den.x_cmp, Den.k_cmp_, Den.m_cmp, Den.x_cmp2, Den.k_cm2_, Den.k_cm3_, Den.k_cm4_, Den.c_eq_ii, Den.c_ne_ii, Den.c_lt, Den.c_gt, Den.c_le, Den.c_ge, Den.c_isN, Den.c_isnN, Den.c_isB, Den.c_isnB, Den.isN_n, Den.isN_b, Den.isN_i, Den.isN_s, Den.isN_l, Den.isN_t, Den.isB_n, Den.isB_b, Den.isB_i, Den.isB_s, Den.isB_l, Den.isB_t, Den.tOR_s, Den.tpR_s, Den.m_tru, Den.t_bool, Den.t_int, Den.t_none, Den.t_list, Den.t_tup, Den.x_nt, Den.k_nt_, Den.k_nt2_, Den.k_cv_, Den.k_cv2_, Den.x_and, Den.a_one, Den.a_cons, Den.k_and_, Den.k_and2_, Den.x_or, Den.o_one, Den.o_cons, Den.k_or_, Den.k_or2_, Den.x_ite, Den.k_ite_, Den.k_ite2_, Den.cs_nil, Den.cs_cons, Den.k_cs_, Den.k_cs2_, Den.k_cs3_, Den.x_tup, Den.x_lst, Den.k_tup_, Den.k_lst_, Den.es_nil, Den.es_cons, Den.k_es_, Den.k_es2_, Den.x_call, Den.m_call, Den.nd_0, Den.nd_1, Den.nd_2, Den.clR_s, Den.clR2_ok, Den.clR2_exc, Den.clR3_s, Den.clX3_s, Den.ao2_s, Den.ao_nil, Den.ao_cons, Den.ag_val, Den.ag_loc, Den.agR_own, Den.lo_nil, Den.lo_val, Den.lo_loc, Den.bo_nil, Den.bo_val, Den.bo_loc, Den.boR_own, Den.x_callX, Den.m_callX, Den.cxR1_e, Den.cxR_v, Den.x_isx, Den.isxR_e, Den.x_bi, Den.m_bi, Den.pks_s, Den.ps2_s, Den.ps_nil, Den.ps_cons, Den.i_lenL, Den.i_lenT, Den.i_abs, Den.i_mx, Den.i_mn, Den.i_tupL, Den.i_tupT, Den.i_lstL, Den.i_lstT, Den.i_intI, Den.i_intB, Den.i_gcd, Den.i_sumL, Den.i_sumT, Den.x_isi, Den.k_isi_, Den.isR_s, Den.x_idx, Den.k_idx_, Den.m_idx, Den.ixR_l, Den.ixR_t, Den.atR_s, Den.at_0, Den.at_1, Den.at_2, Den.at_3, Den.at_4, Den.at_last, Den.x_slc, Den.k_slc_, Den.k_slc2_, Den.o_nil, Den.o_some1, Den.k_o_, Den.m_slc, Den.slR_l, Den.slR_t, Den.x_lc, Den.x_gx, Den.bo_b, Den.ts_nil, Den.ts_cons, Den.k_ts_, Den.k_ts2_, Den.x_app, Den.k_app_, Den.k_app2_, Den.k_app3_, Den.m_loc, Den.lmR_own, Den.m_app, Den.amR_own, Den.x_pop, Den.m_pop, Den.x_rev, Den.m_rev, Den.m_revL, Den.rvR_l, Den.w_ex, Den.k_ex_, Den.exR_l, Den.exR_t, Den.w_seq, Den.seqI_l, Den.seqI_t, Den.w_rng, Den.rg_1, Den.rg_2, Den.w_enum, Den.en_l, Den.en_t, Den.en_f, Den.w_rev, Den.rv_l, Den.rv_t, Den.w_zip, Den.k_zip_, Den.zp_tt, Den.zp_ll, Den.v_nil, Den.v_cons, Den.v_frz, Den.frR_own, Den.frR_val, Den.puR_s, Den.s_asg_, Den.k_asg_, Den.sf_val, Den.sf_fresh, Den.sf_loc, Den.k_sf_, Den.pl_nil, Den.pl_cons, Den.plR_v, Den.plR_f, Den.cp_no, Den.cp_val, Den.cp_own, Den.cp_err, Den.s_par_, Den.k_par_, Den.ps_nil_, Den.ps_cons_, Den.k_ps_, Den.k_ps2_, Den.k_ps3_, Den.s_asgT_, Den.k_asT_, Den.agT_t, Den.agT_l, Den.ad_nm, Den.ad_tt, Den.ad_tl, Den.sn_nil, Den.sn_cons, Den.snR_no, Den.snR_val, Den.snR_err, Den.s_exp_, Den.k_exp_, Den.s_ret_, Den.k_ret_, Den.s_retN_, Den.s_brk_, Den.s_cnt_, Den.s_pss_, Den.s_rse_, Den.s_ife_, Den.k_ife_, Den.finV_nx, Den.finV_rt, Den.finV_ex, Den.s_for_, Den.k_for_v, Den.s_whl_, Den.s_try_, Den.ty_nx, Den.ty_rt, Den.ce_n, Den.ce_s, Den.ceB_t, Den.ceR_e, Den.ne_nil, Den.ne_no, Den.ne_v, Den.ne_o, Den.en_rt, Den.en_nx, Den.exVR_s, Den.exNR_s, Den.pe_n, Den.pe_s, Den.peR_no, Den.peR_v, Den.ty_k, Den.tyQm_t, Den.tyPm_s, Den.ct_nil, Den.ct_cons, Den.x_revs, Den.m_revs, Den.rvsR_l, Den.rvsR_t, Den.x_slcS, Den.k_slS_, Den.m_slS, Den.slsR_l, Den.x_srev, Den.m_srv, Den.srvR_l, Den.x_tupS, Den.ss_nil, Den.ss_cons, Den.k_ss_, Den.k_ss2_f, Den.k_ss2_t, Den.k_ss2_l, Den.k_ss3_, Den.x_ins, Den.k_ins_, Den.k_ins2_, Den.k_ins3_, Den.k_ins4_, Den.m_ins, Den.inR_0, Den.x_popI, Den.k_pI_, Den.k_pI2_, Den.x_ext, Den.k_ext_, Den.k_ext2_, Den.m_ext, Den.exmR_own, Den.w_rng3, Den.s_asgN_, Den.k_asN_, Den.agN_t, Den.agN_l, Den.ad_nt, Den.ad_nl, Den.nn_nil, Den.nn_l, Den.nn_r, Den.snnR_s, Den.nv_nil, Den.nv_l, Den.nv_r, Den.rg_3m, Den.re_nx, Den.re_v, Den.re_f, Den.re_ex, Den.oO_s, Den.oX_s, Den.ouR_s, Den.ou_nil, Den.ou_val, Den.ou_err, Den.ou_own, Den.ty_int_none, Den.ty_int_int, Den.ty_int_bool, Den.ty_int_str, Den.ty_int_tuple, Den.ty_int_list, Den.ty_bool_none, Den.ty_bool_int, Den.ty_bool_bool, Den.ty_bool_str, Den.ty_bool_tuple, Den.ty_bool_list, Den.ty_str_none, Den.ty_str_int, Den.ty_str_bool, Den.ty_str_str, Den.ty_str_tuple, Den.ty_str_list, Den.ty_tuple_none, Den.ty_tuple_int, Den.ty_tuple_bool, Den.ty_tuple_str, Den.ty_tuple_tuple, Den.ty_tuple_list, Den.ty_list_none, Den.ty_list_int, Den.ty_list_bool, Den.ty_list_str, Den.ty_list_tuple, Den.ty_list_list, Den.ty_dict_none, Den.ty_dict_int, Den.ty_dict_bool, Den.ty_dict_str, Den.ty_dict_tuple, Den.ty_dict_list, ↓reduceIte, Int.cast_ofNat_Int, Int.natCast_zero, Int.natCast_one, List.reduceReplicate, List.isEmpty_cons, List.isEmpty_nil, List.flatten_cons, List.flatten_nil, Nat.reduceBEq, Bool.or_true, Bool.true_or, Bool.or_false, Bool.false_or, reduceCtorEq, Nat.reduceAdd, Nat.reduceLeDiff, Nat.reduceLT, Nat.reduceSub, Nat.reduceMul, Nat.reduceEqDiff, Nat.reduceAdd, Nat.reducePow, Int.reducePow, Int.reduceToNat, Int.reduceAdd, Int.reduceSub, Int.reduceMul, Int.reduceLT, Int.reduceLE, Int.reduceEq, Int.reduceNeg, Int.reduceNe, decide_eq_true_eq, decide_true, decide_false, Bool.not_true, Bool.not_false, Bool.false_eq_true, Bool.true_eq_false, Bool.not_eq_true', decide_eq_false_iff_not, List.getElem?_cons_zero, List.getElem?_cons_succ, List.set_cons_zero, List.set_cons_succ, List.length_cons, List.length_nil, or_false, not_false_eq_true, not_true_eq_false, and_true, true_and, and_self, Den.line, ne_eq, Option.some.injEq, bne_self_eq_false, Bool.and_true, Bool.true_and, Bool.and_false, Bool.false_and, beq_self_eq_true, List.cons_append, List.nil_append, Den.Tg.vars, Nat.le_refl, $ts,*])
  | `(tactic| simp_arith! [$ts,*]) => `(tactic| simp -implicitDefEqProofs only [Den.bR_ok, Den.bR_exc, Den.eR_ok, Den.eR_exc, Den.sR_nx, Den.sR_rt, Den.sR_bk, Den.sR_ct, Den.sR_ex, Den.varR_val, Den.varR_own, Den.x_var, Den.x_cst, Den.glbR_s, Den.x_glb, Den.pk_val, Den.pk_fresh, Den.pk_loc, Den.pkR_own, Den.st_val, Den.st_loc, Den.st_fresh, Den.co_val, Den.co_fresh, Den.co_loc, Den.coR_own, Den.oR_s, Den.binR_s, Den.x_bin, Den.k_bin_, Den.m_bin, Den.b_add, Den.b_addb, Den.b_sub, Den.b_mul, Den.b_fdiv, Den.b_mod, Den.b_pow, Den.b_addL, Den.b_addT, Den.b_mulT, Den.b_mulL, Den.x_neg, Den.k_neg_, Den.obR_s, Den.cmR_s, Den.x_cmp, Den.k_cmp_, Den.m_cmp, Den.x_cmp2, Den.k_cm2_, Den.k_cm3_, Den.k_cm4_, Den.c_eq_ii, Den.c_ne_ii, Den.c_lt, Den.c_gt, Den.c_le, Den.c_ge, Den.c_isN, Den.c_isnN, Den.c_isB, Den.c_isnB, Den.isN_n, Den.isN_b, Den.isN_i, Den.isN_s, Den.isN_l, Den.isN_t, Den.isB_n, Den.isB_b, Den.isB_i, Den.isB_s, Den.isB_l, Den.isB_t, Den.tOR_s, Den.tpR_s, Den.m_tru, Den.t_bool, Den.t_int, Den.t_none, Den.t_list, Den.t_tup, Den.x_nt, Den.k_nt_, Den.k_nt2_, Den.k_cv_, Den.k_cv2_, Den.x_and, Den.a_one, Den.a_cons, Den.k_and_, Den.k_and2_, Den.x_or, Den.o_one, Den.o_cons, Den.k_or_, Den.k_or2_, Den.x_ite, Den.k_ite_, Den.k_ite2_, Den.cs_nil, Den.cs_cons, Den.k_cs_, Den.k_cs2_, Den.k_cs3_, Den.x_tup, Den.x_lst, Den.k_tup_, Den.k_lst_, Den.es_nil, Den.es_cons, Den.k_es_, Den.k_es2_, Den.x_call, Den.m_call, Den.nd_0, Den.nd_1, Den.nd_2, Den.clR_s, Den.clR2_ok, Den.clR2_exc, Den.clR3_s, Den.clX3_s, Den.ao2_s, Den.ao_nil, Den.ao_cons, Den.ag_val, Den.ag_loc, Den.agR_own, Den.lo_nil, Den.lo_val, Den.lo_loc, Den.bo_nil, Den.bo_val, Den.bo_loc, Den.boR_own, Den.x_callX, Den.m_callX, Den.cxR1_e, Den.cxR_v, Den.x_isx, Den.isxR_e, Den.x_bi, Den.m_bi, Den.pks_s, Den.ps2_s, Den.ps_nil, Den.ps_cons, Den.i_lenL, Den.i_lenT, Den.i_abs, Den.i_mx, Den.i_mn, Den.i_tupL, Den.i_tupT, Den.i_lstL, Den.i_lstT, Den.i_intI, Den.i_intB, Den.i_gcd, Den.i_sumL, Den.i_sumT, Den.x_isi, Den.k_isi_, Den.isR_s, Den.x_idx, Den.k_idx_, Den.m_idx, Den.ixR_l, Den.ixR_t, Den.atR_s, Den.at_0, Den.at_1, Den.at_2, Den.at_3, Den.at_4, Den.at_last, Den.x_slc, Den.k_slc_, Den.k_slc2_, Den.o_nil, Den.o_some1, Den.k_o_, Den.m_slc, Den.slR_l, Den.slR_t, Den.x_lc, Den.x_gx, Den.bo_b, Den.ts_nil, Den.ts_cons, Den.k_ts_, Den.k_ts2_, Den.x_app, Den.k_app_, Den.k_app2_, Den.k_app3_, Den.m_loc, Den.lmR_own, Den.m_app, Den.amR_own, Den.x_pop, Den.m_pop, Den.x_rev, Den.m_rev, Den.m_revL, Den.rvR_l, Den.w_ex, Den.k_ex_, Den.exR_l, Den.exR_t, Den.w_seq, Den.seqI_l, Den.seqI_t, Den.w_rng, Den.rg_1, Den.rg_2, Den.w_enum, Den.en_l, Den.en_t, Den.en_f, Den.w_rev, Den.rv_l, Den.rv_t, Den.w_zip, Den.k_zip_, Den.zp_tt, Den.zp_ll, Den.v_nil, Den.v_cons, Den.v_frz, Den.frR_own, Den.frR_val, Den.puR_s, Den.s_asg_, Den.k_asg_, Den.sf_val, Den.sf_fresh, Den.sf_loc, Den.k_sf_, Den.pl_nil, Den.pl_cons, Den.plR_v, Den.plR_f, Den.cp_no, Den.cp_val, Den.cp_own, Den.cp_err, Den.s_par_, Den.k_par_, Den.ps_nil_, Den.ps_cons_, Den.k_ps_, Den.k_ps2_, Den.k_ps3_, Den.s_asgT_, Den.k_asT_, Den.agT_t, Den.agT_l, Den.ad_nm, Den.ad_tt, Den.ad_tl, Den.sn_nil, Den.sn_cons, Den.snR_no, Den.snR_val, Den.snR_err, Den.s_exp_, Den.k_exp_, Den.s_ret_, Den.k_ret_, Den.s_retN_, Den.s_brk_, Den.s_cnt_, Den.s_pss_, Den.s_rse_, Den.s_ife_, Den.k_ife_, Den.finV_nx, Den.finV_rt, Den.finV_ex, Den.s_for_, Den.k_for_v, Den.s_whl_, Den.s_try_, Den.ty_nx, Den.ty_rt, Den.ce_n, Den.ce_s, Den.ceB_t, Den.ceR_e, Den.ne_nil, Den.ne_no, Den.ne_v, Den.ne_o, Den.en_rt, Den.en_nx, Den.exVR_s, Den.exNR_s, Den.pe_n, Den.pe_s, Den.peR_no, Den.peR_v, Den.ty_k, Den.tyQm_t, Den.tyPm_s, Den.ct_nil, Den.ct_cons, Den.x_revs, Den.m_revs, Den.rvsR_l, Den.rvsR_t, Den.x_slcS, Den.k_slS_, Den.m_slS, Den.slsR_l, Den.x_srev, Den.m_srv, Den.srvR_l, Den.x_tupS, Den.ss_nil, Den.ss_cons, Den.k_ss_, Den.k_ss2_f, Den.k_ss2_t, Den.k_ss2_l, Den.k_ss3_, Den.x_ins, Den.k_ins_, Den.k_ins2_, Den.k_ins3_, Den.k_ins4_, Den.m_ins, Den.inR_0, Den.x_popI, Den.k_pI_, Den.k_pI2_, Den.x_ext, Den.k_ext_, Den.k_ext2_, Den.m_ext, Den.exmR_own, Den.w_rng3, Den.s_asgN_, Den.k_asN_, Den.agN_t, Den.agN_l, Den.ad_nt, Den.ad_nl, Den.nn_nil, Den.nn_l, Den.nn_r, Den.snnR_s, Den.nv_nil, Den.nv_l, Den.nv_r, Den.rg_3m, Den.re_nx, Den.re_v, Den.re_f, Den.re_ex, Den.oO_s, Den.oX_s, Den.ouR_s, Den.ou_nil, Den.ou_val, Den.ou_err, Den.ou_own, Den.ty_int_none, Den.ty_int_int, Den.ty_int_bool, Den.ty_int_str, Den.ty_int_tuple, Den.ty_int_list, Den.ty_bool_none, Den.ty_bool_int, Den.ty_bool_bool, Den.ty_bool_str, Den.ty_bool_tuple, Den.ty_bool_list, Den.ty_str_none, Den.ty_str_int, Den.ty_str_bool, Den.ty_str_str, Den.ty_str_tuple, Den.ty_str_list, Den.ty_tuple_none, Den.ty_tuple_int, Den.ty_tuple_bool, Den.ty_tuple_str, Den.ty_tuple_tuple, Den.ty_tuple_list, Den.ty_list_none, Den.ty_list_int, Den.ty_list_bool, Den.ty_list_str, Den.ty_list_tuple, Den.ty_list_list, Den.ty_dict_none, Den.ty_dict_int, Den.ty_dict_bool, Den.ty_dict_str, Den.ty_dict_tuple, Den.ty_dict_list, ↓reduceIte, Int.cast_ofNat_Int, Int.natCast_zero, Int.natCast_one, List.reduceReplicate, List.isEmpty_cons, List.isEmpty_nil, List.flatten_cons, List.flatten_nil, Nat.reduceBEq, Bool.or_true, Bool.true_or, Bool.or_false, Bool.false_or, reduceCtorEq, Nat.reduceAdd, Nat.reduceLeDiff, Nat.reduceLT, Nat.reduceSub, Nat.reduceMul, Nat.reduceEqDiff, Nat.reduceAdd, Nat.reducePow, Int.reducePow, Int.reduceToNat, Int.reduceAdd, Int.reduceSub, Int.reduceMul, Int.reduceLT, Int.reduceLE, Int.reduceEq, Int.reduceNeg, Int.reduceNe, decide_eq_true_eq, decide_true, decide_false, Bool.not_true, Bool.not_false, Bool.false_eq_true, Bool.true_eq_false, Bool.not_eq_true', decide_eq_false_iff_not, List.getElem?_cons_zero, List.getElem?_cons_succ, List.set_cons_zero, List.set_cons_succ, List.length_cons, List.length_nil, or_false, not_false_eq_true, not_true_eq_false, and_true, true_and, and_self, Den.line, ne_eq, Option.some.injEq, bne_self_eq_false, Bool.and_true, Bool.true_and, Bool.and_false, Bool.false_and, beq_self_eq_true, List.cons_append, List.nil_append, Den.Tg.vars, Nat.le_refl, Den.bnd_bR, Den.fl_nil, Den.fl_cons, Den.flA_s, Den.flR_nx, Den.flR_ct, Den.flR_bk, Den.flR_rt, Den.flR_ex, Den.k_for_l, Den.foLk_o, Den.unL_, Den.unLk_o, Den.finL_nx, Den.finL_rt, Den.finL_ex, Den.lc_m, Den.lcP_v, Den.lcE_ok, Den.cl_nil, Den.cl_cons, Den.clA_s, Den.clT_ok, Den.clE_ok, Den.clY_ok, Den.lcP_l, Den.lcLk_o, Den.lcE_l, Den.lcUk_o, Den.gx_m, Den.gxP_v, Den.gxE_ok, Den.gl_nil, Den.gl_cons, Den.glA_s, Den.glT_ok, Den.glE_all, Den.glE_any, Den.stop_all, Den.stop_any, Den.e_nl, Den.e_nt, Den.e_ql, Den.e_qt, Den.e_nlc, Den.e_ntc, Den.e_qlc, Den.e_qtc, Den.snR_p, Den.cp_pl, Den.pl_no, Den.pl_v, Den.x_lrg, Den.x_trg, Den.lr_2, Den.at_l2, Den.at_l1, Den.pm_v, Den.pm_f, Den.s_sto_, Den.k_st_, Den.k_st2_, Den.k_st3_, Den.stR_own, Den.stJ_s, Den.ixN_20, Den.ixN_21, Den.wp_nil, Den.wp_cons, Den.rs_nil, Den.rs_cons, Den.gd_0, Den.gd_s, Den.pa_nil, Den.pa_cons, Den.paR_no, Den.paR_v, Den.paR_p, Den.paR_e, $ts,*])
namespace Den
open PySem
def fr (q : Rat) : D := .tuple [.int q.num, .int q.den]
def Bd (N : Nat) (q : Rat) : Prop := q.num.natAbs < 2 ^ N ∧ q.den < 2 ^ N
theorem Bd.mono {N M : Nat} {q : Rat} (h : Bd N q) (l : N ≤ M) : Bd M q :=
  ⟨Nat.lt_of_lt_of_le h.1 (Nat.pow_le_pow_right (by decide) l), Nat.lt_of_lt_of_le h.2 (Nat.pow_le_pow_right (by decide) l)⟩
theorem pow2 {a b N M : Nat} (h1 : a < 2 ^ N) (h2 : b < 2 ^ M) : a * b < 2 ^ (N + M) := by
  rw [Nat.pow_add]
  exact Nat.mul_lt_mul'' h1 h2
theorem den_ne (q : Rat) : (q.den : Int) ≠ 0 := by have := q.den_nz; omega
theorem den_pos (q : Rat) : 0 < (q.den : Int) := by have := q.den_nz; omega
theorem div_num {p w : Int} (h : w ≠ 0) : ((p : Rat) / (w : Rat)).num = p.fdiv (if w < 0 then -((Int.gcd p w : Nat) : Int) else ((Int.gcd p w : Nat) : Int)) := by
  rw [← Rat.divInt_eq_div, Rat.num_divInt, Int.gcd_comm w p]
  have g : Int.gcd p w ≠ 0 := fun z => h (Int.gcd_eq_zero_iff.mp z).2
  obtain ⟨l, hl⟩ : ((Int.gcd p w : Nat) : Int) ∣ p := Int.gcd_dvd_left ..
  generalize Int.gcd p w = d at *
  subst hl
  have d0 : ((d : Nat) : Int) ≠ 0 := by omega
  split
  · next hw =>
    rw [Int.sign_eq_neg_one_of_neg hw]
    have e : -1 * ((d : Int) * l) = (d : Int) * (-l) := by grind
    rw [e, Int.mul_ediv_cancel_left _ d0]
    have e2 : (d : Int) * l = (-(d : Int)) * (-l) := by grind
    rw [e2, Int.mul_fdiv_cancel_left _ (by omega)]
  · next hw =>
    rw [Int.sign_eq_one_of_pos (by omega), Int.one_mul, Int.mul_ediv_cancel_left _ d0, Int.mul_fdiv_cancel_left _ d0]
theorem div_den {p w : Int} (h : w ≠ 0) : ((((p : Rat) / (w : Rat)).den : Nat) : Int) = w.fdiv (if w < 0 then -((Int.gcd p w : Nat) : Int) else ((Int.gcd p w : Nat) : Int)) := by
  rw [← Rat.divInt_eq_div, Rat.den_divInt, if_neg h, Int.gcd_comm w p]
  have g : Int.gcd p w ≠ 0 := fun z => h (Int.gcd_eq_zero_iff.mp z).2
  obtain ⟨l, hl⟩ : ((Int.gcd p w : Nat) : Int) ∣ w := Int.gcd_dvd_right ..
  generalize Int.gcd p w = d at *
  subst hl
  have d0 : ((d : Nat) : Int) ≠ 0 := by omega
  rw [Int.natAbs_mul, Int.natAbs_natCast, Nat.mul_div_cancel_left _ (by omega)]
  split
  · next hw =>
    have e2 : (d : Int) * l = (-(d : Int)) * (-l) := by grind
    have l0 : l < 0 := by
      rcases Int.lt_or_le l 0 with z | z
      · exact z
      · exact absurd hw (Int.not_lt.mpr (Int.mul_nonneg (by omega) z))
    rw [e2, Int.mul_fdiv_cancel_left _ (by omega)]
    omega
  · next hw =>
    have l0 : 0 ≤ l := by
      rcases Int.lt_or_le l 0 with z | z
      · exact absurd (Int.mul_neg_of_pos_of_neg (by omega) z) hw
      · exact z
    rw [Int.mul_fdiv_cancel_left _ d0]
    omega
theorem fr_div {p w : Int} (h : w ≠ 0) : fr ((p : Rat) / (w : Rat)) = .tuple [.int (p.fdiv (if w < 0 then -((Int.gcd p w : Nat) : Int) else ((Int.gcd p w : Nat) : Int))), .int (w.fdiv (if w < 0 then -((Int.gcd p w : Nat) : Int) else ((Int.gcd p w : Nat) : Int)))] := by
  unfold fr; rw [div_num h, div_den h]
theorem Bd.div {p w : Int} {N : Nat} (h : w ≠ 0) (h1 : p.natAbs < 2 ^ N) (h2 : w.natAbs < 2 ^ N) : Bd N ((p : Rat) / (w : Rat)) := by
  rw [← Rat.divInt_eq_div]
  refine ⟨?_, ?_⟩
  · rw [Rat.num_divInt]
    refine Nat.lt_of_le_of_lt (Int.natAbs_ediv_le_natAbs ..) ?_
    rw [Int.natAbs_mul]
    refine Nat.lt_of_le_of_lt ?_ h1
    rcases Int.lt_trichotomy w 0 with z | z | z
    · rw [Int.sign_eq_neg_one_of_neg z]; simp
    · exact absurd z h
    · rw [Int.sign_eq_one_of_pos z]; simp
  · rw [Rat.den_divInt, if_neg h]
    exact Nat.lt_of_le_of_lt (Nat.div_le_self ..) h2
theorem fr_inj {a b : Rat} : fr a = fr b ↔ a = b := by
  constructor
  · intro h
    unfold fr at h
    injection h with h
    injection h with h1 h
    injection h with h2 h
    injection h1 with h1
    injection h2 with h2
    exact Rat.ext h1 (by omega)
  · intro h; rw [h]
theorem num_add {a b : Rat} : a + b = ((a.num * b.den + b.num * a.den : Int) : Rat) / ((a.den * b.den : Int) : Rat) := by
  rw [← Rat.divInt_eq_div]
  conv => lhs; rw [← Rat.num_divInt_den a, ← Rat.num_divInt_den b]
  rw [Rat.divInt_add_divInt _ _ (den_ne a) (den_ne b)]
theorem num_sub {a b : Rat} : a - b = ((a.num * b.den - b.num * a.den : Int) : Rat) / ((a.den * b.den : Int) : Rat) := by
  rw [← Rat.divInt_eq_div]
  conv => lhs; rw [← Rat.num_divInt_den a, ← Rat.num_divInt_den b]
  rw [Rat.divInt_sub_divInt _ _ (den_ne a) (den_ne b)]
theorem num_mul {a b : Rat} : a * b = ((a.num * b.num : Int) : Rat) / ((a.den * b.den : Int) : Rat) := by
  rw [← Rat.divInt_eq_div]
  conv => lhs; rw [← Rat.num_divInt_den a, ← Rat.num_divInt_den b]
  rw [Rat.divInt_mul_divInt]
theorem num_dv {a b : Rat} : a / b = ((a.num * b.den : Int) : Rat) / ((a.den * b.num : Int) : Rat) := by
  have ha : a = (a.num : Rat) / ((a.den : Int) : Rat) := by rw [← Rat.divInt_eq_div, Rat.num_divInt_den]
  have hb : b = (b.num : Rat) / ((b.den : Int) : Rat) := by rw [← Rat.divInt_eq_div, Rat.num_divInt_den]
  have h1 : ((a.den : Int) : Rat) ≠ 0 := by rw [Ne, Rat.intCast_eq_zero_iff]; exact den_ne a
  have h2 : ((b.den : Int) : Rat) ≠ 0 := by rw [Ne, Rat.intCast_eq_zero_iff]; exact den_ne b
  rw [Rat.intCast_mul, Rat.intCast_mul]
  conv => lhs; rw [ha, hb]
  generalize ((a.den : Int) : Rat) = x at *
  generalize ((b.den : Int) : Rat) = y at *
  generalize ((a.num : Int) : Rat) = u at *
  generalize ((b.num : Int) : Rat) = v at *
  by_cases hv : v = 0
  · subst hv; grind
  · grind
theorem num_lt {a b : Rat} : (a.num * b.den < b.num * a.den) ↔ a < b := (Rat.lt_iff a b).symm
theorem nat_den (q : Rat) : (q.den : Int).natAbs = q.den := rfl
section
variable {a b : Rat} {N M : Nat}
theorem bd_x (ha : Bd N a) (hb : Bd M b) : (a.num * b.den).natAbs < 2 ^ (N + M) ∧ (b.num * a.den).natAbs < 2 ^ (N + M) ∧ ((a.den : Int) * b.den).natAbs < 2 ^ (N + M) ∧ (a.num * b.num).natAbs < 2 ^ (N + M) ∧ ((a.den : Int) * b.den) ≠ 0 := by
  refine ⟨?_, ?_, ?_, ?_, Int.mul_ne_zero (den_ne a) (den_ne b)⟩ <;> rw [Int.natAbs_mul]
  · exact pow2 ha.1 hb.2
  · rw [Nat.add_comm]; exact pow2 hb.1 ha.2
  · exact pow2 ha.2 hb.2
  · exact pow2 ha.1 hb.1
theorem Bd.add (ha : Bd N a) (hb : Bd M b) : Bd (N + M + 1) (a + b) := by
  obtain ⟨h1, h2, h3, h4, h5⟩ := bd_x ha hb
  rw [num_add]
  refine Bd.div h5 ?_ ?_ <;> rw [Nat.pow_succ] <;> omega
theorem Bd.sub (ha : Bd N a) (hb : Bd M b) : Bd (N + M + 1) (a - b) := by
  obtain ⟨h1, h2, h3, h4, h5⟩ := bd_x ha hb
  rw [num_sub]
  refine Bd.div h5 ?_ ?_ <;> rw [Nat.pow_succ] <;> omega
theorem Bd.mul (ha : Bd N a) (hb : Bd M b) : Bd (N + M) (a * b) := by
  obtain ⟨h1, h2, h3, h4, h5⟩ := bd_x ha hb
  rw [num_mul]
  exact Bd.div h5 h4 h3
theorem Bd.neg (ha : Bd N a) : Bd N (-a) := ⟨by rw [Rat.neg_num, Int.natAbs_neg]; exact ha.1, ha.2⟩
theorem num_ne {b : Rat} (h : b ≠ 0) : b.num ≠ 0 := fun z => h (Rat.num_eq_zero.mp z)
theorem bd_y (ha : Bd N a) (hb : Bd M b) (h : b ≠ 0) : ((a.den : Int) * b.num).natAbs < 2 ^ (N + M) ∧ ((a.den : Int) * b.num) ≠ 0 := by
  refine ⟨?_, Int.mul_ne_zero (den_ne a) (num_ne h)⟩
  rw [Int.natAbs_mul]
  exact pow2 ha.2 hb.1
theorem Bd.dv (ha : Bd N a) (hb : Bd M b) (h : b ≠ 0) : Bd (N + M) (a / b) := by
  obtain ⟨h1, h2, h3, h4, h5⟩ := bd_x ha hb
  obtain ⟨h6, h7⟩ := bd_y ha hb h
  rw [num_dv]
  exact Bd.div h7 h1 h6
end
theorem Bd.int {i : Int} {N : Nat} (h : i.natAbs < 2 ^ N) (h1 : 1 ≤ N) : Bd N (i : Rat) := ⟨by rw [Rat.num_intCast]; exact h, by
  rw [Rat.den_intCast]
  exact Nat.lt_of_lt_of_le (by decide) (Nat.pow_le_pow_right (n := 2) (by decide) h1)⟩
theorem fr_int {i : Int} : .tuple [.int i, .int 1] = fr (i : Rat) := by unfold fr; rw [Rat.num_intCast, Rat.den_intCast]; rfl
theorem fr_neg {q : Rat} : .tuple [.int (-q.num), .int q.den] = fr (-q) := by unfold fr; rw [Rat.neg_num, Rat.neg_den]
theorem mul_bd {N M : Nat} {x y : Int} (h1 : x.natAbs < 2 ^ N) (h2 : y.natAbs < 2 ^ M) (h : N + M ≤ 6000) : mulOk x y = true := mulOk_of N M h1 h2 (by omega)
theorem rdiv_nonneg {x y : Rat} (h : 0 < y) (h2 : 0 ≤ x) : 0 ≤ x / y := by
  rw [← Rat.not_lt] at *
  intro z
  have := (Rat.div_lt_iff h).mp z
  rw [Rat.zero_mul] at this
  exact h2 this
theorem rdiv_lt1 {x y : Rat} (h : 0 < y) (h2 : x < y) : x / y < 1 := (Rat.div_lt_iff h).mpr (by rw [Rat.one_mul]; exact h2)
theorem num_nneg {q : Rat} (h : 0 ≤ q) : ¬ q.num < 0 := by have := Rat.num_nonneg.mpr h; omega
theorem rpos {i : Int} (h : 0 < i) : (0 : Rat) < (i : Rat) := by rw [← Rat.intCast_zero, Rat.intCast_lt_intCast]; exact h
theorem rnn {i : Int} (h : 0 ≤ i) : (0 : Rat) ≤ (i : Rat) := by rw [← Rat.intCast_zero, Rat.intCast_le_intCast]; exact h
theorem rne {i : Int} (h : i ≠ 0) : (i : Rat) ≠ 0 := by rw [Ne, Rat.intCast_eq_zero_iff]; exact h
theorem num_pos' {q : Rat} : 0 < q.num ↔ 0 < q := by
  have h := @Rat.num_nonneg q
  have z := @Rat.num_eq_zero q
  have k := @Rat.num_nonneg (-q)
  rw [Rat.neg_num] at k
  constructor
  · intro p
    have a := h.mp (by omega)
    have b : q ≠ 0 := fun e => by have := z.mpr e; omega
    grind
  · intro p
    have a := h.mpr (by grind)
    have b : q.num ≠ 0 := fun e => by have := z.mp e; grind
    omega
theorem sub_num_pos {a b : Rat} : 0 < (a - b).num ↔ b < a := by rw [num_pos']; constructor <;> intro h <;> grind
/-! ### the machine at fractions -/
section
variable {Γ : Fns} {C : List D} {ρ : Ev} {q a b : Rat}
theorem ix_f0 : ixR ρ (some (fr q)) (some (.int 0)) = .ok (.val (.int q.num)) ρ := by unfold fr; rw [ixR_t, at_0]; rfl
theorem ix_f1 : ixR ρ (some (fr q)) (some (.int 1)) = .ok (.val (.int q.den)) ρ := by unfold fr; rw [ixR_t, at_1]; rfl
theorem eq_fr : eqOk (fr a) (fr b) = true := by
  unfold fr eqOk
  rw [Bool.or_eq_true]
  right
  simp [PyData.depth, PyData.depthAll]
theorem eqv_fr : PyData.eqv (fr a) (fr b) = decide (a = b) := by
  rw [Bool.eq_iff_iff, decide_eq_true_iff, ← fr_inj]
  unfold fr
  simp [PyData.eqv, PyData.eqvAll, eqv_ii]
theorem c_eq_fr : cmpD .eq (fr a) (fr b) = some (decide (a = b)) := by rw [c_eq eq_fr, eqv_fr]
theorem c_ne_fr : cmpD .ne (fr a) (fr b) = some (!decide (a = b)) := by rw [c_ne eq_fr, eqv_fr]
theorem ty_frt : isTyD .tuple (fr q) = true := rfl
theorem len_fr : biD .len [fr q] = some (.val (.int 2)) := rfl
theorem isN_fr : isNoneD (fr q) = false := rfl
theorem isB_fr {b : Bool} : isBoolD b (fr q) = false := rfl
theorem exR_fr {x : EV} : exR x ρ (some (fr q)) = .ok (settle x, [.int q.num, .int q.den]) ρ := rfl
theorem agT_fr {is : List Nat} : agT is ρ (some (fr q)) = puR (setN ρ is [.int q.num, .int q.den]) := rfl
end
/-! ### lowest -/
def bLow : CSs := (.cons (.asg 2 false (.bi .gcd (.cons (.var 0) (.cons (.var 1) .nil))))
(.cons (.ife (.cmp .lt (.var 1) (.cst (.int 0))) (.cons (.asg 2 false (.neg (.var 2)))
.nil) .nil)
(.cons (.ret (.tup (.cons (.bin .fdiv (.var 0) (.var 2)) (.cons (.bin .fdiv (.var 1) (.var 2)) .nil))))
.nil)))
def Low (Γ : Fns) (i : Nat) : Prop := ∀ p w : Int, w ≠ 0 → p.natAbs < 2 ^ 2900 → w.natAbs < 2 ^ 2900 → Γ i [.val (.int p), .val (.int w)] = .ok (.val (fr ((p : Rat) / (w : Rat)))) [.val (.int p), .val (.int w)]
theorem gcd_div {p w : Int} (h : w ≠ 0) (h2 : w.natAbs < 2 ^ 2900) : divOk ((Int.gcd p w : Nat) : Int) = true ∧ divOk (-((Int.gcd p w : Nat) : Int)) = true := by
  have g : Int.gcd p w ≠ 0 := fun z => h (Int.gcd_eq_zero_iff.mp z).2
  have : Int.gcd p w ∣ w.natAbs := Nat.gcd_dvd_right ..
  have := Nat.le_of_dvd (by omega) this
  exact ⟨divOk_of 2900 (by rw [Int.natAbs_natCast]; omega) (by omega) (by decide), divOk_of 2900 (by rw [Int.natAbs_neg, Int.natAbs_natCast]; omega) (by omega) (by decide)⟩
theorem low_own {T : List Fd} {C : List D} {i : Nat} (hi : T[i]? = some ⟨2, 3, bLow⟩) (n : Nat) : Low (fns T C (n + 1)) i := by
  intro p w h h1 h2
  obtain ⟨d1, d2⟩ := gcd_div (p := p) h h2
  rw [fr_div h, fn_at hi (by decide) n rfl]
  by_cases hw : w < 0
  · simp_arith [bLow, hw, d1, d2, List.replicate]
  · simp_arith [bLow, hw, d1, d2, List.replicate]
end Den
set_option autoImplicit false
set_option maxRecDepth 100000
set_option maxHeartbeats 4000000
set_option exponentiation.threshold 10000
/-! Den, part F2: the laws' own Euclid, and the fractions' operations. -/
namespace Den
open PySem
def bGrB : CSs := (.cons (.ife (.cmp .eq (.var 1) (.cst (.int 0))) (.cons .brk
.nil) .nil)
(.cons (.asg 3 false (.bin .mod (.var 0) (.var 1)))
(.cons (.asg 0 false (.var 1))
(.cons (.asg 1 false (.var 3))
.nil))))
def bGr : CSs := (.cons (.for_ (.nm 2) (.rng (.cons (.cst (.int 6000)) .nil)) bGrB)
(.cons (.ret (.var 0))
.nil))
theorem rgI_len {i j : Int} : ((rgI i j).map PyData.int).length = (j - i).toNat := by unfold rgI; simp
theorem gr_step {Γ : Fns} {C : List D} {x y : Nat} {k r : Sl} (d : D) (hr : canPut r = true) (hy : 0 < y) : evB Γ C bGrB [.val (.int x), .val (.int y), .val d, r] = .nx [.val (.int y), .val (.int (x % y : Nat)), .val d, .val (.int (x % y : Nat))] := by
  have h : ¬ (y : Int) = 0 := by omega
  have fm : (x : Int).fmod (y : Int) = ((x % y : Nat) : Int) := by rw [Int.fmod_eq_emod_of_nonneg _ (by omega)]; rfl
  simp_arith [bGrB, h, fm, hr]
theorem gr_stop {Γ : Fns} {C : List D} {x : Nat} {k r : Sl} (d : D) : evB Γ C bGrB [.val (.int x), .val (.int ((0 : Nat) : Int)), .val d, r] = .bk [.val (.int x), .val (.int ((0 : Nat) : Int)), .val d, r] := by
  simp_arith [bGrB, Int.natCast_zero, Int.ofNat_zero, Int.cast_ofNat_Int]
theorem euclid {T : List Fd} {C : List D} {j : Nat} (hj : T[j]? = some ⟨2, 4, bGr⟩) (n : Nat) {a b : Nat} (hab : a * b < 2 ^ 5999) : fns T C (n + 1) j [.val (.int a), .val (.int b)] = .ok (.val (.int (Nat.gcd a b))) [.val (.int a), .val (.int b)] := by
  have key := forL_gen (tg := .nm 2) (body := evB (fns T C n) C bGrB)
      (Q := fun s => ∃ (y : D) (k' r' : Sl), s = .nx [.val (.int (Nat.gcd a b)), .val y, k', r'])
      (ds := (rgI 0 6000).map .int)
      (fun ds ρ => ∃ (x y : Nat) (k' r' : Sl), plainSl k' = true ∧ plainSl r' = true ∧ ρ = [.val (.int x), .val (.int y), k', r'] ∧ Nat.gcd x y = Nat.gcd a b ∧ ((y ≤ x ∧ x * y < 2 ^ ds.length) ∨ (x * y * 2 < 2 ^ ds.length ∧ 0 < ds.length)))
      (by
        rintro ρ ⟨x, y, k', r', _, _, rfl, hg, h⟩
        have h' : y ≤ x ∧ x * y = 0 := by
          rcases h with ⟨h1, h2⟩ | ⟨_, h2⟩
          · rw [List.length_nil, Nat.pow_zero] at h2
            exact ⟨h1, by omega⟩
          · exact absurd h2 (by simp)
        have hy : y = 0 := by
          rcases Nat.mul_eq_zero.mp h'.2 with z | z
          · have := h'.1
            omega
          · exact z
        subst hy
        rw [Nat.gcd_zero_right] at hg
        exact ⟨_, _, _, by rw [hg]⟩)
      (by
        rintro d ds ρ ⟨x, y, k', r', pk, pr, rfl, hg, h⟩
        refine ⟨[.val (.int x), .val (.int y), .val d, r'], by cases k' <;> first | (cases pk; done) | rfl, ?_⟩
        by_cases hy : y = 0
        · subst hy
          rw [Nat.gcd_zero_right] at hg
          exact .inr (.inl ⟨[.val (.int x), .val (.int (0 : Nat)), .val d, r'], gr_stop (k := .no) d, _, _, _, by rw [hg]⟩)
        · have hy' : 0 < y := Nat.pos_of_ne_zero hy
          have cr : canPut r' = true := by cases r' <;> first | (cases pr; done) | rfl
          refine .inl ⟨[.val (.int y), .val (.int (x % y : Nat)), .val d, .val (.int (x % y : Nat))], .inl (gr_step (k := .no) d cr hy'), y, x % y, _, _, rfl, rfl, rfl, ?_, .inl ⟨Nat.le_of_lt (Nat.mod_lt _ hy'), ?_⟩⟩
          · rw [← hg, Nat.gcd_comm y (x % y), ← Nat.gcd_rec, Nat.gcd_comm]
          · rw [List.length_cons, Nat.pow_succ] at h
            have m1 : x % y < y := Nat.mod_lt _ hy'
            have m2 : x % y ≤ x := Nat.mod_le _ _
            rcases h with ⟨h1, h2⟩ | ⟨h2, _⟩
            · have m3 : x % y * 2 ≤ x := by
                have := Nat.div_add_mod x y
                have : 1 ≤ x / y := (Nat.le_div_iff_mul_le hy').mpr (by omega)
                have : y * 1 ≤ y * (x / y) := Nat.mul_le_mul_left y this
                omega
              have := Nat.mul_le_mul_left y m3
              have e : y * (x % y * 2) = y * (x % y) * 2 := by rw [Nat.mul_assoc]
              have e2 : y * x = x * y := Nat.mul_comm ..
              omega
            · have := Nat.mul_le_mul_left y m2
              have e2 : y * x = x * y := Nat.mul_comm ..
              omega)
      (ρ := [.val (.int a), .val (.int b), .no, .no]) ⟨a, b, .no, .no, rfl, rfl, rfl, rfl, .inr (by
        rw [rgI_len]
        have : ((6000 : Int) - 0).toNat = 5999 + 1 := by decide
        rw [this, Nat.pow_succ]
        exact ⟨by omega, by omega⟩)⟩
  obtain ⟨y, k', r', e⟩ := key
  rw [fn_at hj (by decide) n rfl]
  have r1 : ∀ ρ, rngM [.val (.int 6000)] ρ = .ok (.val .none, (rgI 0 6000).map .int) ρ := fun ρ => rg_1 (by decide) (by decide)
  simp_arith [bGr, List.replicate, r1, e]
def bLLow (k : Nat) : CSs := (.cons (.asg 2 false (.call k (.cons (.bi .abs (.cons (.var 0) .nil)) (.cons (.bi .abs (.cons (.var 1) .nil)) .nil))))
(.cons (.asg 2 false (.ite (.cmp .lt (.var 1) (.cst (.int 0))) (.neg (.var 2)) (.var 2)))
(.cons (.ret (.tup (.cons (.bin .fdiv (.var 0) (.var 2)) (.cons (.bin .fdiv (.var 1) (.var 2)) .nil))))
.nil)))
theorem low_law {T : List Fd} {C : List D} {i k : Nat} (hi : T[i]? = some ⟨2, 3, bLLow k⟩) (hk : T[k]? = some ⟨2, 4, bGr⟩) (n : Nat) : Low (fns T C (n + 2)) i := by
  intro p w h h1 h2
  obtain ⟨d1, d2⟩ := gcd_div (p := p) h h2
  have ee := euclid (C := C) hk n (a := p.natAbs) (b := w.natAbs) (Nat.lt_of_lt_of_le (pow2 h1 h2) (Nat.pow_le_pow_right (by decide) (by omega)))
  have e : Nat.gcd p.natAbs w.natAbs = Int.gcd p w := rfl
  rw [e] at ee
  have ab : ∀ x : Int, (if x < 0 then -x else x) = ((x.natAbs : Nat) : Int) := fun x => by split <;> omega
  rw [fr_div h, fn_at hi (by decide) (n + 1) rfl]
  have ap := ab p
  generalize ((p.natAbs : Nat) : Int) = p' at *
  by_cases hw : w < 0
  · have e1 : ((w.natAbs : Nat) : Int) = -w := by omega
    rw [e1] at ee
    simp_arith [bLLow, hw, d1, d2, List.replicate, ap, ee]
  · have e1 : ((w.natAbs : Nat) : Int) = w := by omega
    rw [e1] at ee
    simp_arith [bLLow, hw, d1, d2, List.replicate, ap, ee]
def bPlus (i : Nat) : CSs := (.cons (.ret (.call i (.cons (.bin .add (.bin .mul (.idx (.var 0) (.cst (.int 0))) (.idx (.var 1) (.cst (.int 1)))) (.bin .mul (.idx (.var 1) (.cst (.int 0))) (.idx (.var 0) (.cst (.int 1))))) (.cons (.bin .mul (.idx (.var 0) (.cst (.int 1))) (.idx (.var 1) (.cst (.int 1)))) .nil))))
.nil)
def bMinus (i : Nat) : CSs := (.cons (.ret (.call i (.cons (.bin .sub (.bin .mul (.idx (.var 0) (.cst (.int 0))) (.idx (.var 1) (.cst (.int 1)))) (.bin .mul (.idx (.var 1) (.cst (.int 0))) (.idx (.var 0) (.cst (.int 1))))) (.cons (.bin .mul (.idx (.var 0) (.cst (.int 1))) (.idx (.var 1) (.cst (.int 1)))) .nil))))
.nil)
def bTimes (i : Nat) : CSs := (.cons (.ret (.call i (.cons (.bin .mul (.idx (.var 0) (.cst (.int 0))) (.idx (.var 1) (.cst (.int 0)))) (.cons (.bin .mul (.idx (.var 0) (.cst (.int 1))) (.idx (.var 1) (.cst (.int 1)))) .nil))))
.nil)
def bLess : CSs := (.cons (.ret (.cmp .lt (.bin .mul (.idx (.var 0) (.cst (.int 0))) (.idx (.var 1) (.cst (.int 1)))) (.bin .mul (.idx (.var 1) (.cst (.int 0))) (.idx (.var 0) (.cst (.int 1))))))
.nil)
def bLThr (i : Nat) : CSs := (.cons (.ret (.call i (.cons (.bin .mul (.idx (.var 0) (.cst (.int 0))) (.idx (.var 1) (.cst (.int 1)))) (.cons (.bin .mul (.idx (.var 0) (.cst (.int 1))) (.idx (.var 1) (.cst (.int 0)))) .nil))))
.nil)
def bThr (c i : Nat) : CSs := (.cons (.ife (.cmp .eq (.idx (.var 1) (.cst (.int 0))) (.cst (.int 0))) (.cons (.rse c)
.nil) .nil)
(.cons (.ret (.call i (.cons (.bin .mul (.idx (.var 0) (.cst (.int 0))) (.idx (.var 1) (.cst (.int 1)))) (.cons (.bin .mul (.idx (.var 0) (.cst (.int 1))) (.idx (.var 1) (.cst (.int 0)))) .nil))))
.nil))
def bLMinus (i : Nat) : CSs := (.cons (.ret (.call i (.cons (.var 0) (.cons (.tup (.cons (.neg (.idx (.var 1) (.cst (.int 0)))) (.cons (.idx (.var 1) (.cst (.int 1))) .nil))) .nil))))
.nil)
section
variable {T : List Fd} {C : List D} {i j : Nat} {a b : Rat} {N M : Nat}
theorem to29 {x : Nat} {k : Nat} (h : x < 2 ^ k) (hk : k ≤ 2900) : x < 2 ^ 2900 := Nat.lt_of_lt_of_le h (Nat.pow_le_pow_right (by decide) hk)
theorem f_plus (n : Nat) (L : Low (fns T C n) i) (hj : T[j]? = some ⟨2, 2, bPlus i⟩) (ha : Bd N a) (hb : Bd M b) (h : N + M ≤ 2800) : fns T C (n + 1) j [.val (fr a), .val (fr b)] = .ok (.val (fr (a + b))) [.val (fr a), .val (fr b)] := by
  obtain ⟨h1, h2, h3, h4, h5⟩ := bd_x ha hb
  have m1 := mul_bd (x := a.num) (y := b.den) ha.1 hb.2 (by omega)
  have m2 := mul_bd (x := b.num) (y := a.den) hb.1 ha.2 (by omega)
  have m3 := mul_bd (x := a.den) (y := b.den) ha.2 hb.2 (by omega)
  have c := L (a.num * b.den + b.num * a.den) (a.den * b.den) h5 (to29 (k := N + M + 1) (by rw [Nat.pow_succ]; omega) (by omega)) (to29 h3 (by omega))
  rw [← num_add] at c
  rw [fn_at hj (by decide) n rfl]
  simp_arith [ix_f0, ix_f1, c_eq_fr, c_ne_fr, ty_frt, len_fr, isN_fr, isB_fr, exR_fr, agT_fr, fr_int, fr_neg, bPlus, List.replicate, List.append_nil, m1, m2, m3, c]
theorem f_minus (n : Nat) (L : Low (fns T C n) i) (hj : T[j]? = some ⟨2, 2, bMinus i⟩) (ha : Bd N a) (hb : Bd M b) (h : N + M ≤ 2800) : fns T C (n + 1) j [.val (fr a), .val (fr b)] = .ok (.val (fr (a - b))) [.val (fr a), .val (fr b)] := by
  obtain ⟨h1, h2, h3, h4, h5⟩ := bd_x ha hb
  have m1 := mul_bd (x := a.num) (y := b.den) ha.1 hb.2 (by omega)
  have m2 := mul_bd (x := b.num) (y := a.den) hb.1 ha.2 (by omega)
  have m3 := mul_bd (x := a.den) (y := b.den) ha.2 hb.2 (by omega)
  have c := L (a.num * b.den - b.num * a.den) (a.den * b.den) h5 (to29 (k := N + M + 1) (by rw [Nat.pow_succ]; omega) (by omega)) (to29 h3 (by omega))
  rw [← num_sub] at c
  rw [fn_at hj (by decide) n rfl]
  simp_arith [ix_f0, ix_f1, c_eq_fr, c_ne_fr, ty_frt, len_fr, isN_fr, isB_fr, exR_fr, agT_fr, fr_int, fr_neg, bMinus, List.replicate, List.append_nil, m1, m2, m3, c]
theorem f_times (n : Nat) (L : Low (fns T C n) i) (hj : T[j]? = some ⟨2, 2, bTimes i⟩) (ha : Bd N a) (hb : Bd M b) (h : N + M ≤ 2800) : fns T C (n + 1) j [.val (fr a), .val (fr b)] = .ok (.val (fr (a * b))) [.val (fr a), .val (fr b)] := by
  obtain ⟨h1, h2, h3, h4, h5⟩ := bd_x ha hb
  have m1 := mul_bd (x := a.num) (y := b.num) ha.1 hb.1 (by omega)
  have m3 := mul_bd (x := a.den) (y := b.den) ha.2 hb.2 (by omega)
  have c := L (a.num * b.num) (a.den * b.den) h5 (to29 h4 (by omega)) (to29 h3 (by omega))
  rw [← num_mul] at c
  rw [fn_at hj (by decide) n rfl]
  simp_arith [ix_f0, ix_f1, c_eq_fr, c_ne_fr, ty_frt, len_fr, isN_fr, isB_fr, exR_fr, agT_fr, fr_int, fr_neg, bTimes, List.replicate, List.append_nil, m1, m3, c]
theorem f_lthr (n : Nat) (L : Low (fns T C n) i) (hj : T[j]? = some ⟨2, 2, bLThr i⟩) (ha : Bd N a) (hb : Bd M b) (h : N + M ≤ 2800) (hz : b ≠ 0) : fns T C (n + 1) j [.val (fr a), .val (fr b)] = .ok (.val (fr (a / b))) [.val (fr a), .val (fr b)] := by
  obtain ⟨h1, h2, h3, h4, h5⟩ := bd_x ha hb
  obtain ⟨h6, h7⟩ := bd_y ha hb hz
  have m1 := mul_bd (x := a.num) (y := b.den) ha.1 hb.2 (by omega)
  have m3 := mul_bd (x := a.den) (y := b.num) ha.2 hb.1 (by omega)
  have c := L (a.num * b.den) (a.den * b.num) h7 (to29 h1 (by omega)) (to29 h6 (by omega))
  rw [← num_dv] at c
  rw [fn_at hj (by decide) n rfl]
  simp_arith [ix_f0, ix_f1, c_eq_fr, c_ne_fr, ty_frt, len_fr, isN_fr, isB_fr, exR_fr, agT_fr, fr_int, fr_neg, bLThr, List.replicate, List.append_nil, m1, m3, c]
theorem f_thr {k : Nat} (n : Nat) (L : Low (fns T C n) i) (hj : T[j]? = some ⟨2, 2, bThr k i⟩) (ha : Bd N a) (hb : Bd M b) (h : N + M ≤ 2800) (hz : b ≠ 0) : fns T C (n + 1) j [.val (fr a), .val (fr b)] = .ok (.val (fr (a / b))) [.val (fr a), .val (fr b)] := by
  obtain ⟨h1, h2, h3, h4, h5⟩ := bd_x ha hb
  obtain ⟨h6, h7⟩ := bd_y ha hb hz
  have nz := num_ne hz
  have m1 := mul_bd (x := a.num) (y := b.den) ha.1 hb.2 (by omega)
  have m3 := mul_bd (x := a.den) (y := b.num) ha.2 hb.1 (by omega)
  have c := L (a.num * b.den) (a.den * b.num) h7 (to29 h1 (by omega)) (to29 h6 (by omega))
  rw [← num_dv] at c
  rw [fn_at hj (by decide) n rfl]
  simp_arith [ix_f0, ix_f1, c_eq_fr, c_ne_fr, ty_frt, len_fr, isN_fr, isB_fr, exR_fr, agT_fr, fr_int, fr_neg, bThr, List.replicate, List.append_nil, m1, m3, c, nz]
theorem f_less (n : Nat) (hj : T[j]? = some ⟨2, 2, bLess⟩) (ha : Bd N a) (hb : Bd M b) (h : N + M ≤ 2800) : fns T C (n + 1) j [.val (fr a), .val (fr b)] = .ok (.val (.bool (decide (a < b)))) [.val (fr a), .val (fr b)] := by
  have m1 := mul_bd (x := a.num) (y := b.den) ha.1 hb.2 (by omega)
  have m2 := mul_bd (x := b.num) (y := a.den) hb.1 ha.2 (by omega)
  have e : decide (a.num * b.den < b.num * a.den) = decide (a < b) := decide_eq_decide.mpr num_lt
  rw [fn_at hj (by decide) n rfl]
  simp_arith [ix_f0, ix_f1, c_eq_fr, c_ne_fr, ty_frt, len_fr, isN_fr, isB_fr, exR_fr, agT_fr, fr_int, fr_neg, bLess, List.replicate, List.append_nil, m1, m2, e]
theorem f_lmin {k : Nat} (n : Nat) (hi : fns T C n i [.val (fr a), .val (fr (-b))] = .ok (.val (fr (a + -b))) [.val (fr a), .val (fr (-b))]) (hj : T[j]? = some ⟨2, 2, bLMinus i⟩) : fns T C (n + 1) j [.val (fr a), .val (fr b)] = .ok (.val (fr (a - b))) [.val (fr a), .val (fr b)] := by
  have e : a + -b = a - b := by grind
  rw [e] at hi
  rw [fn_at hj (by decide) n rfl]
  simp_arith [ix_f0, ix_f1, c_eq_fr, c_ne_fr, ty_frt, len_fr, isN_fr, isB_fr, exR_fr, agT_fr, fr_int, fr_neg, bLMinus, List.replicate, List.append_nil, hi]
end
/-! ### is_exact, is_fraction -/
def bExact : CSs := (.cons (.ife (.or (.cons (.nt (.isi (.var 0) .tuple)) (.cons (.cmp .ne (.bi .len (.cons (.var 0) .nil)) (.cst (.int 2))) .nil))) (.cons (.ret (.cst (.bool false)))
.nil) .nil)
(.cons (.asgT [1, 2] (.var 0))
(.cons (.for_ (.nm 3) (.ex (.var 0)) (.cons (.ife (.or (.cons (.nt (.isi (.var 3) .int)) (.cons (.isi (.var 3) .bool) .nil))) (.cons (.ret (.cst (.bool false)))
.nil) .nil)
.nil))
(.cons (.ret (.and (.cons (.cmp .ge (.var 2) (.cst (.int 1))) (.cons (.cmp .eq (.bi .gcd (.cons (.var 1) (.cons (.var 2) .nil))) (.cst (.int 1))) .nil))))
.nil))))
def bFrac (j g : Nat) : CSs := (.cons (.ret (.and (.cons (.call j (.cons (.var 0) .nil)) (.cons (.cmp2 .le .le (.neg (.glb g)) (.idx (.var 0) (.cst (.int 0))) (.glb g)) (.cons (.cmp .le (.idx (.var 0) (.cst (.int 1))) (.glb g)) .nil)))))
.nil)
theorem f_exact {T : List Fd} {C : List D} {j : Nat} (hj : T[j]? = some ⟨1, 4, bExact⟩) (n : Nat) (q : Rat) : fns T C (n + 1) j [.val (fr q)] = .ok (.val (.bool true)) [.val (fr q)] := by
  have g : Int.gcd q.num q.den = 1 := q.reduced
  have d := den_pos q
  have d' : (1 : Int) ≤ q.den := by omega
  rw [fn_at hj (by decide) n rfl]
  simp_arith! [ix_f0, ix_f1, c_eq_fr, c_ne_fr, ty_frt, len_fr, isN_fr, isB_fr, exR_fr, agT_fr, fr_int, fr_neg, bExact, List.replicate, g, d', Int.natCast_one, Int.ofNat_one, Int.cast_ofNat_Int]
theorem f_frac {T : List Fd} {C : List D} {i j g : Nat} (hi : T[i]? = some ⟨1, 4, bExact⟩) (hj : T[j]? = some ⟨1, 1, bFrac i g⟩) (hg : C[g]? = some (.int (10 ^ 60))) (n : Nat) {q : Rat} {N : Nat} (h : Bd N q) (hN : N ≤ 199) : fns T C (n + 2) j [.val (fr q)] = .ok (.val (.bool true)) [.val (fr q)] := by
  have h' := Bd.mono h hN
  have k : (2 : Int) ^ 199 ≤ 10 ^ 60 := by decide
  have h1 : -(10 : Int) ^ 60 ≤ q.num := by have := h'.1; omega
  have h2 : q.num ≤ (10 : Int) ^ 60 := by have := h'.1; omega
  have h3 : (q.den : Int) ≤ (10 : Int) ^ 60 := by have := h'.2; omega
  have e := f_exact (C := C) hi n q
  generalize ((10 : Int) ^ 60) = Z at *
  rw [fn_at hj (by decide) (n + 1) rfl]
  simp_arith [ix_f0, ix_f1, c_eq_fr, c_ne_fr, ty_frt, len_fr, isN_fr, isB_fr, exR_fr, agT_fr, fr_int, fr_neg, bFrac, List.replicate, List.append_nil, hg, e, h1, h2, h3]
end Den
set_option autoImplicit false
set_option maxRecDepth 100000
set_option maxHeartbeats 4000000
/-! Den, part G1: is_number, small helps. -/
namespace Den
open PySem
def isnum (d : D) (a b : Int) : Bool := match d with
  | .int i => decide (a ≤ i) && decide (i ≤ b)
  | _ => false
def bNum : CSs := (.cons (.ret (.and (.cons (.isi (.var 0) .int) (.cons (.nt (.isi (.var 0) .bool)) (.cons (.cmp2 .le .le (.var 1) (.var 0) (.var 2)) .nil)))))
.nil)
theorem f_num {T : List Fd} {C : List D} {j : Nat} (hj : T[j]? = some ⟨3, 3, bNum⟩) (n : Nat) (d : D) (a b : Int) : fns T C (n + 1) j [.val d, .val (.int a), .val (.int b)] = .ok (.val (.bool (isnum d a b))) [.val d, .val (.int a), .val (.int b)] := by
  rw [fn_at hj (by decide) n rfl]
  have triv : ∀ d : D, isTyD .int d = false → isnum d a b = false → reR [Sl.val d, .val (.int a), .val (.int b)] (evB (fns T C n) C bNum [Sl.val d, .val (.int a), .val (.int b)]) = .ok (.val (.bool (isnum d a b))) [.val d, .val (.int a), .val (.int b)] := by
    intro d h1 h2
    simp_arith [bNum, h1, h2]
  cases d with
  | int i =>
    unfold isnum
    by_cases h1 : a ≤ i
    · simp_arith [bNum, h1, List.replicate, List.append_nil]
    · simp_arith [bNum, h1, List.replicate, List.append_nil]
  | bool i => simp_arith [bNum, isnum, List.replicate, List.append_nil]
  | _ => exact triv _ rfl rfl
theorem isnum_i {i a b : Int} : isnum (.int i) a b = (decide (a ≤ i) && decide (i ≤ b)) := rfl
theorem isnum_in {i a b : Int} (h : a ≤ i) (h' : i ≤ b) : isnum (.int i) a b = true := by rw [isnum_i, decide_eq_true h, decide_eq_true h']; rfl
theorem isnum_b {i : Bool} {a b : Int} : isnum (.bool i) a b = false := rfl
theorem isnum_n {a b : Int} : isnum .none a b = false := rfl
theorem isnum_s {i : Str} {a b : Int} : isnum (.str i) a b = false := rfl
theorem isnum_t {i : List D} {a b : Int} : isnum (.tuple i) a b = false := rfl
theorem isnum_l {i : List D} {a b : Int} : isnum (.list i) a b = false := rfl
/-! one of a few -/
theorem pick2 {a b : D} {r : Int} (h0 : 0 ≤ r) (h1 : r < 2) : ∃ d, L2.atI [a, b] r = some d ∧ (d = a ∨ d = b) := by
  have : r = 0 ∨ r = 1 := by omega
  rcases this with rfl | rfl
  · exact ⟨a, rfl, .inl rfl⟩
  · exact ⟨b, rfl, .inr rfl⟩
theorem pick2i {a b : Int} {r : Int} (h0 : 0 ≤ r) (h1 : r < 2) : ∃ d, L2.atI [PyData.int a, .int b] r = some (.int d) ∧ (d = a ∨ d = b) := by
  have : r = 0 ∨ r = 1 := by omega
  rcases this with rfl | rfl
  · exact ⟨a, rfl, .inl rfl⟩
  · exact ⟨b, rfl, .inr rfl⟩
theorem pick3i {a b c : Int} {r : Int} (h0 : 0 ≤ r) (h1 : r < 3) : ∃ d, L2.atI [PyData.int a, .int b, .int c] r = some (.int d) ∧ (d = a ∨ d = b ∨ d = c) := by
  have : r = 0 ∨ r = 1 ∨ r = 2 := by omega
  rcases this with rfl | rfl | rfl
  · exact ⟨a, rfl, .inl rfl⟩
  · exact ⟨b, rfl, .inr (.inl rfl)⟩
  · exact ⟨c, rfl, .inr (.inr rfl)⟩
theorem pick4i {a b c e : Int} {r : Int} (h0 : 0 ≤ r) (h1 : r < 4) : ∃ d, L2.atI [PyData.int a, .int b, .int c, .int e] r = some (.int d) ∧ (d = a ∨ d = b ∨ d = c ∨ d = e) := by
  have : r = 0 ∨ r = 1 ∨ r = 2 ∨ r = 3 := by omega
  rcases this with rfl | rfl | rfl | rfl
  · exact ⟨a, rfl, .inl rfl⟩
  · exact ⟨b, rfl, .inr (.inl rfl)⟩
  · exact ⟨c, rfl, .inr (.inr (.inl rfl))⟩
  · exact ⟨e, rfl, .inr (.inr (.inr rfl))⟩
theorem at_map {α : Type} {f : α → D} {xs : List α} {k : Nat} (h : k < xs.length) : L2.atI (xs.map f) (k : Int) = some (f xs[k]) := by
  rw [at_nat (by rw [List.length_map]; exact h), List.getElem_map]
theorem filt_true {α : Type} {ds : List α} : ds.filter (fun _ => true) = ds := List.filter_eq_self.mpr (fun _ _ => rfl)
theorem sIx_pos {n d : Nat} {k : Int} (h : 0 ≤ k) : HT.sIx n d (some k) = min k.toNat n := if_neg (by omega)
theorem cut_hi {ds : List D} {k : Int} (h : 0 ≤ k) : cutD ds none (some k) = ds.take k.toNat := by
  unfold cutD
  rw [sIx_pos h, HT.sIx_none, Nat.sub_zero, List.drop_zero]
  exact List.take_eq_take_min.symm
theorem cut_lo {ds : List D} {k : Int} (h : 0 ≤ k) : cutD ds (some k) none = ds.drop k.toNat := by
  unfold cutD
  rw [sIx_pos h, HT.sIx_none, List.take_of_length_le (by rw [List.length_drop]; exact Nat.le_refl _)]
  rcases Nat.le_total k.toNat ds.length with z | z
  · rw [Nat.min_eq_left z]
  · rw [Nat.min_eq_right z, List.drop_length, List.drop_eq_nil_of_le z]
theorem cut_m1 {ds : List D} : cutD ds none (some (-1)) = ds.dropLast := by
  unfold cutD
  have e : HT.sIx ds.length ds.length (some (-1)) = ds.length - 1 := by
    show (if (-1 : Int) < 0 then ((-1 : Int) + (ds.length : Int)).toNat else min (-1 : Int).toNat ds.length) = _
    rw [if_pos (by decide)]
    omega
  rw [e, HT.sIx_none, Nat.sub_zero, List.drop_zero, List.dropLast_eq_take]
theorem mem_rgI {i j k : Int} (h : k ∈ rgI i j) : i ≤ k ∧ k < j := by
  unfold rgI at h
  obtain ⟨n, hn, rfl⟩ := List.mem_map.mp h
  have := List.mem_range.mp hn
  omega
theorem mem_rgD {i j : Int} {d : D} (h : d ∈ (rgI i j).map PyData.int) : ∃ k, d = .int k ∧ i ≤ k ∧ k < j := by
  obtain ⟨k, hk, rfl⟩ := List.mem_map.mp h
  exact ⟨k, rfl, mem_rgI hk⟩
theorem mem_rg0 {m : Nat} {d : D} (h : d ∈ (rgI 0 m).map PyData.int) : ∃ k : Nat, d = .int (k : Int) ∧ k < m := by
  obtain ⟨k, rfl, h1, h2⟩ := mem_rgD h
  obtain ⟨n, rfl⟩ := Int.eq_ofNat_of_zero_le h1
  exact ⟨n, rfl, by omega⟩
theorem map_int_of {ds : List D} {P : Int → Prop} (h : ∀ d ∈ ds, ∃ i, d = .int i ∧ P i) : ∃ xs : List Int, ds = xs.map .int ∧ ∀ x ∈ xs, P x := by
  induction ds with
  | nil => exact ⟨[], rfl, fun _ z => by cases z⟩
  | cons d ds ih =>
    obtain ⟨i, rfl, hi⟩ := h d (List.mem_cons_self ..)
    obtain ⟨xs, rfl, hx⟩ := ih (fun d hd => h d (List.mem_cons_of_mem _ hd))
    exact ⟨i :: xs, rfl, fun x z => by
      rcases List.mem_cons.mp z with e | e
      · rw [e]; exact hi
      · exact hx x e⟩
end Den
set_option autoImplicit false
set_option maxRecDepth 100000
set_option maxHeartbeats 4000000
/-! Den, part G2: comprehensions and loops by what they leave. -/
namespace Den
open PySem
theorem lcM_inv {tg : Tg} {tst : M Bool} {elt : M D} {ρ : Ev} {d0 : D} {ds : List D} {X : R EV} (hX : lcM tg tst elt (.val d0, ds) ρ = X) (P : D → Prop) (I : Nat → Ev → Prop) (hp : plainAt ρ tg.vars = true) (h0 : I 0 (wipes ρ tg.vars)) (step : ∀ d ∈ ds, ∀ (k : Nat) (_ : k < ds.length) (ρ : Ev), I k ρ → ∃ ρ1 ρ2 ρ3 y, asgD (wipes ρ tg.vars) tg d = some ρ1 ∧ tst ρ1 = .ok true ρ2 ∧ elt ρ2 = .ok y ρ3 ∧ P y ∧ I (k + 1) ρ3) (hl : ds.length ≤ line) :
    ∃ ys ρ', X = .ok (.fresh ys) (restore ρ ρ' tg.vars) ∧ I ds.length ρ' ∧ ys.length = ds.length ∧ ∀ y ∈ ys, P y := by
  obtain ⟨ys, ρ', e, i, l, p⟩ := compL_inv P I ds.length ds 0 (by omega) (wipes ρ tg.vars) h0 step hl
  refine ⟨ys, ρ', ?_, by rw [Nat.zero_add] at i; exact i, l, p⟩
  rw [← hX, lc_m, hp, lcP_v, e, lcE_ok]
theorem lcM_gen' {tg : Tg} {tst : M Bool} {elt : M D} {ρ : Ev} {d0 : D} {ds : List D} {X : R EV} (hX : lcM tg tst elt (.val d0, ds) ρ = X) (p : D → Bool) (g : D → D) (hp : plainAt ρ tg.vars = true) (h : ∀ d ∈ ds, ∃ ρ1, asgD (wipes ρ tg.vars) tg d = some ρ1 ∧ tst ρ1 = .ok (p d) ρ1 ∧ (p d = true → elt ρ1 = .ok (g d) ρ1) ∧ wipes ρ1 tg.vars = wipes ρ tg.vars) (hl : ds.length ≤ line) :
    X = .ok (.fresh ((ds.filter p).map g)) ρ := by
  rw [← hX]; exact lcM_gen p g hp h hl
/-- none is kept -/
theorem lcM_none {tg : Tg} {tst : M Bool} {elt : M D} {ρ : Ev} {d0 : D} {ds : List D} {X : R EV} (hX : lcM tg tst elt (.val d0, ds) ρ = X) (hp : plainAt ρ tg.vars = true) (h : ∀ d ∈ ds, ∃ ρ1, asgD (wipes ρ tg.vars) tg d = some ρ1 ∧ tst ρ1 = .ok false ρ1 ∧ wipes ρ1 tg.vars = wipes ρ tg.vars) (hl : ds.length ≤ line) :
    X = .ok (.fresh []) ρ := by
  have := lcM_gen' hX (fun _ => false) (fun d => d) hp (fun d hd => by
    obtain ⟨ρ1, h1, h2, h3⟩ := h d hd
    exact ⟨ρ1, h1, h2, (fun z => by cases z), h3⟩) hl
  rw [this, List.filter_eq_nil_iff.mpr (fun _ _ => by simp)]
  rfl
/-- all are kept, each as g says -/
theorem lcM_map {tg : Tg} {tst : M Bool} {elt : M D} {ρ : Ev} {d0 : D} {ds : List D} {X : R EV} (hX : lcM tg tst elt (.val d0, ds) ρ = X) (g : D → D) (hp : plainAt ρ tg.vars = true) (h : ∀ d ∈ ds, ∃ ρ1, asgD (wipes ρ tg.vars) tg d = some ρ1 ∧ tst ρ1 = .ok true ρ1 ∧ elt ρ1 = .ok (g d) ρ1 ∧ wipes ρ1 tg.vars = wipes ρ tg.vars) (hl : ds.length ≤ line) :
    X = .ok (.fresh (ds.map g)) ρ := by
  have := lcM_gen' hX (fun _ => true) g hp (fun d hd => by
    obtain ⟨ρ1, h1, h2, h3, h4⟩ := h d hd
    exact ⟨ρ1, h1, h2, fun z => h3, h4⟩) hl
  rw [this, filt_true]
/-- a loop whose turns keep an invariant, with the count of turns -/
theorem forL_inv {tg : Tg} {body : Ev → SR} {ds : List D} {ρ : Ev} {X : SR} (hX : forL tg body ds ρ = X) (I : Nat → Ev → Prop) (h0 : I 0 ρ) (step : ∀ (k : Nat) (hk : k < ds.length) (ρ : Ev), I k ρ → ∃ ρ1 ρ2, asgD ρ tg ds[k] = some ρ1 ∧ (body ρ1 = .nx ρ2 ∨ body ρ1 = .ct ρ2) ∧ I (k + 1) ρ2) : ∃ ρ', X = .nx ρ' ∧ I ds.length ρ' := by
  obtain ⟨ρ', e, i⟩ := forL_nx I step (ρ := ρ) h0
  exact ⟨ρ', by rw [← hX]; exact e, i⟩
theorem rgI_get {i j : Int} {k : Nat} (h : k < ((rgI i j).map PyData.int).length) : ((rgI i j).map PyData.int)[k] = .int (i + k) := by
  unfold rgI
  simp
theorem eqv_ints : ∀ {xs ys : List Int}, PyData.eqvAll (xs.map .int) (ys.map .int) = decide (xs = ys)
  | [], [] => rfl
  | [], _ :: _ => rfl
  | _ :: _, [] => rfl
  | x :: xs, y :: ys => by
    have := eqv_ints (xs := xs) (ys := ys)
    simp only [List.map_cons, PyData.eqvAll, eqv_ii, this]
    by_cases h : x = y <;> by_cases h2 : xs = ys <;> simp [h, h2]
theorem dep_ints : ∀ {xs : List Int}, PyData.depthAll (xs.map .int) ≤ 1
  | [] => by decide
  | x :: xs => by
    have := dep_ints (xs := xs)
    simp only [List.map_cons, PyData.depthAll, PyData.depth]
    omega
theorem eqo_li {xs ys : List Int} : eqOk (.list (xs.map .int)) (.list (ys.map .int)) = true := by
  unfold eqOk
  rw [Bool.or_eq_true]
  right
  have := dep_ints (xs := ys)
  have e : (PyData.list (ys.map PyData.int)).depth = PyData.depthAll (ys.map .int) + 1 := by simp [PyData.depth]
  rw [e, decide_eq_true_iff]
  omega
theorem e_neI {xs ys : List Int} : cmpD .ne (.list (xs.map .int)) (.list (ys.map .int)) = some (!decide (xs = ys)) := by
  rw [c_ne eqo_li]
  simp only [PyData.eqv, eqv_ints]
theorem e_eqI {xs ys : List Int} : cmpD .eq (.list (xs.map .int)) (.list (ys.map .int)) = some (decide (xs = ys)) := by
  rw [c_eq eqo_li]
  simp only [PyData.eqv, eqv_ints]
theorem whlL_t {c : M Bool} {body : Ev → SR} {n : Nat} {ρ ρ1 ρ2 : Ev} (hc : c ρ = .ok true ρ1) (hb : body ρ1 = .nx ρ2) : whlL c body (n + 1) ρ = whlL c body n ρ2 := by
  rw [whlL]; simp only [hc, hb]
theorem whlL_f {c : M Bool} {body : Ev → SR} {n : Nat} {ρ ρ1 : Ev} (hc : c ρ = .ok false ρ1) : whlL c body (n + 1) ρ = .nx ρ1 := by
  rw [whlL]; simp only [hc]
theorem rg_line {j : Int} {m : Nat} (h : j ≤ m) (hm : m ≤ line) : ((rgI 0 j).map PyData.int).length ≤ line := by rw [rgI_len]; omega
end Den
set_option autoImplicit false
set_option maxRecDepth 100000
set_option maxHeartbeats 4000000
/-! Den, part T1: _law_draws, _law_take, _law_alike. -/
namespace Den
open PySem
def bDrIn : CSs := (.cons (.ife (.cmp .gt (.var 3) (.cst (.int 0))) (.cons (.exp (.app (.var 1) (.bin .mod (.bi .int (.cons (.var 3) .nil)) (.cst (.int 997)))))
(.cons (.asg 3 false (.bin .fdiv (.var 3) (.cst (.int 997))))
.nil)) .nil)
.nil)
def bDrOut : CSs := (.cons (.asg 3 false (.bi .abs (.cons (.var 2) .nil)))
(.cons (.ife (.cmp .lt (.var 3) (.bin .pow (.cst (.int 10)) (.cst (.int 18)))) (.cons (.asg 4 false (.bin .mod (.bi .int (.cons (.bin .add (.bin .mul (.var 3) (.cst (.int 48271))) (.cst (.int 11))) .nil)) (.cst (.int 2147483647))))
(.cons (.exp (.app (.var 1) (.bin .mod (.bi .int (.cons (.bin .add (.bin .mul (.var 4) (.cst (.int 69621))) (.var 3)) .nil)) (.cst (.int 2147483629)))))
(.cons (.exp (.app (.var 1) (.bin .mod (.bi .int (.cons (.bin .add (.var 4) (.bin .fdiv (.var 3) (.cst (.int 7)))) .nil)) (.cst (.int 1000003)))))
(.cons (.asg 3 false (.cst (.int 0)))
.nil)))) .nil)
(.cons (.for_ (.nm 5) (.rng (.cons (.cst (.int 60)) .nil)) bDrIn)
.nil)))
def bDrSeed : CSs := (.cons (.asg 6 false (.bin .mod (.bi .int (.cons (.bin .add (.bin .mul (.var 6) (.cst (.int 48271))) (.cst (.int 69621))) .nil)) (.cst (.int 2147483647))))
(.cons (.exp (.app (.var 1) (.bin .fdiv (.var 6) (.cst (.int 5)))))
.nil))
def bDraws : CSs := (.cons (.asg 1 true (.lst .nil))
(.cons (.for_ (.nm 2) (.ex (.var 0)) bDrOut)
(.cons (.asg 6 false (.cst (.int 1)))
(.cons (.ife (.cmp .gt (.bi .len (.cons (.var 0) .nil)) (.cst (.int 0))) (.cons (.asg 6 false (.bin .add (.cst (.int 1)) (.bi .abs (.cons (.idx (.var 0) (.cst (.int 0))) .nil))))
.nil) .nil)
(.cons (.for_ (.nm 5) (.rng (.cons (.cst (.int 900)) .nil)) bDrSeed)
(.frz 1 (.cons (.ret (.rev (.var 1)))
.nil)))))))
def bTake : CSs := (.cons (.ife (.cmp .eq (.bi .len (.cons (.var 0) .nil)) (.cst (.int 0))) (.cons (.ret (.cst (.int 0)))
.nil) .nil)
(.cons (.ret (.bin .mod (.bi .int (.cons (.pop (.var 0)) .nil)) (.var 1)))
.nil))
def bAlike (j : Nat) : CSs := (.cons (.ife (.or (.cons (.isi (.var 1) .list) (.cons (.isi (.var 1) .tuple) .nil))) (.cons (.ife (.or (.cons (.cmp .ne (.isi (.var 0) .list) (.isi (.var 1) .list)) (.cons (.cmp .ne (.isi (.var 0) .tuple) (.isi (.var 1) .tuple)) .nil))) (.cons (.ret (.cst (.bool false)))
.nil) .nil)
(.cons (.ret (.and (.cons (.cmp .eq (.bi .len (.cons (.var 0) .nil)) (.bi .len (.cons (.var 1) .nil))) (.cons (.cmp .eq (.lc (.var 2) (.nm 2) (.rng (.cons (.bi .len (.cons (.var 1) .nil)) .nil)) (.cons (.nt (.call j (.cons (.idx (.var 0) (.var 2)) (.cons (.idx (.var 1) (.var 2)) .nil)))) .nil)) (.lst .nil)) .nil))))
.nil)) .nil)
(.cons (.ife (.cmp .iss (.var 1) (.cst (.none))) (.cons (.ret (.cmp .iss (.var 0) (.cst (.none))))
.nil) .nil)
(.cons (.ife (.or (.cons (.isi (.var 1) .bool) (.cons (.isi (.var 0) .bool) .nil))) (.cons (.ret (.and (.cons (.isi (.var 0) .bool) (.cons (.isi (.var 1) .bool) (.cons (.cmp .eq (.var 0) (.var 1)) .nil)))))
.nil) .nil)
(.cons (.ife (.isi (.var 1) .int) (.cons (.ret (.and (.cons (.isi (.var 0) .int) (.cons (.cmp .eq (.var 0) (.var 1)) .nil))))
.nil) .nil)
(.cons (.ret (.and (.cons (.isi (.var 0) .str) (.cons (.cmp .eq (.var 0) (.var 1)) .nil))))
.nil)))))
def Ints (ds : List D) : Prop := ∃ l : List Int, ds = l.map .int
theorem Ints.nil : Ints [] := ⟨[], rfl⟩
theorem Ints.snoc {ds : List D} (h : Ints ds) (i : Int) : Ints (ds ++ [.int i]) := by
  obtain ⟨l, rfl⟩ := h
  exact ⟨l ++ [i], by rw [List.map_append]; rfl⟩
theorem Ints.rev {ds : List D} (h : Ints ds) : Ints ds.reverse := by
  obtain ⟨l, rfl⟩ := h
  exact ⟨l.reverse, by rw [List.map_reverse]⟩
theorem take_ok {T : List Fd} {C : List D} {j : Nat} (hj : T[j]? = some ⟨2, 2, bTake⟩) (n : Nat) {ds : List D} (h : Ints ds) (s : Int) (s0 : 0 < s) :
    ∃ (r : Int) (ds' : List D), 0 ≤ r ∧ r < s ∧ Ints ds' ∧ fns T C (n + 1) j [.own true false ds, .val (.int s)] = .ok (.val (.int r)) [.own true false ds', .val (.int s)] := by
  obtain ⟨l, rfl⟩ := h
  rw [fn_at hj (by decide) n rfl]
  rcases List.eq_nil_or_concat l with rfl | ⟨l, i, rfl⟩
  · refine ⟨0, [], by omega, s0, .nil, ?_⟩
    simp_arith [bTake, List.replicate, List.append_nil, List.map_nil]
  · have e : ((l.concat i).map PyData.int).getLast? = some (.int i) := by simp
    have e2 : ((l.concat i).map PyData.int).dropLast = l.map .int := by simp
    have e3 : ¬ ((((l.concat i).map PyData.int).length : Nat) : Int) = 0 := by simp; omega
    have sn : s ≠ 0 := by omega
    refine ⟨i.fmod s, l.map .int, Int.fmod_nonneg_of_pos _ s0, Int.fmod_lt_of_pos _ s0, ⟨l, rfl⟩, ?_⟩
    generalize (l.concat i).map PyData.int = xs at *
    simp_arith [bTake, List.replicate, List.append_nil, e3, pmR_own e, e2, sn]
section
variable {Γ : Fns} {C : List D}
theorem dr_in {l : List D} {N : Int} {sc c f d s : Sl} (hl : l.length < 16777216) (hN : 0 ≤ N) (h : Ints l) : ∃ l' N', Ints l' ∧ l'.length ≤ l.length + 1 ∧ 0 ≤ N' ∧ evB Γ C bDrIn [sc, .own false false l, c, .val (.int N), f, d, s] = .nx [sc, .own false false l', c, .val (.int N'), f, d, s] := by
  by_cases z : 0 < N
  · have o : divOk 997 = true := by decide
    refine ⟨l ++ [.int (N.fmod 997)], N.fdiv 997, h.snoc _, by simp, Int.fdiv_nonneg hN (by decide), ?_⟩
    simp_arith [bDrIn, z, hl, o]
  · refine ⟨l, N, h, by omega, hN, ?_⟩
    simp_arith [bDrIn, z]
theorem dr_out {l : List D} {z : Int} {sc c f d s : Sl} (hl : l.length < 16000000) (h : Ints l) (pc : plainSl c = true) (pf : plainSl f = true) (pd : plainSl d = true) :
    ∃ l' N' f' d', Ints l' ∧ l'.length ≤ l.length + 70 ∧ plainSl N' = true ∧ plainSl f' = true ∧ plainSl d' = true ∧ evB Γ C bDrOut [sc, .own false false l, .val (.int z), c, f, d, s] = .nx [sc, .own false false l', .val (.int z), N', f', d', s] := by
  have loop : ∀ (l : List D) (N : Int) (f : Sl), l.length < 16000010 → Ints l → plainSl f = true → 0 ≤ N → ∃ ρ', forL (.nm 5) (evB Γ C bDrIn) ((rgI 0 60).map .int) [sc, .own false false l, .val (.int z), .val (.int N), f, d, s] = .nx ρ' ∧ ∃ l' N' d', Ints l' ∧ l'.length ≤ l.length + 60 ∧ 0 ≤ N' ∧ plainSl d' = true ∧ ρ' = [sc, .own false false l', .val (.int z), .val (.int N'), f, d', s] := by
    intro l N f hl h pf hN
    have := forL_inv (tg := .nm 5) (body := evB Γ C bDrIn) (ds := (rgI 0 60).map .int) (ρ := [sc, .own false false l, .val (.int z), .val (.int N), f, d, s]) rfl (fun k ρ => ∃ l' N' d', Ints l' ∧ l'.length ≤ l.length + k ∧ 0 ≤ N' ∧ plainSl d' = true ∧ ρ = [sc, .own false false l', .val (.int z), .val (.int N'), f, d', s]) ⟨l, N, d, h, by omega, hN, pd, rfl⟩ (by
      rintro k hk ρ ⟨l', N', d', i1, i2, i3, i4, rfl⟩
      rw [rgI_len] at hk
      obtain ⟨l2, N2, j1, j2, j3, e⟩ := dr_in (Γ := Γ) (C := C) (sc := sc) (c := .val (.int z)) (f := f) (d := .val ((rgI 0 60).map PyData.int)[k]) (s := s) (l := l') (N := N') (by omega) i3 i1
      exact ⟨_, _, (by simp_arith! [i4]; rfl), .inl e, l2, N2, .val ((rgI 0 60).map PyData.int)[k], j1, by omega, j3, rfl, rfl⟩)
    obtain ⟨ρ', e, l', N', d', i1, i2, i3, i4, e2⟩ := this
    exact ⟨ρ', e, l', N', d', i1, by rw [rgI_len] at i2; omega, i3, i4, e2⟩
  have rg : ∀ ρ, rngM [.val (.int 60)] ρ = .ok (.val .none, (rgI 0 60).map .int) ρ := fun ρ => rg_1 (by decide) (by decide)
  have pw : powOk 10 18 = true := by decide
  have o7 : divOk 7 = true := by decide
  obtain ⟨N, hN⟩ : ∃ N : Int, N = if z < 0 then -z else z := ⟨_, rfl⟩
  have N0 : 0 ≤ N := by rw [hN]; split <;> omega
  by_cases c1 : N < 1000000000000000000
  · have m1 : mulOk N 48271 = true := mulOk_of 60 20 (by omega) (by decide) (by decide)
    have fb : 0 ≤ (N * 48271 + 11).fmod 2147483647 ∧ (N * 48271 + 11).fmod 2147483647 < 2147483647 := ⟨Int.fmod_nonneg_of_pos _ (by decide), Int.fmod_lt_of_pos _ (by decide)⟩
    obtain ⟨F, hF⟩ : ∃ F, (N * 48271 + 11).fmod 2147483647 = F := ⟨_, rfl⟩
    rw [hF] at fb
    have m2 : mulOk F 69621 = true := mulOk_of 32 20 (by omega) (by decide) (by decide)
    have q1 : l.length < 16777216 := by omega
    have q2 : l.length + 1 < 16777216 := by omega
    obtain ⟨ρ', e, l', N', d', i1, i2, i3, i4, rfl⟩ := loop (l ++ [.int ((F * 69621 + N).fmod 2147483629)] ++ [.int ((F + N.fdiv 7).fmod 1000003)]) 0 (.val (.int F)) (by simp; omega) ((h.snoc _).snoc _) rfl (by decide)
    refine ⟨l', .val (.int N'), .val (.int F), d', i1, ?_, rfl, rfl, i4, ?_⟩
    · simp at i2; omega
    · simp_arith! [bDrOut, rg, ← hN, c1, m1, m2, hF, pw, o7, cp_pl, pc, pf, q1, q2, List.length_append, e]
  · obtain ⟨ρ', e, l', N', d', i1, i2, i3, i4, rfl⟩ := loop l N f (by omega) h pf N0
    refine ⟨l', .val (.int N'), f, d', i1, by omega, rfl, pf, i4, ?_⟩
    simp_arith! [bDrOut, rg, ← hN, c1, pw, cp_pl, pc, pf, e]
end
theorem log2_succ (n : Nat) : (n + 1).log2 ≤ n.log2 + 1 := by
  have h1 : n + 1 < 2 ^ (n.log2 + 2) := by
    have : n < 2 ^ (n.log2 + 1) := Nat.lt_log2_self
    rw [Nat.pow_succ]
    have : 1 ≤ 2 ^ (n.log2 + 1) := Nat.one_le_two_pow
    omega
  have := (Nat.log2_lt (by omega)).mpr h1
  omega
theorem bits_log {z : Int} (h : Builtin.Int.intBits z ≤ 1048576) : z.natAbs.log2 ≤ 1048576 := by
  unfold Builtin.Int.intBits at h
  split at h
  · next e =>
    have : z = 0 := by simpa using e
    rw [this]; decide
  · omega
theorem draws_ok {T : List Fd} {C : List D} {j : Nat} (hj : T[j]? = some ⟨1, 7, bDraws⟩) (n : Nat) (ns : List Int) (hn : ns.length ≤ 63) (hb : ∀ z ∈ ns, Builtin.Int.intBits z ≤ 1048576) : ∃ ds : List D, Ints ds ∧ fns T C (n + 1) j [.val (.list (ns.map .int))] = .ok (.fresh ds) [.val (.list (ns.map .int))] := by
  rw [fn_at hj (by decide) n rfl]
  obtain ⟨sc, hsc⟩ : ∃ sc : Sl, sc = .val (.list (ns.map .int)) := ⟨_, rfl⟩
  have outer : ∃ ρ', forL (.nm 2) (evB (fns T C n) C bDrOut) (ns.map .int) [sc, .own false false [], .no, .no, .no, .no, .no] = .nx ρ' ∧ ∃ l' c f d e, Ints l' ∧ l'.length ≤ 70 * 63 ∧ plainSl c = true ∧ plainSl f = true ∧ plainSl d = true ∧ plainSl e = true ∧ ρ' = [sc, .own false false l', c, f, d, e, .no] := by
    have := forL_inv (tg := .nm 2) (body := evB (fns T C n) C bDrOut) (ds := ns.map .int) (ρ := [sc, .own false false [], .no, .no, .no, .no, .no]) rfl (fun k ρ => ∃ l' c f d e, Ints l' ∧ l'.length ≤ 70 * k ∧ plainSl c = true ∧ plainSl f = true ∧ plainSl d = true ∧ plainSl e = true ∧ ρ = [sc, .own false false l', c, f, d, e, .no]) ⟨[], .no, .no, .no, .no, .nil, by simp, rfl, rfl, rfl, rfl, rfl⟩ (by
      rintro k hk ρ ⟨l', c, f, d, e, i1, i2, p1, p2, p3, p4, rfl⟩
      have hk2 : k < ns.length := by rw [List.length_map] at hk; exact hk
      obtain ⟨l2, N2, f2, d2, j1, j2, j3, j4, j5, ee⟩ := dr_out (Γ := fns T C n) (C := C) (sc := sc) (z := ns[k]) (c := f) (f := d) (d := e) (s := .no) (l := l') (by omega) i1 p2 p3 p4
      refine ⟨[sc, .own false false l', .val (.int ns[k]), f, d, e, .no], _, (by rw [List.getElem_map]; simp_arith! [p1]), .inl ee, l2, .val (.int ns[k]), N2, f2, d2, j1, by omega, rfl, j3, j4, j5, rfl⟩)
    obtain ⟨ρ', e, l', c, f, d, e2, i1, i2, i3⟩ := this
    exact ⟨ρ', e, l', c, f, d, e2, i1, by rw [List.length_map] at i2; omega, i3⟩
  obtain ⟨ρ', e1, l', c, f, d, e, i1, i2, p1, p2, p3, p4, rfl⟩ := outer
  have seeds : ∀ s : Int, s.natAbs.log2 ≤ 1048577 → ∃ ρ', forL (.nm 5) (evB (fns T C n) C bDrSeed) ((rgI 0 900).map .int) [sc, .own false false l', c, f, d, e, .val (.int s)] = .nx ρ' ∧ ∃ l2 e2 s2, Ints l2 ∧ ρ' = [sc, .own false false l2, c, f, d, e2, s2] := by
    intro s hs
    have := forL_inv (tg := .nm 5) (body := evB (fns T C n) C bDrSeed) (ds := (rgI 0 900).map .int) (ρ := [sc, .own false false l', c, f, d, e, .val (.int s)]) rfl (fun k ρ => ∃ (l2 : List D) (e2 : Sl) (s2 : Int), Ints l2 ∧ l2.length ≤ 70 * 63 + k ∧ plainSl e2 = true ∧ (Int.natAbs s2).log2 ≤ 1048577 ∧ ρ = [sc, .own false false l2, c, f, d, e2, .val (.int s2)]) ⟨l', e, s, i1, by omega, p4, hs, rfl⟩ (by
      rintro k hk ρ ⟨l2, e2, s2, j1, j2, j3, j4, rfl⟩
      rw [rgI_len] at hk
      have m : mulOk s2 48271 = true := by
        unfold mulOk
        have : (48271 : Int).natAbs.log2 = 15 := by decide
        rw [this, decide_eq_true_iff]
        omega
      have o5 : divOk 5 = true := by decide
      have sb : 0 ≤ (s2 * 48271 + 69621).fmod 2147483647 ∧ (s2 * 48271 + 69621).fmod 2147483647 < 2147483647 := ⟨Int.fmod_nonneg_of_pos _ (by decide), Int.fmod_lt_of_pos _ (by decide)⟩
      obtain ⟨S, hS⟩ : ∃ S, (s2 * 48271 + 69621).fmod 2147483647 = S := ⟨_, rfl⟩
      rw [hS] at sb
      have ll : l2.length < 16777216 := by omega
      generalize ((rgI 0 900).map PyData.int)[k] = xk
      refine ⟨_, [sc, .own false false (l2 ++ [.int (S.fdiv 5)]), c, f, d, .val xk, .val (.int S)], (by simp_arith! [j3]; rfl), .inl ?_, _, .val xk, S, j1.snoc _, by simp; omega, rfl, ?_, rfl⟩
      · simp_arith! [bDrSeed, m, hS, ll, o5]
      · exact Nat.le_trans (log2_le (a := 31) (by omega)) (by decide))
    obtain ⟨ρ', e, l2, e2, s2, j1, _, _, _, rfl⟩ := this
    exact ⟨_, e, l2, e2, _, j1, rfl⟩
  have rg : ∀ ρ, rngM [.val (.int 900)] ρ = .ok (.val .none, (rgI 0 900).map .int) ρ := fun ρ => rg_1 (by decide) (by decide)
  cases ns with
  | nil =>
    obtain ⟨ρ', e3, l2, e2, s2, j1, rfl⟩ := seeds 1 (by decide)
    subst hsc
    refine ⟨l2.reverse, j1.rev, ?_⟩
    simp only [List.map_nil] at e1 e3
    simp_arith [bDraws, List.replicate, List.map_nil, rg, e1, e3]
  | cons z zs =>
    have hz := bits_log (hb z (List.mem_cons_self ..))
    have hlog : (1 + (if z < 0 then -z else z)).natAbs.log2 ≤ 1048577 := by
      have : (1 + (if z < 0 then -z else z)).natAbs = z.natAbs + 1 := by split <;> omega
      rw [this]
      exact Nat.le_trans (log2_succ _) (by omega)
    obtain ⟨ρ', e3, l2, e2, s2, j1, rfl⟩ := seeds _ hlog
    subst hsc
    refine ⟨l2.reverse, j1.rev, ?_⟩
    have lz : (0 : Int) < ((zs.length + 1 : Nat) : Int) := by omega
    simp only [List.map_cons] at e1 e3
    simp_arith [bDraws, List.replicate, List.map_cons, List.length_map, rg, e1, lz, e3]
end Den
set_option autoImplicit false
set_option maxRecDepth 100000
set_option maxHeartbeats 4000000
/-! Den, part T2: _law_alike tells that a value is like itself. -/
namespace Den
open PySem
inductive Al : Nat → D → Prop
  | none {n : Nat} : Al n .none
  | int {n : Nat} {i : Int} : Al n (.int i)
  | bool {n : Nat} {i : Bool} : Al n (.bool i)
  | str {n : Nat} {i : Str} : Al n (.str i)
  | list {n : Nat} {ds : List D} (h : ∀ d ∈ ds, Al n d) (hl : ds.length ≤ 1000000) : Al (n + 1) (.list ds)
  | tuple {n : Nat} {ds : List D} (h : ∀ d ∈ ds, Al n d) (hl : ds.length ≤ 1000000) : Al (n + 1) (.tuple ds)
theorem e_str {s : Str} : cmpD .eq (.str s) (.str s) = some true := by
  rw [c_eq (by rfl)]
  simp [PyData.eqv]
theorem e_bool {b : Bool} : cmpD .eq (.bool b) (.bool b) = some true := by cases b <;> rfl
theorem e_boolT {a b : Bool} : cmpD .eq (.bool a) (.bool b) = some (a == b) := by cases a <;> cases b <;> rfl
theorem e_boolN {a b : Bool} : cmpD .ne (.bool a) (.bool b) = some (!(a == b)) := by cases a <;> cases b <;> rfl
theorem alike_ok {T : List Fd} {C : List D} {j : Nat} (hj : T[j]? = some ⟨2, 3, bAlike j⟩) {m : Nat} {d : D} (h : Al m d) : ∀ n, m ≤ n → fns T C (n + 1) j [.val d, .val d] = .ok (.val (.bool true)) [.val d, .val d] := by
  have seq : ∀ {n m : Nat} {c : D} {ds : List D} {X : Den.R EV}, (∀ d ∈ ds, ∀ n, m ≤ n → fns T C (n + 1) j [.val d, .val d] = .ok (.val (.bool true)) [.val d, .val d]) → (c = .list ds ∨ c = .tuple ds) → m + 1 ≤ n → ds.length ≤ 1000000 →
      lcM (.nm 2) (evTs (fns T C n) C (.cons (.nt (.call j (.cons (.idx (.var 0) (.var 2)) (.cons (.idx (.var 1) (.var 2)) .nil)))) .nil)) (bnd (evE (fns T C n) C (.var 2)) coe) (.val .none, (rgI 0 ds.length).map .int) [.val c, .val c, .no] = X → X = .ok (.fresh []) [.val c, .val c, .no] := by
    intro n m c ds X ih hc hn hl hX
    refine lcM_none hX rfl ?_ (by rw [rgI_len]; unfold line; omega)
    intro d hd
    obtain ⟨k, rfl, hk⟩ := mem_rg0 hd
    have e := ih _ (List.getElem_mem hk) (n - 1) (by omega)
    rw [Nat.sub_add_cancel (by omega)] at e
    have i1 := at_nat hk
    generalize ds[k] = x at *
    refine ⟨[.val c, .val c, .val (.int k)], rfl, ?_, rfl⟩
    rcases hc with rfl | rfl <;> simp_arith [i1, e]
  induction h with
  | none => intro n _; rw [fn_at hj (by decide) n rfl]; simp_arith [bAlike, List.replicate]
  | int => intro n _; rw [fn_at hj (by decide) n rfl]; simp_arith [bAlike, List.replicate]
  | bool => intro n _; rw [fn_at hj (by decide) n rfl]; simp_arith [bAlike, List.replicate, e_bool]
  | str => intro n _; rw [fn_at hj (by decide) n rfl]; simp_arith [bAlike, List.replicate, e_str]
  | @list m ds h hl ih =>
    intro n hn
    have rg : ∀ ρ, rngM [.val (.int ds.length)] ρ = .ok (.val .none, (rgI 0 ds.length).map .int) ρ := fun ρ => rg_1 (by omega) (by omega)
    have en : ∀ a b : Bool, cmpD .ne (.bool a) (.bool b) = some (!(a == b)) := fun a b => e_boolN
    rw [fn_at hj (by decide) n rfl]
    simp_arith [bAlike, List.replicate, rg, en]
    generalize hX : lcM _ _ _ _ _ = X
    have := seq (c := .list ds) ih (.inl rfl) hn hl hX
    subst this
    simp_arith! []
  | @tuple m ds h hl ih =>
    intro n hn
    have rg : ∀ ρ, rngM [.val (.int ds.length)] ρ = .ok (.val .none, (rgI 0 ds.length).map .int) ρ := fun ρ => rg_1 (by omega) (by omega)
    have en : ∀ a b : Bool, cmpD .ne (.bool a) (.bool b) = some (!(a == b)) := fun a b => e_boolN
    rw [fn_at hj (by decide) n rfl]
    simp_arith [bAlike, List.replicate, rg, en]
    generalize hX : lcM _ _ _ _ _ = X
    have := seq (c := .tuple ds) ih (.inr rfl) hn hl hX
    subst this
    simp_arith! []
end Den
set_option autoImplicit false
set_option maxRecDepth 100000
set_option maxHeartbeats 4000000
/-! Den, part G3: comprehensions whose tests move the state; zipped results. -/
namespace Den
open PySem
theorem compL_flt {vs : List Nat} {tg : Tg} {tst : M Bool} {elt : M D} (I : Nat → Ev → Prop) (K : Nat) : ∀ (ds : List D) (k : Nat) (_ : k + ds.length ≤ K) (ρ : Ev), I k ρ → (∀ d ∈ ds, ∀ (k : Nat) (_ : k < K) (ρ : Ev), I k ρ → ∃ ρ1 ρ2 b, asgD (wipes ρ vs) tg d = some ρ1 ∧ tst ρ1 = .ok b ρ2 ∧ (b = true → elt ρ2 = .ok d ρ2) ∧ I (k + 1) ρ2) → ds.length ≤ line →
    ∃ ys ρ', compL vs tg tst elt ds ρ = .ok ys ρ' ∧ I (k + ds.length) ρ' ∧ ys.Sublist ds
  | [], k, _, ρ, i, _, _ => ⟨[], ρ, rfl, i, List.Sublist.refl _⟩
  | d :: ds, k, hK, ρ, i, h, hl => by
    rw [List.length_cons] at hK
    obtain ⟨ρ1, ρ2, b, h1, h2, h3, h5⟩ := h d (List.mem_cons_self ..) k (by omega) ρ i
    obtain ⟨ys, ρ', e, i', s⟩ := compL_flt I K ds (k + 1) (by omega) ρ2 h5 (fun d hd => h d (List.mem_cons_of_mem _ hd)) (Nat.le_of_succ_le hl)
    have ek : k + (d :: ds).length = k + 1 + ds.length := by rw [List.length_cons]; omega
    rw [ek]
    cases b with
    | false =>
      refine ⟨ys, ρ', ?_, i', s.cons _⟩
      rw [cl_cons, h1, clA_s, h2, clT_ok, if_neg (by decide), e]
    | true =>
      refine ⟨d :: ys, ρ', ?_, i', s.cons_cons _⟩
      rw [cl_cons, h1, clA_s, h2, clT_ok, if_pos rfl, h3 rfl, clE_ok, e, clY_ok]
      exact Nat.lt_of_le_of_lt s.length_le hl
theorem lcM_flt {tg : Tg} {tst : M Bool} {elt : M D} {ρ : Ev} {d0 : D} {ds : List D} {X : R EV} (hX : lcM tg tst elt (.val d0, ds) ρ = X) (I : Nat → Ev → Prop) (hp : plainAt ρ tg.vars = true) (h0 : I 0 (wipes ρ tg.vars)) (step : ∀ d ∈ ds, ∀ (k : Nat) (_ : k < ds.length) (ρ : Ev), I k ρ → ∃ ρ1 ρ2 b, asgD (wipes ρ tg.vars) tg d = some ρ1 ∧ tst ρ1 = .ok b ρ2 ∧ (b = true → elt ρ2 = .ok d ρ2) ∧ I (k + 1) ρ2) (hl : ds.length ≤ line) :
    ∃ ys ρ', X = .ok (.fresh ys) (restore ρ ρ' tg.vars) ∧ I ds.length ρ' ∧ ys.Sublist ds := by
  obtain ⟨ys, ρ', e, i, s⟩ := compL_flt I ds.length ds 0 (by omega) (wipes ρ tg.vars) h0 step hl
  refine ⟨ys, ρ', ?_, by rw [Nat.zero_add] at i; exact i, s⟩
  rw [← hX, lc_m, hp, lcP_v, e, lcE_ok]
theorem compL_zip {β : Type} {vs : List Nat} {tg : Tg} {tst : M Bool} {elt : M D} (F : D → β → D) (P : β → Prop) (I : Nat → Ev → Prop) (K : Nat) : ∀ (ds : List D) (k : Nat) (_ : k + ds.length ≤ K) (ρ : Ev), I k ρ → (∀ d ∈ ds, ∀ (k : Nat) (_ : k < K) (ρ : Ev), I k ρ → ∃ ρ1 ρ2 ρ3 x, asgD (wipes ρ vs) tg d = some ρ1 ∧ tst ρ1 = .ok true ρ2 ∧ elt ρ2 = .ok (F d x) ρ3 ∧ P x ∧ I (k + 1) ρ3) → ds.length ≤ line →
    ∃ xs ρ', compL vs tg tst elt ds ρ = .ok (List.zipWith F ds xs) ρ' ∧ I (k + ds.length) ρ' ∧ xs.length = ds.length ∧ ∀ x ∈ xs, P x
  | [], k, _, ρ, i, _, _ => ⟨[], ρ, rfl, i, rfl, fun _ z => (by cases z)⟩
  | d :: ds, k, hK, ρ, i, h, hl => by
    rw [List.length_cons] at hK
    obtain ⟨ρ1, ρ2, ρ3, x, h1, h2, h3, h4, h5⟩ := h d (List.mem_cons_self ..) k (by omega) ρ i
    obtain ⟨xs, ρ', e, i', l', p'⟩ := compL_zip F P I K ds (k + 1) (by omega) ρ3 h5 (fun d hd => h d (List.mem_cons_of_mem _ hd)) (Nat.le_of_succ_le hl)
    refine ⟨x :: xs, ρ', ?_, ?_, by rw [List.length_cons, List.length_cons, l'], ?_⟩
    · rw [cl_cons, h1, clA_s, h2, clT_ok, if_pos rfl, h3, clE_ok, e, clY_ok, List.zipWith_cons_cons]
      rw [List.length_zipWith, l', Nat.min_self]; exact hl
    · have : k + (d :: ds).length = k + 1 + ds.length := by rw [List.length_cons]; omega
      rw [this]; exact i'
    · intro z hz
      rcases List.mem_cons.mp hz with e | e
      · rw [e]; exact h4
      · exact p' z e
theorem lcM_zip {β : Type} {tg : Tg} {tst : M Bool} {elt : M D} {ρ : Ev} {d0 : D} {ds : List D} {X : R EV} (hX : lcM tg tst elt (.val d0, ds) ρ = X) (F : D → β → D) (P : β → Prop) (I : Nat → Ev → Prop) (hp : plainAt ρ tg.vars = true) (h0 : I 0 (wipes ρ tg.vars)) (step : ∀ d ∈ ds, ∀ (k : Nat) (_ : k < ds.length) (ρ : Ev), I k ρ → ∃ ρ1 ρ2 ρ3 x, asgD (wipes ρ tg.vars) tg d = some ρ1 ∧ tst ρ1 = .ok true ρ2 ∧ elt ρ2 = .ok (F d x) ρ3 ∧ P x ∧ I (k + 1) ρ3) (hl : ds.length ≤ line) :
    ∃ xs ρ', X = .ok (.fresh (List.zipWith F ds xs)) (restore ρ ρ' tg.vars) ∧ I ds.length ρ' ∧ xs.length = ds.length ∧ ∀ x ∈ xs, P x := by
  obtain ⟨xs, ρ', e, i, l, p⟩ := compL_zip F P I ds.length ds 0 (by omega) (wipes ρ tg.vars) h0 step hl
  refine ⟨xs, ρ', ?_, by rw [Nat.zero_add] at i; exact i, l, p⟩
  rw [← hX, lc_m, hp, lcP_v, e, lcE_ok]
theorem map_of {α : Type} {f : α → D} {ds : List D} {P : α → Prop} (h : ∀ d ∈ ds, ∃ i, d = f i ∧ P i) : ∃ xs : List α, ds = xs.map f ∧ ∀ x ∈ xs, P x := by
  induction ds with
  | nil => exact ⟨[], rfl, fun _ z => by cases z⟩
  | cons d ds ih =>
    obtain ⟨i, rfl, hi⟩ := h d (List.mem_cons_self ..)
    obtain ⟨xs, rfl, hx⟩ := ih (fun d hd => h d (List.mem_cons_of_mem _ hd))
    exact ⟨i :: xs, rfl, fun x z => by
      rcases List.mem_cons.mp z with e | e
      · rw [e]; exact hi
      · exact hx x e⟩
end Den
set_option autoImplicit false
set_option maxRecDepth 100000
set_option maxHeartbeats 4000000
/-! Den, part G4: loops over lists of one's own. -/
namespace Den
open PySem
section
variable {Γ : Fns} {C : List D} {ρ : Ev}
theorem rv_own {i : Nat} {p l : Bool} {ds : List D} (h : ρ[i]? = some (.own p l ds)) : revI (.loc i) ρ = .ok (.loc i, ds.reverse) ρ := by
  have e : peekM (.loc i) ρ = .ok (.list ds) ρ := by
    unfold peekM
    rw [pk_loc, h]
    rfl
  unfold revI
  rw [bnd_bR, e]
  rfl
theorem for_own {tg : Tg} {b : CSs} {i : Nat} {p : Bool} {ds d0 : List D} (h : ρ[i]? = some (.own p false d0)) : k_for Γ C tg b (.loc i, ds) ρ = finR (.loc i) (forL tg (evB Γ C b) ds (ρ.set i (.own p true d0))) := by
  unfold k_for lock
  simp only [h]
theorem fin_own_nx {i : Nat} {p : Bool} {d0 : List D} (h : ρ[i]? = some (.own p true d0)) : finR (.loc i) (.nx ρ) = .nx (ρ.set i (.own p false d0)) := by
  unfold finR unlockR
  simp only [h]
theorem fin_own_rt {i : Nat} {p : Bool} {d0 : List D} {v : EV} (h : ρ[i]? = some (.own p true d0)) : finR (.loc i) (.rt v ρ) = .rt v (ρ.set i (.own p false d0)) := by
  unfold finR unlockR
  simp only [h]
end
theorem eqo_ti {xs ys : List Int} : eqOk (.tuple (xs.map .int)) (.tuple (ys.map .int)) = true := by
  unfold eqOk
  rw [Bool.or_eq_true]
  right
  have := dep_ints (xs := ys)
  have e : (PyData.tuple (ys.map PyData.int)).depth = PyData.depthAll (ys.map .int) + 1 := by simp [PyData.depth]
  rw [e, decide_eq_true_iff]
  omega
theorem e_neT {xs ys : List Int} : cmpD .ne (.tuple (xs.map .int)) (.tuple (ys.map .int)) = some (!decide (xs = ys)) := by
  rw [c_ne eqo_ti]
  simp only [PyData.eqv, eqv_ints]
theorem e_eqT {xs ys : List Int} : cmpD .eq (.tuple (xs.map .int)) (.tuple (ys.map .int)) = some (decide (xs = ys)) := by
  rw [c_eq eqo_ti]
  simp only [PyData.eqv, eqv_ints]
theorem getD_at {α : Type} {xs : List α} {k : Nat} {d : α} (h : k < xs.length) : xs.getD k d = xs[k] := by
  rw [List.getD_eq_getElem?_getD, List.getElem?_eq_getElem h]; rfl
theorem at_m1 {α : Type} {xs : List α} {x : α} (h : xs.getLast? = some x) : L2.atI xs (-1) = some x := by
  rcases List.eq_nil_or_concat xs with rfl | ⟨l, y, rfl⟩
  · cases h
  · rw [List.concat_eq_append] at *
    rw [List.getLast?_append] at h
    simp at h
    rw [← h]
    exact at_last
/-- in a list that is mapped -/
theorem at_nat' {α : Type} {xs : List α} {k : Nat} (h : k < xs.length) : L2.atI xs (k : Int) = some xs[k] := by
  unfold L2.atI L2.ixN
  rw [if_pos (by omega), if_pos (by omega), Int.toNat_natCast]
  exact List.getElem?_eq_getElem h
theorem at_pred {α : Type} {xs : List α} {k : Nat} (h : k < xs.length) (h1 : 1 ≤ k) : L2.atI xs ((k : Int) - 1) = some (xs[k - 1]'(by omega)) := by
  have := at_nat' (xs := xs) (k := k - 1) (by omega)
  rw [← this]; congr 1; omega
theorem at_succ {α : Type} {xs : List α} {k : Nat} (h : k + 1 < xs.length) : L2.atI xs ((k : Int) + 1) = some xs[k + 1] := by
  have := at_nat' h
  rw [← this]; congr 1
end Den
set_option autoImplicit false
set_option maxRecDepth 100000
set_option maxHeartbeats 4000000
namespace Den.T
open PySem PySem.Spec PyProof.Rows L2 GxR Den
/-! ### the text of rw_matchedandcleared_k11_whole_telling_the -/
abbrev R : PySem.W.OpenRow := PySem.W.OpenLaw.row PySem.Challenge.rw_matchedandcleared_k11_whole_telling_the
def top (i : Nat) : Stmt := PySem.Challenge.pw_matchedandcleared_k11_whole_telling_the.main.body.getD i (.Pass ⟨0, 0, 0, 0⟩)
def b_is_number : CSs := (.cons (.ret (.and (.cons (.isi (.var 0) .int) (.cons (.nt (.isi (.var 0) .bool)) (.cons (.cmp2 .le .le (.var 1) (.var 0) (.var 2)) .nil)))))
.nil)
def e_is_number : Entry := ⟨⟨("is_number", none), "is_number", "is_number", defArgs (top 5), defBody (top 5), defScope (top 5), [], []⟩, ["value", "least", "most"], ["value", "least", "most"], ⟨3, 3, b_is_number⟩, false, false⟩
def b_are_worths : CSs := (.cons (.ife (.or (.cons (.nt (.isi (.var 0) .tuple)) (.cons (.cmp .gt (.bi .len (.cons (.var 0) .nil)) (.glb 0)) .nil))) (.cons (.ret (.cst (.bool false)))
.nil) .nil)
(.cons (.ife (.nt (.gx .all (.call 0 (.cons (.var 1) (.cons (.cst (.int 1)) (.cons (.glb 3) .nil)))) (.nm 1) (.ex (.var 0)) .nil)) (.cons (.ret (.cst (.bool false)))
.nil) .nil)
(.cons (.ret (.gx .all (.cmp .ge (.idx (.var 0) (.bin .sub (.var 2) (.cst (.int 1)))) (.idx (.var 0) (.var 2))) (.nm 2) (.rng (.cons (.cst (.int 1)) (.cons (.bi .len (.cons (.var 0) .nil)) .nil))) .nil))
.nil)))
def e_are_worths : Entry := ⟨⟨("are_worths", none), "are_worths", "are_worths", defArgs (top 11), defBody (top 11), defScope (top 11), [], []⟩, ["value", "one", "at"], ["value"], ⟨1, 3, b_are_worths⟩, true, false⟩
def b_is_issue : CSs := (.cons (.ife (.or (.cons (.nt (.isi (.var 0) .tuple)) (.cons (.cmp .ne (.bi .len (.cons (.var 0) .nil)) (.cst (.int 2))) (.cons (.nt (.call 0 (.cons (.idx (.var 0) (.cst (.int 0))) (.cons (.cst (.int 1)) (.cons (.glb 2) .nil))))) .nil)))) (.cons (.ret (.cst (.bool false)))
.nil) .nil)
(.cons (.ife (.or (.cons (.nt (.isi (.idx (.var 0) (.cst (.int 1))) .tuple)) (.cons (.nt (.cmp2 .le .le (.cst (.int 1)) (.bi .len (.cons (.idx (.var 0) (.cst (.int 1))) .nil)) (.glb 1))) .nil))) (.cons (.ret (.cst (.bool false)))
.nil) .nil)
(.cons (.ret (.gx .all (.call 1 (.cons (.var 1) .nil)) (.nm 1) (.ex (.idx (.var 0) (.cst (.int 1)))) .nil))
.nil)))
def e_is_issue : Entry := ⟨⟨("is_issue", none), "is_issue", "is_issue", defArgs (top 12), defBody (top 12), defScope (top 12), [], []⟩, ["value", "one"], ["value"], ⟨1, 2, b_is_issue⟩, true, false⟩
def b_steps_of : CSs := (.cons (.asg 1 true (.lst .nil))
(.cons (.for_ (.tp [2, 3]) (.enum (.idx (.var 0) (.cst (.int 1)))) (.cons (.exp (.ext (.var 1) (.lc (.tup (.cons (.bin .sub (.cst (.int 0)) (.var 5)) (.cons (.var 2) (.cons (.var 4) .nil)))) (.tp [4, 5]) (.enum (.var 3)) .nil)))
.nil))
(.frz 1 (.cons (.ret (.bi .tuple (.cons (.lc (.tup (.cons (.bin .sub (.cst (.int 0)) (.var 5)) (.cons (.var 2) (.cons (.var 4) .nil)))) (.tp [5, 2, 4]) (.ex (.bi .sorted (.cons (.var 1) .nil))) .nil) .nil)))
.nil))))
def e_steps_of : Entry := ⟨⟨("steps_of", none), "steps_of", "steps_of", defArgs (top 13), defBody (top 13), defScope (top 13), [], []⟩, ["issue", "found", "bidder", "worths", "number", "worth"], ["issue"], ⟨1, 6, b_steps_of⟩, false, false⟩
def b_gets : CSs := (.cons (.asg 1 false (.slc (.call 3 (.cons (.var 0) .nil)) .nil (.cons (.idx (.var 0) (.cst (.int 0))) .nil)))
(.cons (.ret (.bi .tuple (.cons (.lc (.bi .len (.cons (.lc (.cst (.int 1)) (.tp [2, 3, 2]) (.ex (.var 1)) (.cons (.cmp .eq (.var 3) (.var 4)) .nil)) .nil)) (.nm 4) (.rng (.cons (.bi .len (.cons (.idx (.var 0) (.cst (.int 1))) .nil)) .nil)) .nil) .nil)))
.nil))
def e_gets : Entry := ⟨⟨("gets", none), "gets", "gets", defArgs (top 14), defBody (top 14), defScope (top 14), [], []⟩, ["issue", "won", "_", "one", "bidder"], ["issue"], ⟨1, 5, b_gets⟩, false, false⟩
def b_one_price : CSs := (.cons (.asg 1 false (.slc (.call 3 (.cons (.var 0) .nil)) (.cons (.idx (.var 0) (.cst (.int 0))) .nil) .nil))
(.cons (.ret (.ite (.cmp .gt (.bi .len (.cons (.var 1) .nil)) (.cst (.int 0))) (.idx (.idx (.var 1) (.cst (.int 0))) (.cst (.int 0))) (.cst (.int 0))))
.nil))
def e_one_price : Entry := ⟨⟨("one_price", none), "one_price", "one_price", defArgs (top 17), defBody (top 17), defScope (top 17), [], []⟩, ["issue", "lost"], ["issue"], ⟨1, 2, b_one_price⟩, false, false⟩
def b_without : CSs := (.cons (.ret (.call 10 (.cons (.var 0) (.cons (.var 1) (.cons (.tup .nil) .nil)))))
.nil)
def e_without : Entry := ⟨⟨("without", none), "without", "without", defArgs (top 18), defBody (top 18), defScope (top 18), [], []⟩, ["issue", "bidder"], ["issue", "bidder"], ⟨2, 2, b_without⟩, false, false⟩
def b_harm : CSs := (.cons (.asg 2 false (.slc (.call 3 (.cons (.var 0) .nil)) .nil (.cons (.idx (.var 0) (.cst (.int 0))) .nil)))
(.cons (.asg 3 false (.slc (.call 3 (.cons (.call 6 (.cons (.var 0) (.cons (.var 1) .nil))) .nil)) .nil (.cons (.idx (.var 0) (.cst (.int 0))) .nil)))
(.cons (.ret (.bi .sum (.cons (.lc (.idx (.var 4) (.cst (.int 0))) (.nm 4) (.ex (.var 3)) (.cons (.cmp .nin (.var 4) (.var 2)) .nil)) .nil)))
.nil)))
def e_harm : Entry := ⟨⟨("harm", none), "harm", "harm", defArgs (top 19), defBody (top 19), defScope (top 19), [], []⟩, ["issue", "bidder", "won", "there", "step"], ["issue", "bidder"], ⟨2, 5, b_harm⟩, false, false⟩
def b_dues : CSs := (.cons (.ife (.or (.cons (.nt (.isi (.var 1) .str)) (.cons (.cmp .nin (.var 1) (.glb 4)) .nil))) (.cons (.rse 2)
.nil) .nil)
(.cons (.asg 2 true (.lst .nil))
(.cons (.for_ (.tp [3, 4]) (.enum (.call 4 (.cons (.var 0) .nil))) (.cons (.ife (.cmp .eq (.var 1) (.cst (.str "one"))) (.cons (.exp (.app (.var 2) (.bin .mul (.call 5 (.cons (.var 0) .nil)) (.var 4))))
.nil) (.cons (.ife (.cmp .eq (.var 1) (.cst (.str "each"))) (.cons (.exp (.app (.var 2) (.bi .sum (.cons (.slc (.idx (.idx (.var 0) (.cst (.int 1))) (.var 3)) .nil (.cons (.var 4) .nil)) .nil))))
.nil) (.cons (.exp (.app (.var 2) (.call 7 (.cons (.var 0) (.cons (.var 3) .nil)))))
.nil))
.nil))
.nil))
(.frz 2 (.cons (.ret (.bi .tuple (.cons (.var 2) .nil)))
.nil)))))
def e_dues : Entry := ⟨⟨("dues", none), "dues", "dues", defArgs (top 20), defBody (top 20), defScope (top 20), [], []⟩, ["issue", "rule", "found", "bidder", "many"], ["issue", "rule"], ⟨2, 5, b_dues⟩, false, false⟩
def b_gain : CSs := (.cons (.ife (.nt (.call 0 (.cons (.var 2) (.cons (.cst (.int 0)) (.cons (.bin .sub (.bi .len (.cons (.idx (.var 0) (.cst (.int 1))) .nil)) (.cst (.int 1))) .nil))))) (.cons (.rse 1)
.nil) .nil)
(.cons (.ret (.bin .sub (.bi .sum (.cons (.slc (.var 3) .nil (.cons (.idx (.call 4 (.cons (.var 0) .nil)) (.var 2)) .nil)) .nil)) (.idx (.call 8 (.cons (.var 0) (.cons (.var 1) .nil))) (.var 2))))
.nil))
def e_gain : Entry := ⟨⟨("gain", none), "gain", "gain", defArgs (top 21), defBody (top 21), defScope (top 21), [], []⟩, ["issue", "rule", "bidder", "true"], ["issue", "rule", "bidder", "true"], ⟨4, 4, b_gain⟩, false, false⟩
def b_told_otherwise : CSs := (.cons (.ret (.tup (.cons (.idx (.var 0) (.cst (.int 0))) (.cons (.bin .add (.bin .add (.slc (.idx (.var 0) (.cst (.int 1))) .nil (.cons (.var 1) .nil)) (.tup (.cons (.var 2) .nil))) (.slc (.idx (.var 0) (.cst (.int 1))) (.cons (.bin .add (.var 1) (.cst (.int 1))) .nil) .nil)) .nil))))
.nil)
def e_told_otherwise : Entry := ⟨⟨("told_otherwise", none), "told_otherwise", "told_otherwise", defArgs (top 22), defBody (top 22), defScope (top 22), [], []⟩, ["issue", "bidder", "other"], ["issue", "bidder", "other"], ⟨3, 3, b_told_otherwise⟩, false, false⟩
def b_law_draws : CSs := (.cons (.asg 1 true (.lst .nil))
(.cons (.for_ (.nm 2) (.ex (.var 0)) (.cons (.asg 3 false (.bi .abs (.cons (.var 2) .nil)))
(.cons (.ife (.cmp .lt (.var 3) (.bin .pow (.cst (.int 10)) (.cst (.int 18)))) (.cons (.asg 4 false (.bin .mod (.bi .int (.cons (.bin .add (.bin .mul (.var 3) (.cst (.int 48271))) (.cst (.int 11))) .nil)) (.cst (.int 2147483647))))
(.cons (.exp (.app (.var 1) (.bin .mod (.bi .int (.cons (.bin .add (.bin .mul (.var 4) (.cst (.int 69621))) (.var 3)) .nil)) (.cst (.int 2147483629)))))
(.cons (.exp (.app (.var 1) (.bin .mod (.bi .int (.cons (.bin .add (.var 4) (.bin .fdiv (.var 3) (.cst (.int 7)))) .nil)) (.cst (.int 1000003)))))
(.cons (.asg 3 false (.cst (.int 0)))
.nil)))) .nil)
(.cons (.for_ (.nm 5) (.rng (.cons (.cst (.int 60)) .nil)) (.cons (.ife (.cmp .gt (.var 3) (.cst (.int 0))) (.cons (.exp (.app (.var 1) (.bin .mod (.bi .int (.cons (.var 3) .nil)) (.cst (.int 997)))))
(.cons (.asg 3 false (.bin .fdiv (.var 3) (.cst (.int 997))))
.nil)) .nil)
.nil))
.nil))))
(.cons (.asg 6 false (.cst (.int 1)))
(.cons (.ife (.cmp .gt (.bi .len (.cons (.var 0) .nil)) (.cst (.int 0))) (.cons (.asg 6 false (.bin .add (.cst (.int 1)) (.bi .abs (.cons (.idx (.var 0) (.cst (.int 0))) .nil))))
.nil) .nil)
(.cons (.for_ (.nm 5) (.rng (.cons (.cst (.int 900)) .nil)) (.cons (.asg 6 false (.bin .mod (.bi .int (.cons (.bin .add (.bin .mul (.var 6) (.cst (.int 48271))) (.cst (.int 69621))) .nil)) (.cst (.int 2147483647))))
(.cons (.exp (.app (.var 1) (.bin .fdiv (.var 6) (.cst (.int 5)))))
.nil)))
(.frz 1 (.cons (.ret (.rev (.var 1)))
.nil)))))))
def e_law_draws : Entry := ⟨⟨("_law_draws", none), "_law_draws", "_law_draws", defArgs (top 24), defBody (top 24), defScope (top 24), [], []⟩, ["script", "draws", "cell", "number", "first", "k", "seed"], ["script"], ⟨1, 7, b_law_draws⟩, false, false⟩
def b_law_take : CSs := (.cons (.ife (.cmp .eq (.bi .len (.cons (.var 0) .nil)) (.cst (.int 0))) (.cons (.ret (.cst (.int 0)))
.nil) .nil)
(.cons (.ret (.bin .mod (.bi .int (.cons (.pop (.var 0)) .nil)) (.var 1)))
.nil))
def e_law_take : Entry := ⟨⟨("_law_take", none), "_law_take", "_law_take", defArgs (top 25), defBody (top 25), defScope (top 25), [], []⟩, ["draws", "bound"], ["draws", "bound"], ⟨2, 2, b_law_take⟩, false, false⟩
def b_law_alike : CSs := (.cons (.ife (.or (.cons (.isi (.var 1) .list) (.cons (.isi (.var 1) .tuple) .nil))) (.cons (.ife (.or (.cons (.cmp .ne (.isi (.var 0) .list) (.isi (.var 1) .list)) (.cons (.cmp .ne (.isi (.var 0) .tuple) (.isi (.var 1) .tuple)) .nil))) (.cons (.ret (.cst (.bool false)))
.nil) .nil)
(.cons (.ret (.and (.cons (.cmp .eq (.bi .len (.cons (.var 0) .nil)) (.bi .len (.cons (.var 1) .nil))) (.cons (.cmp .eq (.lc (.var 2) (.nm 2) (.rng (.cons (.bi .len (.cons (.var 1) .nil)) .nil)) (.cons (.nt (.call 13 (.cons (.idx (.var 0) (.var 2)) (.cons (.idx (.var 1) (.var 2)) .nil)))) .nil)) (.lst .nil)) .nil))))
.nil)) .nil)
(.cons (.ife (.cmp .iss (.var 1) (.cst (.none))) (.cons (.ret (.cmp .iss (.var 0) (.cst (.none))))
.nil) .nil)
(.cons (.ife (.or (.cons (.isi (.var 1) .bool) (.cons (.isi (.var 0) .bool) .nil))) (.cons (.ret (.and (.cons (.isi (.var 0) .bool) (.cons (.isi (.var 1) .bool) (.cons (.cmp .eq (.var 0) (.var 1)) .nil)))))
.nil) .nil)
(.cons (.ife (.isi (.var 1) .int) (.cons (.ret (.and (.cons (.isi (.var 0) .int) (.cons (.cmp .eq (.var 0) (.var 1)) .nil))))
.nil) .nil)
(.cons (.ret (.and (.cons (.isi (.var 0) .str) (.cons (.cmp .eq (.var 0) (.var 1)) .nil))))
.nil)))))
def e_law_alike : Entry := ⟨⟨("_law_alike", none), "_law_alike", "_law_alike", defArgs (top 26), defBody (top 26), defScope (top 26), [], []⟩, ["found", "due", "k"], ["found", "due"], ⟨2, 3, b_law_alike⟩, false, false⟩
def b_law_says : CSs := (.cons (.ret (.and (.cons (.isi (.var 0) .bool) (.cons (.cmp .eq (.var 0) (.var 1)) .nil))))
.nil)
def e_law_says : Entry := ⟨⟨("_law_says", none), "_law_says", "_law_says", defArgs (top 27), defBody (top 27), defScope (top 27), [], []⟩, ["told", "due"], ["told", "due"], ⟨2, 2, b_law_says⟩, false, false⟩
def b_law_worths : CSs := (.cons (.ret (.bi .tuple (.cons (.srev (.lc (.bin .add (.cst (.int 1)) (.call 12 (.cons (.var 0) (.cons (.var 2) .nil)))) (.nm 3) (.rng (.cons (.call 12 (.cons (.var 0) (.cons (.bin .add (.var 1) (.cst (.int 1))) .nil))) .nil)) .nil)) .nil)))
.nil)
def e_law_worths : Entry := ⟨⟨("_law_worths", none), "_law_worths", "_law_worths", defArgs (top 28), defBody (top 28), defScope (top 28), [], []⟩, ["draws", "most", "top", "piece"], ["draws", "most", "top"], ⟨3, 4, b_law_worths⟩, false, false⟩
def b_law_issue : CSs := (.cons (.asg 4 false (.bi .tuple (.cons (.lc (.call 15 (.cons (.var 0) (.cons (.var 2) (.cons (.var 3) .nil)))) (.nm 5) (.rng (.cons (.bin .add (.cst (.int 1)) (.call 12 (.cons (.var 0) (.cons (.var 1) .nil)))) .nil)) .nil) .nil)))
(.cons (.ret (.tup (.cons (.bin .add (.cst (.int 1)) (.call 12 (.cons (.var 0) (.cons (.cst (.int 8)) .nil)))) (.cons (.var 4) .nil))))
.nil))
def e_law_issue : Entry := ⟨⟨("_law_issue", none), "_law_issue", "_law_issue", defArgs (top 29), defBody (top 29), defScope (top 29), [], []⟩, ["draws", "bidders", "most", "top", "bids", "bidder"], ["draws", "bidders", "most", "top"], ⟨4, 6, b_law_issue⟩, false, false⟩
def b_law_steps : CSs := (.cons (.asg 1 false (.lst .nil))
(.cons (.for_ (.nm 2) (.rng (.cons (.bi .len (.cons (.idx (.var 0) (.cst (.int 1))) .nil)) .nil)) (.cons (.asg 1 false (.bin .add (.var 1) (.lc (.tup (.cons (.bin .sub (.cst (.int 0)) (.idx (.idx (.idx (.var 0) (.cst (.int 1))) (.var 2)) (.var 3))) (.cons (.var 2) (.cons (.var 3) .nil)))) (.nm 3) (.rng (.cons (.bi .len (.cons (.idx (.idx (.var 0) (.cst (.int 1))) (.var 2)) .nil)) .nil)) .nil)))
.nil))
(.cons (.ret (.lc (.tup (.cons (.bin .sub (.cst (.int 0)) (.var 4)) (.cons (.var 2) (.cons (.var 3) .nil)))) (.tp [4, 2, 3]) (.ex (.bi .sorted (.cons (.var 1) .nil))) .nil))
.nil)))
def e_law_steps : Entry := ⟨⟨("_law_steps", none), "_law_steps", "_law_steps", defArgs (top 30), defBody (top 30), defScope (top 30), [], []⟩, ["issue", "rows", "bidder", "number", "worth"], ["issue"], ⟨1, 5, b_law_steps⟩, false, false⟩
def b_law_gets : CSs := (.cons (.asg 1 false (.slc (.call 17 (.cons (.var 0) .nil)) .nil (.cons (.idx (.var 0) (.cst (.int 0))) .nil)))
(.cons (.ret (.lc (.bi .len (.cons (.lc (.var 2) (.nm 2) (.ex (.var 1)) (.cons (.cmp .eq (.idx (.var 2) (.cst (.int 1))) (.var 3)) .nil)) .nil)) (.nm 3) (.rng (.cons (.bi .len (.cons (.idx (.var 0) (.cst (.int 1))) .nil)) .nil)) .nil))
.nil))
def e_law_gets : Entry := ⟨⟨("_law_gets", none), "_law_gets", "_law_gets", defArgs (top 31), defBody (top 31), defScope (top 31), [], []⟩, ["issue", "won", "step", "bidder"], ["issue"], ⟨1, 4, b_law_gets⟩, false, false⟩
def b_law_worth : CSs := (.cons (.ret (.bi .sum (.cons (.lc (.bi .sum (.cons (.slc (.idx (.idx (.var 0) (.cst (.int 1))) (.var 2)) .nil (.cons (.idx (.var 1) (.var 2)) .nil)) .nil)) (.nm 2) (.rng (.cons (.bi .len (.cons (.var 1) .nil)) .nil)) .nil) .nil)))
.nil)
def e_law_worth : Entry := ⟨⟨("_law_worth", none), "_law_worth", "_law_worth", defArgs (top 32), defBody (top 32), defScope (top 32), [], []⟩, ["issue", "some", "bidder"], ["issue", "some"], ⟨2, 3, b_law_worth⟩, false, false⟩
def b_law_without : CSs := (.cons (.ret (.tup (.cons (.idx (.var 0) (.cst (.int 0))) (.cons (.bin .add (.bin .add (.slc (.idx (.var 0) (.cst (.int 1))) .nil (.cons (.var 1) .nil)) (.tup (.cons (.tup .nil) .nil))) (.slc (.idx (.var 0) (.cst (.int 1))) (.cons (.bin .add (.var 1) (.cst (.int 1))) .nil) .nil)) .nil))))
.nil)
def e_law_without : Entry := ⟨⟨("_law_without", none), "_law_without", "_law_without", defArgs (top 34), defBody (top 34), defScope (top 34), [], []⟩, ["issue", "bidder"], ["issue", "bidder"], ⟨2, 2, b_law_without⟩, false, false⟩
def b_law_harm : CSs := (.cons (.asg 2 false (.call 18 (.cons (.var 0) .nil)))
(.cons (.asg 3 false (.call 20 (.cons (.var 0) (.cons (.var 1) .nil))))
(.cons (.ret (.bin .sub (.call 19 (.cons (.var 3) (.cons (.call 18 (.cons (.var 3) .nil)) .nil))) (.call 19 (.cons (.var 3) (.cons (.lc (.ite (.cmp .eq (.var 4) (.var 1)) (.cst (.int 0)) (.idx (.var 2) (.var 4))) (.nm 4) (.rng (.cons (.bi .len (.cons (.var 2) .nil)) .nil)) .nil) .nil)))))
.nil)))
def e_law_harm : Entry := ⟨⟨("_law_harm", none), "_law_harm", "_law_harm", defArgs (top 35), defBody (top 35), defScope (top 35), [], []⟩, ["issue", "bidder", "won", "others", "k"], ["issue", "bidder"], ⟨2, 5, b_law_harm⟩, false, false⟩
def b_law_tellings : CSs := (.cons (.par [2, 3] [false, false] (.cons (.lst (.cons (.tup .nil) .nil)) (.cons (.lst (.cons (.tup .nil) .nil)) .nil)))
(.cons (.for_ (.nm 4) (.rng (.cons (.var 0) .nil)) (.cons (.asg 5 false (.lst .nil))
(.cons (.for_ (.nm 6) (.ex (.var 3)) (.cons (.asg 5 false (.bin .add (.var 5) (.lc (.bin .add (.var 6) (.tup (.cons (.var 7) .nil))) (.nm 7) (.rng (.cons (.cst (.int 1)) (.cons (.bin .add (.var 1) (.cst (.int 1))) .nil))) (.cons (.or (.cons (.cmp .eq (.var 6) (.tup .nil)) (.cons (.cmp .le (.var 7) (.idx (.var 6) (.neg (.cst (.int 1))))) .nil))) .nil))))
.nil))
(.cons (.asg 3 false (.var 5))
(.cons (.asg 2 false (.bin .add (.var 2) (.var 5)))
.nil)))))
(.cons (.ret (.var 2))
.nil)))
def e_law_tellings : Entry := ⟨⟨("_law_tellings", none), "_law_tellings", "_law_tellings", defArgs (top 36), defBody (top 36), defScope (top 36), [], []⟩, ["most", "top", "found", "last", "size", "later", "one", "worth"], ["most", "top"], ⟨2, 8, b_law_tellings⟩, false, false⟩
def b_law : CSs := (.cons (.asg 1 true (.call 11 (.cons (.var 0) .nil)))
(.cons (.asg 2 false (.call 16 (.cons (.var 1) (.cons (.cst (.int 3)) (.cons (.cst (.int 3)) (.cons (.cst (.int 5)) .nil))))))
(.cons (.ife (.nt (.call 14 (.cons (.call 2 (.cons (.var 2) .nil)) (.cons (.cst (.bool true)) .nil)))) (.cons (.ret (.cst (.bool false)))
.nil) .nil)
(.cons (.for_ (.nm 3) (.rng (.cons (.bi .len (.cons (.idx (.var 2) (.cst (.int 1))) .nil)) .nil)) (.cons (.asg 4 false (.idx (.idx (.var 2) (.cst (.int 1))) (.var 3)))
(.cons (.asg 5 false (.call 9 (.cons (.var 2) (.cons (.cst (.str "harm")) (.cons (.var 3) (.cons (.var 4) .nil))))))
(.cons (.ife (.cmp .lt (.var 5) (.cst (.int 0))) (.cons (.ret (.cst (.bool false)))
.nil) .nil)
(.cons (.for_ (.nm 6) (.ex (.slcS (.call 22 (.cons (.cst (.int 3)) (.cons (.cst (.int 6)) .nil))) (.bin .add (.cst (.int 1)) (.call 12 (.cons (.var 1) (.cons (.cst (.int 2)) .nil)))))) (.cons (.asg 7 false (.call 10 (.cons (.var 2) (.cons (.var 3) (.cons (.var 6) .nil)))))
(.cons (.ife (.nt (.call 13 (.cons (.var 7) (.cons (.tup (.cons (.idx (.var 2) (.cst (.int 0))) (.cons (.bin .add (.bin .add (.slc (.idx (.var 2) (.cst (.int 1))) .nil (.cons (.var 3) .nil)) (.tup (.cons (.var 6) .nil))) (.slc (.idx (.var 2) (.cst (.int 1))) (.cons (.bin .add (.var 3) (.cst (.int 1))) .nil) .nil)) .nil))) .nil)))) (.cons (.ret (.cst (.bool false)))
.nil) .nil)
(.cons (.asg 8 false (.bin .sub (.bi .sum (.cons (.slc (.var 4) .nil (.cons (.idx (.call 18 (.cons (.var 7) .nil)) (.var 3)) .nil)) .nil)) (.call 21 (.cons (.var 7) (.cons (.var 3) .nil)))))
(.cons (.ife (.or (.cons (.cmp .ne (.call 9 (.cons (.var 7) (.cons (.cst (.str "harm")) (.cons (.var 3) (.cons (.var 4) .nil))))) (.var 8)) (.cons (.cmp .gt (.var 8) (.var 5)) .nil))) (.cons (.ret (.cst (.bool false)))
.nil) .nil)
.nil)))))
.nil)))))
(.cons (.asg 9 false (.tup (.cons (.cst (.int 2)) (.cons (.tup (.cons (.tup (.cons (.cst (.int 10)) (.cons (.cst (.int 6)) .nil))) (.cons (.tup (.cons (.cst (.int 5)) .nil)) .nil))) .nil))))
(.cons (.asg 6 false (.call 10 (.cons (.var 9) (.cons (.cst (.int 0)) (.cons (.tup (.cons (.cst (.int 10)) (.cons (.cst (.int 1)) .nil))) .nil)))))
(.cons (.ret (.cmp .eq (.lst (.cons (.call 9 (.cons (.var 9) (.cons (.cst (.str "one")) (.cons (.cst (.int 0)) (.cons (.tup (.cons (.cst (.int 10)) (.cons (.cst (.int 6)) .nil))) .nil))))) (.cons (.call 9 (.cons (.var 6) (.cons (.cst (.str "one")) (.cons (.cst (.int 0)) (.cons (.tup (.cons (.cst (.int 10)) (.cons (.cst (.int 6)) .nil))) .nil))))) (.cons (.call 4 (.cons (.var 6) .nil)) .nil)))) (.lst (.cons (.cst (.int 6)) (.cons (.cst (.int 9)) (.cons (.tup (.cons (.cst (.int 1)) (.cons (.cst (.int 1)) .nil))) .nil))))))
.nil)))))))
def e_law : Entry := ⟨⟨("law", none), "law", "law", defArgs (top 37), defBody (top 37), defScope (top 37), [], []⟩, ["script", "draws", "issue", "bidder", "true", "best", "other", "told", "worth", "shown"], ["script"], ⟨1, 10, b_law⟩, false, false⟩
def t : LawT := ⟨[e_is_number, e_are_worths, e_is_issue, e_steps_of, e_gets, e_one_price, e_without, e_harm, e_dues, e_gain, e_told_otherwise, e_law_draws, e_law_take, e_law_alike, e_law_says, e_law_worths, e_law_issue, e_law_steps, e_law_gets, e_law_worth, e_law_without, e_law_harm, e_law_tellings, e_law], [("MOST_WORTHS", .int 8), ("MOST_BIDDERS", .int 8), ("MOST_PIECES", .int 20), ("MOST_WORTH", .int 1000), ("RULES", .tuple [.str "each", .str "harm", .str "one"])], ["abs", "all", "bool", "enumerate", "int", "isinstance", "len", "list", "range", "reversed", "sorted", "str", "sum", "tuple"], ["TradeError", "OutOfRange", "NotThere"], false, []⟩
theorem m_is_number : e_is_number.ok t.m = true := by kernel_rfl
theorem m_are_worths : e_are_worths.ok t.m = true := by kernel_rfl
theorem m_is_issue : e_is_issue.ok t.m = true := by kernel_rfl
theorem m_steps_of : e_steps_of.ok t.m = true := by kernel_rfl
theorem m_gets : e_gets.ok t.m = true := by kernel_rfl
theorem m_one_price : e_one_price.ok t.m = true := by kernel_rfl
theorem m_without : e_without.ok t.m = true := by kernel_rfl
theorem m_harm : e_harm.ok t.m = true := by kernel_rfl
theorem m_dues : e_dues.ok t.m = true := by kernel_rfl
theorem m_gain : e_gain.ok t.m = true := by kernel_rfl
theorem m_told_otherwise : e_told_otherwise.ok t.m = true := by kernel_rfl
theorem m_law_draws : e_law_draws.ok t.m = true := by kernel_rfl
theorem m_law_take : e_law_take.ok t.m = true := by kernel_rfl
theorem m_law_alike : e_law_alike.ok t.m = true := by kernel_rfl
theorem m_law_says : e_law_says.ok t.m = true := by kernel_rfl
theorem m_law_worths : e_law_worths.ok t.m = true := by kernel_rfl
theorem m_law_issue : e_law_issue.ok t.m = true := by kernel_rfl
theorem m_law_steps : e_law_steps.ok t.m = true := by kernel_rfl
theorem m_law_gets : e_law_gets.ok t.m = true := by kernel_rfl
theorem m_law_worth : e_law_worth.ok t.m = true := by kernel_rfl
theorem m_law_without : e_law_without.ok t.m = true := by kernel_rfl
theorem m_law_harm : e_law_harm.ok t.m = true := by kernel_rfl
theorem m_law_tellings : e_law_tellings.ok t.m = true := by kernel_rfl
theorem m_law : e_law.ok t.m = true := by kernel_rfl
theorem at_ : t.at = true := by
  unfold LawT.at
  rw [List.all_eq_true]
  intro e he
  change e ∈ [e_is_number, e_are_worths, e_is_issue, e_steps_of, e_gets, e_one_price, e_without, e_harm, e_dues, e_gain, e_told_otherwise, e_law_draws, e_law_take, e_law_alike, e_law_says, e_law_worths, e_law_issue, e_law_steps, e_law_gets, e_law_worth, e_law_without, e_law_harm, e_law_tellings, e_law] at he
  simp only [List.mem_cons, List.not_mem_nil, or_false] at he
  rcases he with rfl | rfl | rfl | rfl | rfl | rfl | rfl | rfl | rfl | rfl | rfl | rfl | rfl | rfl | rfl | rfl | rfl | rfl | rfl | rfl | rfl | rfl | rfl | rfl
  · rw [m_is_number, Bool.and_true]; exact decide_eq_true rfl
  · rw [m_are_worths, Bool.and_true]; exact decide_eq_true rfl
  · rw [m_is_issue, Bool.and_true]; exact decide_eq_true rfl
  · rw [m_steps_of, Bool.and_true]; exact decide_eq_true rfl
  · rw [m_gets, Bool.and_true]; exact decide_eq_true rfl
  · rw [m_one_price, Bool.and_true]; exact decide_eq_true rfl
  · rw [m_without, Bool.and_true]; exact decide_eq_true rfl
  · rw [m_harm, Bool.and_true]; exact decide_eq_true rfl
  · rw [m_dues, Bool.and_true]; exact decide_eq_true rfl
  · rw [m_gain, Bool.and_true]; exact decide_eq_true rfl
  · rw [m_told_otherwise, Bool.and_true]; exact decide_eq_true rfl
  · rw [m_law_draws, Bool.and_true]; exact decide_eq_true rfl
  · rw [m_law_take, Bool.and_true]; exact decide_eq_true rfl
  · rw [m_law_alike, Bool.and_true]; exact decide_eq_true rfl
  · rw [m_law_says, Bool.and_true]; exact decide_eq_true rfl
  · rw [m_law_worths, Bool.and_true]; exact decide_eq_true rfl
  · rw [m_law_issue, Bool.and_true]; exact decide_eq_true rfl
  · rw [m_law_steps, Bool.and_true]; exact decide_eq_true rfl
  · rw [m_law_gets, Bool.and_true]; exact decide_eq_true rfl
  · rw [m_law_worth, Bool.and_true]; exact decide_eq_true rfl
  · rw [m_law_without, Bool.and_true]; exact decide_eq_true rfl
  · rw [m_law_harm, Bool.and_true]; exact decide_eq_true rfl
  · rw [m_law_tellings, Bool.and_true]; exact decide_eq_true rfl
  · rw [m_law, Bool.and_true]; exact decide_eq_true rfl
theorem bd_is_number : e_is_number.Bnd := fun _ _ _ _ _ _ us hl => match us, hl with | [_, _, _], _ => rfl
theorem bd_are_worths : e_are_worths.Bnd := fun _ _ _ _ _ _ us hl => match us, hl with | [_], _ => rfl
theorem bd_is_issue : e_is_issue.Bnd := fun _ _ _ _ _ _ us hl => match us, hl with | [_], _ => rfl
theorem bd_steps_of : e_steps_of.Bnd := fun _ _ _ _ _ _ us hl => match us, hl with | [_], _ => rfl
theorem bd_gets : e_gets.Bnd := fun _ _ _ _ _ _ us hl => match us, hl with | [_], _ => rfl
theorem bd_one_price : e_one_price.Bnd := fun _ _ _ _ _ _ us hl => match us, hl with | [_], _ => rfl
theorem bd_without : e_without.Bnd := fun _ _ _ _ _ _ us hl => match us, hl with | [_, _], _ => rfl
theorem bd_harm : e_harm.Bnd := fun _ _ _ _ _ _ us hl => match us, hl with | [_, _], _ => rfl
theorem bd_dues : e_dues.Bnd := fun _ _ _ _ _ _ us hl => match us, hl with | [_, _], _ => rfl
theorem bd_gain : e_gain.Bnd := fun _ _ _ _ _ _ us hl => match us, hl with | [_, _, _, _], _ => rfl
theorem bd_told_otherwise : e_told_otherwise.Bnd := fun _ _ _ _ _ _ us hl => match us, hl with | [_, _, _], _ => rfl
theorem bd_law_draws : e_law_draws.Bnd := fun _ _ _ _ _ _ us hl => match us, hl with | [_], _ => rfl
theorem bd_law_take : e_law_take.Bnd := fun _ _ _ _ _ _ us hl => match us, hl with | [_, _], _ => rfl
theorem bd_law_alike : e_law_alike.Bnd := fun _ _ _ _ _ _ us hl => match us, hl with | [_, _], _ => rfl
theorem bd_law_says : e_law_says.Bnd := fun _ _ _ _ _ _ us hl => match us, hl with | [_, _], _ => rfl
theorem bd_law_worths : e_law_worths.Bnd := fun _ _ _ _ _ _ us hl => match us, hl with | [_, _, _], _ => rfl
theorem bd_law_issue : e_law_issue.Bnd := fun _ _ _ _ _ _ us hl => match us, hl with | [_, _, _, _], _ => rfl
theorem bd_law_steps : e_law_steps.Bnd := fun _ _ _ _ _ _ us hl => match us, hl with | [_], _ => rfl
theorem bd_law_gets : e_law_gets.Bnd := fun _ _ _ _ _ _ us hl => match us, hl with | [_], _ => rfl
theorem bd_law_worth : e_law_worth.Bnd := fun _ _ _ _ _ _ us hl => match us, hl with | [_, _], _ => rfl
theorem bd_law_without : e_law_without.Bnd := fun _ _ _ _ _ _ us hl => match us, hl with | [_, _], _ => rfl
theorem bd_law_harm : e_law_harm.Bnd := fun _ _ _ _ _ _ us hl => match us, hl with | [_, _], _ => rfl
theorem bd_law_tellings : e_law_tellings.Bnd := fun _ _ _ _ _ _ us hl => match us, hl with | [_, _], _ => rfl
theorem bd_law : e_law.Bnd := fun _ _ _ _ _ _ us hl => match us, hl with | [_], _ => rfl
theorem bnds : BndL t.E := ⟨bd_is_number, bd_are_worths, bd_is_issue, bd_steps_of, bd_gets, bd_one_price, bd_without, bd_harm, bd_dues, bd_gain, bd_told_otherwise, bd_law_draws, bd_law_take, bd_law_alike, bd_law_says, bd_law_worths, bd_law_issue, bd_law_steps, bd_law_gets, bd_law_worth, bd_law_without, bd_law_harm, bd_law_tellings, bd_law, trivial⟩
/-! ### the head -/
abbrev hk : PySem.W.Hook := He.hookX 4 t.fa t.fn [] t.tf t.ex
def ob (s : PySem.W.SharedT) : He.AlX := He.obsX 4 t.fa t.fn [] t.tf t.ex (HandSHeadRun.getT s)
theorem ob_eq (s : PySem.W.SharedT) : ob s = hk.obs s.abs := He.obsX_eq (HandSHeadRun.getT_eq s)
abbrev loose : List Str := (["__name__", "TradeError", "OutOfRange", "NotThere", "is_number", "MOST_WORTHS", "MOST_BIDDERS", "MOST_PIECES", "MOST_WORTH", "are_worths", "is_issue", "steps_of", "gets", "RULES", "one_price", "without", "harm", "dues", "gain", "told_otherwise"] : List Str) ++ (["_law_draws", "_law_take", "_law_alike", "_law_says", "_law_worths", "_law_issue", "_law_steps", "_law_gets", "_law_worth", "_law_all", "_law_without", "_law_harm", "_law_tellings"] : List Str)
theorem run (w : World) : HandSHeadRun.RunEq R (PySem.W.view R.prog [37]) hk ob 4000 loose w := by
  intro os
  kernel_rfl
open PySem PySem.W PySem.Calls PyProof.Rows in
theorem holds_of (pl : ∀ ns : List Int, ns.length ≤ 63 → (∀ z ∈ ns, Builtin.Int.intBits z ≤ 1048576) → t.holds 10 23 ns) : PySem.Challenge.rw_matchedandcleared_k11_whole_telling_the.Holds := by
  w_on; o_law
  refine HandSHeadRun.head_any (r := OpenLaw.row PySem.Challenge.rw_matchedandcleared_k11_whole_telling_the) (q := view (OpenLaw.row PySem.Challenge.rw_matchedandcleared_k11_whole_telling_the).prog [37]) (H := hk) (ob := ob) (M := 4000) (loose := loose) (d := HandSHeadRun.topDef (OpenLaw.row PySem.Challenge.rw_matchedandcleared_k11_whole_telling_the).prog 37) (kwd := []) ob_eq
    (by kernel_rfl) (fun s => by kernel_rfl) run (by kernel_rfl) (by kernel_rfl) (by kernel_rfl) (by rfl) (by first | assumption | decide +kernel) (by decide +kernel) ⟨rfl, rfl, rfl, rfl, rfl, by decide +kernel⟩ ?hw ?hc
  case hw => w_witness2
  case hc =>
    refine LamX.walk_ofTsE (l := PySem.Challenge.rw_matchedandcleared_k11_whole_telling_the) (n := 63) (k := 4 * 10) (x := "script") (CX := fun w => L2N.CX (PySem.Challenge.rw_matchedandcleared_k11_whole_telling_the).prog w) rfl (by decide) (by kernel_rfl) ⟨rfl, by decide, by decide⟩ ?F (fun _ _ _ _ _ z => by obtain ⟨_, _, _, _, _, _, _, _, _, _, _, _, z⟩ := z; exact z)
    intro w mg fa h Y G hmg0
    obtain ⟨K, KX, c⟩ := Y
    have hmg : mg e_law.d.name = some (.ref fa) := by
      have e : (HandSHeadRun.topDef (OpenLaw.row PySem.Challenge.rw_matchedandcleared_k11_whole_telling_the).prog 37).name = e_law.d.name := by kernel_rfl
      rw [← e]
      exact hmg0
    exact ⟨K, KX, LawT.law_at t at_ bnds (j := 23) (e := e_law) rfl rfl rfl KX G hmg c pl⟩
end Den.T
set_option autoImplicit false
set_option maxRecDepth 100000
set_option maxHeartbeats 4000000
namespace Den.T
open PySem Den
abbrev G : Nat → Fns := fns t.T t.D
theorem u_is_number (n : Nat) (a0 a1 a2 : Sl) : G (n + 1) 0 [a0, a1, a2] = reR [a0, a1, a2] (evB (G n) t.D b_is_number [a0, a1, a2]) := fn_at (T := t.T) (np := 3) (ns := 3) rfl (by decide) n rfl
theorem u_are_worths (n : Nat) (a0 : Sl) : G (n + 1) 1 [a0] = reR [a0] (evB (G n) t.D b_are_worths [a0, .no, .no]) := fn_at (T := t.T) (np := 1) (ns := 3) rfl (by decide) n rfl
theorem u_is_issue (n : Nat) (a0 : Sl) : G (n + 1) 2 [a0] = reR [a0] (evB (G n) t.D b_is_issue [a0, .no]) := fn_at (T := t.T) (np := 1) (ns := 2) rfl (by decide) n rfl
theorem u_steps_of (n : Nat) (a0 : Sl) : G (n + 1) 3 [a0] = reR [a0] (evB (G n) t.D b_steps_of [a0, .no, .no, .no, .no, .no]) := fn_at (T := t.T) (np := 1) (ns := 6) rfl (by decide) n rfl
theorem u_gets (n : Nat) (a0 : Sl) : G (n + 1) 4 [a0] = reR [a0] (evB (G n) t.D b_gets [a0, .no, .no, .no, .no]) := fn_at (T := t.T) (np := 1) (ns := 5) rfl (by decide) n rfl
theorem u_one_price (n : Nat) (a0 : Sl) : G (n + 1) 5 [a0] = reR [a0] (evB (G n) t.D b_one_price [a0, .no]) := fn_at (T := t.T) (np := 1) (ns := 2) rfl (by decide) n rfl
theorem u_without (n : Nat) (a0 a1 : Sl) : G (n + 1) 6 [a0, a1] = reR [a0, a1] (evB (G n) t.D b_without [a0, a1]) := fn_at (T := t.T) (np := 2) (ns := 2) rfl (by decide) n rfl
theorem u_harm (n : Nat) (a0 a1 : Sl) : G (n + 1) 7 [a0, a1] = reR [a0, a1] (evB (G n) t.D b_harm [a0, a1, .no, .no, .no]) := fn_at (T := t.T) (np := 2) (ns := 5) rfl (by decide) n rfl
theorem u_dues (n : Nat) (a0 a1 : Sl) : G (n + 1) 8 [a0, a1] = reR [a0, a1] (evB (G n) t.D b_dues [a0, a1, .no, .no, .no]) := fn_at (T := t.T) (np := 2) (ns := 5) rfl (by decide) n rfl
theorem u_gain (n : Nat) (a0 a1 a2 a3 : Sl) : G (n + 1) 9 [a0, a1, a2, a3] = reR [a0, a1, a2, a3] (evB (G n) t.D b_gain [a0, a1, a2, a3]) := fn_at (T := t.T) (np := 4) (ns := 4) rfl (by decide) n rfl
theorem u_told_otherwise (n : Nat) (a0 a1 a2 : Sl) : G (n + 1) 10 [a0, a1, a2] = reR [a0, a1, a2] (evB (G n) t.D b_told_otherwise [a0, a1, a2]) := fn_at (T := t.T) (np := 3) (ns := 3) rfl (by decide) n rfl
theorem u_law_draws (n : Nat) (a0 : Sl) : G (n + 1) 11 [a0] = reR [a0] (evB (G n) t.D b_law_draws [a0, .no, .no, .no, .no, .no, .no]) := fn_at (T := t.T) (np := 1) (ns := 7) rfl (by decide) n rfl
theorem u_law_take (n : Nat) (a0 a1 : Sl) : G (n + 1) 12 [a0, a1] = reR [a0, a1] (evB (G n) t.D b_law_take [a0, a1]) := fn_at (T := t.T) (np := 2) (ns := 2) rfl (by decide) n rfl
theorem u_law_alike (n : Nat) (a0 a1 : Sl) : G (n + 1) 13 [a0, a1] = reR [a0, a1] (evB (G n) t.D b_law_alike [a0, a1, .no]) := fn_at (T := t.T) (np := 2) (ns := 3) rfl (by decide) n rfl
theorem u_law_says (n : Nat) (a0 a1 : Sl) : G (n + 1) 14 [a0, a1] = reR [a0, a1] (evB (G n) t.D b_law_says [a0, a1]) := fn_at (T := t.T) (np := 2) (ns := 2) rfl (by decide) n rfl
theorem u_law_worths (n : Nat) (a0 a1 a2 : Sl) : G (n + 1) 15 [a0, a1, a2] = reR [a0, a1, a2] (evB (G n) t.D b_law_worths [a0, a1, a2, .no]) := fn_at (T := t.T) (np := 3) (ns := 4) rfl (by decide) n rfl
theorem u_law_issue (n : Nat) (a0 a1 a2 a3 : Sl) : G (n + 1) 16 [a0, a1, a2, a3] = reR [a0, a1, a2, a3] (evB (G n) t.D b_law_issue [a0, a1, a2, a3, .no, .no]) := fn_at (T := t.T) (np := 4) (ns := 6) rfl (by decide) n rfl
theorem u_law_steps (n : Nat) (a0 : Sl) : G (n + 1) 17 [a0] = reR [a0] (evB (G n) t.D b_law_steps [a0, .no, .no, .no, .no]) := fn_at (T := t.T) (np := 1) (ns := 5) rfl (by decide) n rfl
theorem u_law_gets (n : Nat) (a0 : Sl) : G (n + 1) 18 [a0] = reR [a0] (evB (G n) t.D b_law_gets [a0, .no, .no, .no]) := fn_at (T := t.T) (np := 1) (ns := 4) rfl (by decide) n rfl
theorem u_law_worth (n : Nat) (a0 a1 : Sl) : G (n + 1) 19 [a0, a1] = reR [a0, a1] (evB (G n) t.D b_law_worth [a0, a1, .no]) := fn_at (T := t.T) (np := 2) (ns := 3) rfl (by decide) n rfl
theorem u_law_without (n : Nat) (a0 a1 : Sl) : G (n + 1) 20 [a0, a1] = reR [a0, a1] (evB (G n) t.D b_law_without [a0, a1]) := fn_at (T := t.T) (np := 2) (ns := 2) rfl (by decide) n rfl
theorem u_law_harm (n : Nat) (a0 a1 : Sl) : G (n + 1) 21 [a0, a1] = reR [a0, a1] (evB (G n) t.D b_law_harm [a0, a1, .no, .no, .no]) := fn_at (T := t.T) (np := 2) (ns := 5) rfl (by decide) n rfl
theorem u_law_tellings (n : Nat) (a0 a1 : Sl) : G (n + 1) 22 [a0, a1] = reR [a0, a1] (evB (G n) t.D b_law_tellings [a0, a1, .no, .no, .no, .no, .no, .no]) := fn_at (T := t.T) (np := 2) (ns := 8) rfl (by decide) n rfl
theorem u_law (n : Nat) (a0 : Sl) : G (n + 1) 23 [a0] = reR [a0] (evB (G n) t.D b_law [a0, .no, .no, .no, .no, .no, .no, .no, .no, .no]) := fn_at (T := t.T) (np := 1) (ns := 10) rfl (by decide) n rfl
theorem g_0 : t.D[0]? = some (.int 8) := rfl
theorem g_1 : t.D[1]? = some (.int 8) := rfl
theorem g_2 : t.D[2]? = some (.int 20) := rfl
theorem g_3 : t.D[3]? = some (.int 1000) := rfl
theorem g_4 : t.D[4]? = some (.tuple [.str "each", .str "harm", .str "one"]) := rfl
theorem q_num (n : Nat) (d : D) (a b : Int) : G (n + 1) 0 [.val d, .val (.int a), .val (.int b)] = .ok (.val (.bool (isnum d a b))) [.val d, .val (.int a), .val (.int b)] := f_num rfl n d a b
theorem q_take (n : Nat) {ds : List D} (h : Ints ds) (s : Int) (s0 : 0 < s) : ∃ (r : Int) (ds2 : List D), 0 ≤ r ∧ r < s ∧ Ints ds2 ∧ G (n + 1) 12 [.own true false ds, .val (.int s)] = .ok (.val (.int r)) [.own true false ds2, .val (.int s)] := take_ok (T := t.T) (C := t.D) rfl n h s s0
theorem q_draws (n : Nat) (ns : List Int) (hn : ns.length ≤ 63) (hb : ∀ z ∈ ns, Builtin.Int.intBits z ≤ 1048576) : ∃ ds : List D, Ints ds ∧ G (n + 1) 11 [.val (.list (ns.map .int))] = .ok (.fresh ds) [.val (.list (ns.map .int))] := draws_ok (T := t.T) (C := t.D) rfl n ns hn hb
theorem q_alike {m : Nat} {d : D} (h : Al m d) (n : Nat) (hn : m ≤ n) : G (n + 1) 13 [.val d, .val d] = .ok (.val (.bool true)) [.val d, .val d] := alike_ok (T := t.T) (C := t.D) rfl h n hn
theorem q_says (n : Nat) (a b : Bool) : G (n + 1) 14 [.val (.bool a), .val (.bool b)] = .ok (.val (.bool (a == b))) [.val (.bool a), .val (.bool b)] := by
  rw [u_law_says]; cases a <;> cases b <;> rfl
end Den.T
set_option autoImplicit false
set_option maxRecDepth 100000
set_option maxHeartbeats 4000000
set_option exponentiation.threshold 10000
namespace Den.T
open PySem Den
theorem tupsD_map {rows : List (List Int)} (h : ∀ r ∈ rows, r ≠ []) : tupsD (rows.map tD) = some rows := by
  induction rows with
  | nil => rfl
  | cons r rs ih =>
    have e : tupsD (tD r :: rs.map tD) = (match intsD (r.map .int), tupsD (rs.map tD) with | some (n :: ns), some rest => some ((n :: ns) :: rest) | _, _ => none) := rfl
    rw [List.map_cons, e, intsD_map, ih (fun r hr => h r (List.mem_cons_of_mem _ hr))]
    cases r with
    | nil => exact absurd rfl (h [] (List.mem_cons_self ..))
    | cons a b => rfl
theorem sort_rows {rows : List (List Int)} (h : ∀ r ∈ rows, r ≠ []) : biD .sorted [.list (rows.map tD)] = some (.fresh ((sortedT rows).map tD)) := by
  cases rows with
  | nil => simp [biD, intsD, sortedI, sortedT]
  | cons r rs =>
    have e : biD .sorted [.list ((r :: rs).map tD)] = (match intsD ((r :: rs).map tD) with | some ns => some (.fresh ((sortedI ns).map .int)) | none => (tupsD ((r :: rs).map tD)).map fun nss => .fresh ((sortedT nss).map tD)) := rfl
    have e2 : intsD ((r :: rs).map tD) = none := rfl
    rw [e, e2, tupsD_map h]
    rfl
theorem at_D {xs : List Int} {k : Nat} (h : k < xs.length) : L2.atI (xs.map PyData.int) (k : Int) = some (.int (xs.getD k 0)) := by
  rw [at_nat' (by rw [List.length_map]; exact h), List.getElem_map, getD_at h]
theorem at_T {xs : List (List Int)} {k : Nat} (h : k < xs.length) : L2.atI (xs.map tD) (k : Int) = some (tD (xs.getD k [])) := by
  rw [at_nat' (by rw [List.length_map]; exact h), List.getElem_map, getD_at h]
/-- the worths of one bidder -/
structure WK (ws : List Int) : Prop where
  l : ws.length ≤ 8
  r : ∀ w ∈ ws, 1 ≤ w ∧ w ≤ 1000
  s : ws.Pairwise (· ≥ ·)
structure BOK (bids : List (List Int)) : Prop where
  l1 : 1 ≤ bids.length
  l2 : bids.length ≤ 8
  r : ∀ ws ∈ bids, WK ws
def rw1 (b : Nat) (ws : List Int) (k : Nat) : List Int := [0 - ws.getD k 0, (b : Int), (k : Int)]
def rowsB (b : Nat) (ws : List Int) : List (List Int) := (List.range ws.length).map (rw1 b ws)
def allK (bids : List (List Int)) : Nat → List (List Int)
  | 0 => []
  | j + 1 => allK bids j ++ rowsB j (bids.getD j [])
def allR (bids : List (List Int)) : List (List Int) := allK bids bids.length
def SS (bids : List (List Int)) : List (List Int) := sortedT (allR bids)
def bkr (r : List Int) : List Int := [0 - r.getD 0 0, r.getD 1 0, r.getD 2 0]
def isD (p : Int) (bids : List (List Int)) : D := .tuple [.int p, .tuple (bids.map tD)]
theorem mem_allK {bids : List (List Int)} : ∀ {j : Nat} {r : List Int}, r ∈ allK bids j → ∃ b k, b < j ∧ k < (bids.getD b []).length ∧ r = rw1 b (bids.getD b []) k
  | 0, r, h => by cases h
  | j + 1, r, h => by
    unfold allK at h
    rcases List.mem_append.mp h with z | z
    · obtain ⟨b, k, h1, h2, h3⟩ := mem_allK z
      exact ⟨b, k, by omega, h2, h3⟩
    · unfold rowsB at z
      obtain ⟨k, hk, rfl⟩ := List.mem_map.mp z
      exact ⟨j, k, by omega, List.mem_range.mp hk, rfl⟩
theorem mem_SS {bids : List (List Int)} {r : List Int} (h : r ∈ SS bids) : ∃ b k, b < bids.length ∧ k < (bids.getD b []).length ∧ r = rw1 b (bids.getD b []) k := mem_allK ((sortedT_ok (allR bids)).1.mem_iff.mp h)
theorem allK_len {bids : List (List Int)} (h : BOK bids) : ∀ j, (allK bids j).length ≤ 8 * j
  | 0 => Nat.le_refl _
  | j + 1 => by
    have := allK_len h j
    have e : (bids.getD j []).length ≤ 8 := by
      by_cases q : j < bids.length
      · rw [getD_at q]; exact (h.r _ (List.getElem_mem q)).l
      · rw [List.getD_eq_getElem?_getD, List.getElem?_eq_none (by omega)]; decide
    unfold allK rowsB
    rw [List.length_append, List.length_map, List.length_range]
    omega
theorem SS_len {bids : List (List Int)} (h : BOK bids) : (SS bids).length ≤ 64 := by
  unfold SS
  rw [(sortedT_ok (allR bids)).1.length_eq]
  have := allK_len h bids.length
  have := h.l2
  unfold allR
  omega
def gS (b : Nat) (d : D) : D := match d with
  | .tuple [.int k, .int w] => tD [0 - w, (b : Int), k]
  | d => d
theorem gS_map {b : Nat} {ws : List Int} : (enL (ws.map .int)).map (gS b) = (rowsB b ws).map tD := by
  apply List.ext_getElem
  · unfold enL rowsB; simp
  · intro k h1 h2
    have hk : k < ws.length := by rw [List.length_map] at h2; unfold rowsB at h2; rw [List.length_map, List.length_range] at h2; exact h2
    have e1 : (rowsB b ws)[k]'(by unfold rowsB; simp; exact hk) = rw1 b ws k := by unfold rowsB; rw [List.getElem_map, List.getElem_range]
    rw [List.getElem_map, List.getElem_map, e1]
    unfold enL
    rw [List.getElem_zipWith, List.getElem_range, List.getElem_map]
    unfold rw1
    rw [getD_at hk]
    rfl
theorem mem_enL {xs : List Int} {d : D} (h : d ∈ enL (xs.map .int)) : ∃ k w, d = .tuple [.int k, .int w] ∧ w ∈ xs := by
  unfold enL at h
  obtain ⟨k, hk, e⟩ := List.getElem_of_mem h
  rw [List.getElem_zipWith, List.getElem_range, List.getElem_map] at e
  exact ⟨_, _, e.symm, List.getElem_mem _⟩
theorem enL_get {ds : List D} {k : Nat} (h : k < ds.length) (h' : k < (enL ds).length) : (enL ds)[k] = .tuple [.int (k : Nat), ds[k]] := by
  have e : (enL ds)[k]? = some (.tuple [.int (k : Nat), ds[k]]) := by
    unfold enL
    rw [List.getElem?_zipWith, List.getElem?_range h, List.getElem?_eq_getElem h]
  exact Option.some.inj ((List.getElem?_eq_getElem h').symm.trans e)
def gO (d : D) : D := match d with
  | .tuple [.int a, .int b, .int c] => tD [0 - a, b, c]
  | d => d
theorem gO_map {bids : List (List Int)} : ((SS bids).map tD).map gO = ((SS bids).map bkr).map tD := by
  rw [List.map_map, List.map_map]
  apply List.map_congr_left
  intro r hr
  obtain ⟨b, k, _, _, rfl⟩ := mem_SS hr
  rfl
theorem SS_ne {bids : List (List Int)} : ∀ r ∈ allR bids, r ≠ [] := by
  intro r hr
  obtain ⟨b, k, _, _, rfl⟩ := mem_allK hr
  unfold rw1; simp
theorem q_steps (n : Nat) {p : Int} {bids : List (List Int)} (h : BOK bids) : G (n + 1) 3 [.val (isD p bids)] = .ok (.val (.tuple (((SS bids).map bkr).map tD))) [.val (isD p bids)] := by
  have l2 := h.l2
  rw [u_steps_of]
  unfold isD
  simp_arith [b_steps_of]
  generalize hX : forL _ _ _ _ = X
  have lg : (enL (bids.map tD)).length = bids.length := by unfold enL; simp
  obtain ⟨ρ', rfl, y2, y3, ⟨p2, p3⟩, rfl⟩ := forL_inv hX (fun j ρ => ∃ (y2 y3 : Sl), (plainSl y2 = true ∧ plainSl y3 = true) ∧ ρ = [.val (.tuple [.int p, .tuple (bids.map tD)]), .own false false ((allK bids j).map tD), y2, y3, .no, .no])
    ⟨.no, .no, ⟨rfl, rfl⟩, rfl⟩ (by
    rintro j hj ρ ⟨y2, y3, ⟨p2, p3⟩, rfl⟩
    have hj' := hj
    rw [lg] at hj'
    have e1 : (enL (bids.map tD))[j] = .tuple [.int (j : Nat), tD (bids.getD j [])] := by
      rw [enL_get (by rw [List.length_map]; exact hj'), List.getElem_map, getD_at hj']
    rw [e1]
    have wk := h.r _ (List.getElem_mem hj')
    have ew : bids.getD j [] = bids[j] := getD_at hj'
    rw [ew]
    have al := allK_len h j
    have eK : allK bids (j + 1) = allK bids j ++ rowsB j bids[j] := by rw [← ew]; rfl
    have lw := wk.l
    refine ⟨_, [.val (.tuple [.int p, .tuple (bids.map tD)]), .own false false ((allK bids (j + 1)).map tD), .val (.int (j : Nat)), .val (tD bids[j]), .no, .no], (by simp_arith! [p2, p3, snR_p]; rfl), .inl ?_, _, _, ⟨rfl, rfl⟩, rfl⟩
    rw [eK]
    have hT : ∀ xs : List Int, tD xs = .tuple (xs.map .int) := fun _ => rfl
    simp_arith [hT]
    generalize hY : lcM _ _ _ _ _ = Y
    have := lcM_map hY (gS j) rfl (by
      intro d hd
      obtain ⟨k, w, rfl, hw⟩ := mem_enL hd
      refine ⟨_, (by simp_arith! []; rfl), ?_, ?_, ?_⟩
      · simp_arith! []
      · simp_arith! [gS, tD, List.map_cons, List.map_nil]
      · rfl) (by unfold enL; simp; unfold line; omega)
    subst this
    clear hY
    rw [gS_map]
    have fl : ((allK bids j).map tD).length + ((rowsB j bids[j]).map tD).length ≤ line := by
      rw [List.length_map, List.length_map]
      unfold rowsB line
      rw [List.length_map, List.length_range]
      omega
    simp_arith [fl, List.map_append])
  rw [lg]
  have so := sort_rows (rows := allR bids) SS_ne
  have eA : allK bids bids.length = allR bids := rfl
  have eS : sortedT (allR bids) = SS bids := rfl
  rw [eA]
  simp_arith [so, eS, p2, p3]
  generalize hY : lcM _ _ _ _ _ = Y
  have := lcM_map hY gO (by simp_arith! [p2]) (by
    intro d hd
    obtain ⟨r, hr, rfl⟩ := List.mem_map.mp hd
    obtain ⟨b, k, _, _, rfl⟩ := mem_SS hr
    refine ⟨_, (by simp_arith! [rw1, tD, List.map_cons, List.map_nil]; rfl), ?_, ?_, ?_⟩
    · simp_arith! []
    · simp_arith! [gO, rw1, tD, List.map_cons, List.map_nil]
    · rfl) (by have := SS_len h; rw [List.length_map]; unfold line; omega)
  subst this
  clear hY
  rw [gO_map]
  simp_arith []
end Den.T
set_option autoImplicit false
set_option maxRecDepth 100000
set_option maxHeartbeats 4000000
set_option exponentiation.threshold 10000
namespace Den.T
open PySem Den
theorem getB_ok {bids : List (List Int)} (h : BOK bids) (b : Nat) : (bids.getD b []).length ≤ 8 := by
  by_cases q : b < bids.length
  · rw [getD_at q]; exact (h.r _ (List.getElem_mem q)).l
  · rw [List.getD_eq_getElem?_getD, List.getElem?_eq_none (by omega)]; decide
def gW (b : Nat) (ws : List Int) (d : D) : D := match d with
  | .int k => tD [0 - ws.getD k.toNat 0, (b : Int), k]
  | d => d
theorem gW_map {b : Nat} {ws : List Int} : ((rgI 0 ws.length).map PyData.int).map (gW b ws) = (rowsB b ws).map tD := by
  apply List.ext_getElem
  · unfold rgI rowsB; simp
  · intro k h1 h2
    have hk : k < ws.length := by rw [List.length_map] at h2; unfold rowsB at h2; rw [List.length_map, List.length_range] at h2; exact h2
    have e1 : (rowsB b ws)[k]'(by unfold rowsB; simp; exact hk) = rw1 b ws k := by unfold rowsB; rw [List.getElem_map, List.getElem_range]
    have e : (rgI 0 (ws.length : Int))[k]'(by unfold rgI; simp; exact hk) = (k : Int) := by unfold rgI; simp
    rw [List.getElem_map, List.getElem_map, List.getElem_map, e, e1]
    unfold gW rw1
    simp only [Int.toNat_natCast]
theorem q_lsteps (n : Nat) {p : Int} {bids : List (List Int)} (h : BOK bids) : G (n + 1) 17 [.val (isD p bids)] = .ok (.fresh (((SS bids).map bkr).map tD)) [.val (isD p bids)] := by
  have l2 := h.l2
  have hT : ∀ xs : List Int, tD xs = .tuple (xs.map .int) := fun _ => rfl
  have rg : ∀ (m : Nat) (hm : m ≤ 8) ρ, rngM [.val (.int (m : Int))] ρ = .ok (.val .none, (rgI 0 m).map .int) ρ := fun m hm ρ => rg_1 (by omega) (by omega)
  have rgB : ∀ ρ, rngM [.val (.int (bids.length : Int))] ρ = .ok (.val .none, (rgI 0 bids.length).map .int) ρ := rg _ l2
  rw [u_law_steps]
  unfold isD
  simp_arith [b_law_steps, List.length_map, rgB]
  generalize hX : forL _ _ _ _ = X
  have lg : ((rgI 0 (bids.length : Int)).map PyData.int).length = bids.length := by rw [rgI_len]; omega
  obtain ⟨ρ', rfl, y2, p2, rfl⟩ := forL_inv hX (fun j ρ => ∃ (y2 : Sl), plainSl y2 = true ∧ ρ = [.val (.tuple [.int p, .tuple (bids.map tD)]), .val (.list ((allK bids j).map tD)), y2, .no, .no])
    ⟨.no, rfl, rfl⟩ (by
    rintro j hj ρ ⟨y2, p2, rfl⟩
    rw [rgI_get hj]
    rw [lg] at hj
    have ej : (0 : Int) + (j : Int) = (j : Int) := by omega
    rw [ej]
    have i1 := at_T (xs := bids) (k := j) hj
    have al := allK_len h j
    have lw := getB_ok h j
    have eK : allK bids (j + 1) = allK bids j ++ rowsB j (bids.getD j []) := rfl
    obtain ⟨ws, hw⟩ : ∃ ws, bids.getD j [] = ws := ⟨_, rfl⟩
    rw [hw] at i1 lw eK
    have rgW : ∀ ρ, rngM [.val (.int (ws.length : Int))] ρ = .ok (.val .none, (rgI 0 ws.length).map .int) ρ := rg _ lw
    refine ⟨_, [.val (.tuple [.int p, .tuple (bids.map tD)]), .val (.list ((allK bids (j + 1)).map tD)), .val (.int (j : Int)), .no, .no], (by simp_arith! [p2, snR_p]; rfl), .inl ?_, _, rfl, rfl⟩
    rw [eK]
    simp_arith [i1, hT, List.length_map, rgW]
    generalize hY : lcM _ _ _ _ _ = Y
    have := lcM_map hY (gW j ws) rfl (by
      intro d hd
      obtain ⟨k, rfl, hk⟩ := mem_rg0 hd
      have a1 := at_D (xs := ws) (k := k) hk
      have e : gW j ws (.int (k : Int)) = tD [0 - ws.getD k 0, (j : Int), (k : Int)] := rfl
      rw [e]
      refine ⟨_, (by simp_arith! []; rfl), ?_, ?_, ?_⟩
      · simp_arith! []
      · simp_arith! [i1, hT, a1, List.map_cons, List.map_nil]
      · rfl) (by rw [rgI_len]; unfold line; omega)
    subst this
    clear hY
    rw [gW_map]
    have fl : ((allK bids j).map tD).length + ((rowsB j ws).map tD).length ≤ line := by
      rw [List.length_map, List.length_map]
      unfold rowsB line
      rw [List.length_map, List.length_range]
      omega
    have fa := b_addL fl
    simp_arith [fa, List.map_append])
  rw [lg]
  have so := sort_rows (rows := allR bids) SS_ne
  have eA : allK bids bids.length = allR bids := rfl
  have eS : sortedT (allR bids) = SS bids := rfl
  rw [eA]
  simp_arith [so, eS, p2]
  generalize hY : lcM _ _ _ _ _ = Y
  have := lcM_map hY gO (by simp_arith! [p2]) (by
    intro d hd
    obtain ⟨r, hr, rfl⟩ := List.mem_map.mp hd
    obtain ⟨b, k, _, _, rfl⟩ := mem_SS hr
    refine ⟨_, (by simp_arith! [rw1, tD, List.map_cons, List.map_nil]; rfl), ?_, ?_, ?_⟩
    · simp_arith! []
    · simp_arith! [gO, rw1, tD, List.map_cons, List.map_nil]
    · rfl) (by have := SS_len h; rw [List.length_map]; unfold line; omega)
  subst this
  clear hY
  rw [gO_map]
  simp_arith []
/-- the steps that are won, and who won how many -/
def won (p : Int) (bids : List (List Int)) : List (List Int) := ((SS bids).map bkr).take p.toNat
def isB (b : Nat) (r : List Int) : Bool := decide (r.getD 1 0 = (b : Int))
def cntW (p : Int) (bids : List (List Int)) (b : Nat) : Nat := ((won p bids).filter (isB b)).length
def gts (p : Int) (bids : List (List Int)) : List Int := (List.range bids.length).map fun b => ((cntW p bids b : Nat) : Int)
theorem mem_won {p : Int} {bids : List (List Int)} {r : List Int} (h : r ∈ won p bids) : ∃ a b c : Int, r = [a, b, c] := by
  obtain ⟨q, hq, rfl⟩ := List.mem_map.mp (List.mem_of_mem_take h)
  exact ⟨_, _, _, rfl⟩
theorem won_len {p : Int} {bids : List (List Int)} (h : BOK bids) : (won p bids).length ≤ 64 := by
  unfold won
  rw [List.length_take, List.length_map]
  have := SS_len h
  omega
def pD (b : Nat) (d : D) : Bool := match d with
  | .tuple [_, .int x, _] => decide (x = (b : Int))
  | _ => false
def gCn (p : Int) (bids : List (List Int)) (d : D) : D := match d with
  | .int k => .int ((cntW p bids k.toNat : Nat) : Int)
  | d => d
theorem gCn_map {p : Int} {bids : List (List Int)} : ((rgI 0 bids.length).map PyData.int).map (gCn p bids) = (gts p bids).map .int := by
  apply List.ext_getElem
  · unfold rgI gts; simp
  · intro k h1 h2
    have hk : k < bids.length := by rw [List.length_map] at h2; unfold gts at h2; rw [List.length_map, List.length_range] at h2; exact h2
    have e1 : (gts p bids)[k]'(by unfold gts; simp; exact hk) = ((cntW p bids k : Nat) : Int) := by unfold gts; rw [List.getElem_map, List.getElem_range]
    have e : (rgI 0 (bids.length : Int))[k]'(by unfold rgI; simp; exact hk) = (k : Int) := by unfold rgI; simp
    rw [List.getElem_map, List.getElem_map, List.getElem_map, e, e1]
    unfold gCn
    simp only [Int.toNat_natCast]
theorem won_flt {p : Int} {bids : List (List Int)} {b : Nat} : ((won p bids).map tD).filter (pD b) = ((won p bids).filter (isB b)).map tD := by
  rw [List.filter_map]
  congr 1
  apply List.filter_congr
  intro r hr
  obtain ⟨a, x, c, rfl⟩ := mem_won hr
  rfl
theorem q_gets (n : Nat) {p : Int} (hp : 0 ≤ p) {bids : List (List Int)} (h : BOK bids) : G (n + 2) 4 [.val (isD p bids)] = .ok (.val (tD (gts p bids))) [.val (isD p bids)] := by
  have l2 := h.l2
  have hT : ∀ xs : List Int, tD xs = .tuple (xs.map .int) := fun _ => rfl
  have rgB : ∀ ρ, rngM [.val (.int (bids.length : Int))] ρ = .ok (.val .none, (rgI 0 bids.length).map .int) ρ := fun ρ => rg_1 (by omega) (by omega)
  have q := q_steps n (p := p) h
  have cu : cutD (((SS bids).map bkr).map tD) none (some p) = (won p bids).map tD := by
    rw [cut_hi hp, ← List.map_take]; rfl
  rw [u_gets]
  unfold isD at *
  simp_arith [b_gets, q, cu, List.length_map, rgB]
  generalize hX : lcM _ _ _ _ _ = X
  have := lcM_map hX (gCn p bids) rfl (by
    intro d hd
    obtain ⟨k, rfl, hk⟩ := mem_rg0 hd
    have e : gCn p bids (.int (k : Int)) = .int ((cntW p bids k : Nat) : Int) := rfl
    refine ⟨_, (by simp_arith! []; rfl), ?_, ?_, ?_⟩
    · simp_arith! []
    · rw [e]
      simp_arith [bnd_bR]
      generalize hY : lcM _ _ _ _ _ = Y
      have := lcM_gen' hY (pD k) (fun _ => .int 1) rfl (by
        intro d hd
        obtain ⟨r, hr, rfl⟩ := List.mem_map.mp hd
        obtain ⟨a, x, c, rfl⟩ := mem_won hr
        have e : pD k (tD [a, x, c]) = decide (x = (k : Int)) := rfl
        rw [e]
        refine ⟨_, (by simp_arith! [tD, List.map_cons, List.map_nil]; rfl), ?_, ?_, ?_⟩
        · simp_arith! []
          split <;> rename_i z <;> simp [z]
        · intro _; simp_arith! []
        · rfl) (by have := won_len (p := p) h; rw [List.length_map]; unfold line; omega)
      subst this
      clear hY
      rw [won_flt]
      simp_arith [List.length_map]
      rfl
    · rfl) (by rw [rgI_len]; unfold line; omega)
  subst this
  clear hX
  rw [gCn_map]
  simp_arith [hT]
theorem q_lgets (n : Nat) {p : Int} (hp : 0 ≤ p) {bids : List (List Int)} (h : BOK bids) : G (n + 2) 18 [.val (isD p bids)] = .ok (.fresh ((gts p bids).map .int)) [.val (isD p bids)] := by
  have l2 := h.l2
  have rgB : ∀ ρ, rngM [.val (.int (bids.length : Int))] ρ = .ok (.val .none, (rgI 0 bids.length).map .int) ρ := fun ρ => rg_1 (by omega) (by omega)
  have q := q_lsteps n (p := p) h
  have cu : cutD (((SS bids).map bkr).map tD) none (some p) = (won p bids).map tD := by
    rw [cut_hi hp, ← List.map_take]; rfl
  rw [u_law_gets]
  unfold isD at *
  simp_arith [b_law_gets, q, cu, List.length_map, rgB]
  generalize hX : lcM _ _ _ _ _ = X
  have := lcM_map hX (gCn p bids) rfl (by
    intro d hd
    obtain ⟨k, rfl, hk⟩ := mem_rg0 hd
    have e : gCn p bids (.int (k : Int)) = .int ((cntW p bids k : Nat) : Int) := rfl
    refine ⟨_, (by simp_arith! []; rfl), ?_, ?_, ?_⟩
    · simp_arith! []
    · rw [e]
      simp_arith [bnd_bR]
      generalize hY : lcM _ _ _ _ _ = Y
      have := lcM_gen' hY (pD k) (fun d => d) rfl (by
        intro d hd
        obtain ⟨r, hr, rfl⟩ := List.mem_map.mp hd
        obtain ⟨a, x, c, rfl⟩ := mem_won hr
        have e : pD k (tD [a, x, c]) = decide (x = (k : Int)) := rfl
        rw [e]
        refine ⟨_, (by simp_arith! []; rfl), ?_, ?_, ?_⟩
        · simp_arith! [tD, List.map_cons, List.map_nil]
          split <;> rename_i z <;> simp [z]
        · intro _; simp_arith! [tD, List.map_cons, List.map_nil]
        · rfl) (by have := won_len (p := p) h; rw [List.length_map]; unfold line; omega)
      subst this
      clear hY
      rw [won_flt]
      simp_arith [List.length_map]
      rfl
    · rfl) (by rw [rgI_len]; unfold line; omega)
  subst this
  clear hX
  rw [gCn_map]
  simp_arith []
end Den.T
set_option autoImplicit false
set_option maxRecDepth 100000
set_option maxHeartbeats 4000000
set_option exponentiation.threshold 10000
namespace Den.T
open PySem Den
def wv1 (ws : List Int) (m : Int) : Int := (ws.take m.toNat).sum
def wv (bids : List (List Int)) (ms : List Int) : Int := (List.zipWith wv1 bids ms).sum
def gV (d : D) : D := match d with
  | .tuple [.tuple xs, .int m] => match intsD xs with
    | some ws => .int (wv1 ws m)
    | none => d
  | d => d
theorem gV_at {ws : List Int} {m : Int} : gV (.tuple [tD ws, .int m]) = .int (wv1 ws m) := by
  have e : gV (.tuple [tD ws, .int m]) = (match intsD (ws.map .int) with | some ws => PyData.int (wv1 ws m) | none => .tuple [tD ws, .int m]) := rfl
  rw [e, intsD_map]
theorem gV_map {bids : List (List Int)} {ms : List Int} : (List.zipWith (fun a b => PyData.tuple [a, b]) (bids.map tD) (ms.map .int)).map gV = (List.zipWith wv1 bids ms).map .int := by
  rw [List.zipWith_map, List.map_zipWith, List.map_zipWith]
  congr 1
  funext ws m
  exact gV_at
def gVi (bids : List (List Int)) (ms : List Int) (d : D) : D := match d with
  | .int k => .int (wv1 (bids.getD k.toNat []) (ms.getD k.toNat 0))
  | d => d
theorem gVi_map {bids : List (List Int)} {ms : List Int} (hl : ms.length = bids.length) : ((rgI 0 ms.length).map PyData.int).map (gVi bids ms) = (List.zipWith wv1 bids ms).map .int := by
  apply List.ext_getElem
  · unfold rgI; simp; omega
  · intro k h1 h2
    have hk : k < ms.length := by rw [List.length_map, List.length_zipWith] at h2; omega
    have e : (rgI 0 (ms.length : Int))[k]'(by unfold rgI; simp; exact hk) = (k : Int) := by unfold rgI; simp
    rw [List.getElem_map, List.getElem_map, List.getElem_map, e, List.getElem_zipWith]
    unfold gVi
    simp only [Int.toNat_natCast]
    rw [getD_at (show k < bids.length by omega), getD_at hk]
theorem q_lworth (n : Nat) {p : Int} {bids : List (List Int)} (h : BOK bids) {ms : List Int} (hl : ms.length = bids.length) (hm : ∀ m ∈ ms, 0 ≤ m) : G (n + 1) 19 [.val (isD p bids), .val (tD ms)] = .ok (.val (.int (wv bids ms))) [.val (isD p bids), .val (tD ms)] := by
  have l2 := h.l2
  have hT : ∀ xs : List Int, tD xs = .tuple (xs.map .int) := fun _ => rfl
  have rg : ∀ ρ, rngM [.val (.int (ms.length : Int))] ρ = .ok (.val .none, (rgI 0 ms.length).map .int) ρ := fun ρ => rg_1 (by omega) (by omega)
  rw [u_law_worth]
  unfold isD
  simp_arith [b_law_worth, hT, List.length_map, rg]
  generalize hX : lcM _ _ _ _ _ = X
  have := lcM_map hX (gVi bids ms) rfl (by
    intro d hd
    obtain ⟨k, rfl, hk⟩ := mem_rg0 hd
    have i1 := at_T (xs := bids) (k := k) (by omega)
    have i2 := at_D (xs := ms) (k := k) hk
    have m0 := hm _ (show ms.getD k 0 ∈ ms by rw [getD_at hk]; exact List.getElem_mem hk)
    have e : gVi bids ms (.int (k : Int)) = .int (wv1 (bids.getD k []) (ms.getD k 0)) := rfl
    rw [e]
    generalize bids.getD k [] = ws at *
    generalize ms.getD k 0 = m at *
    have cu : cutD (ws.map PyData.int) none (some m) = (ws.take m.toNat).map .int := by rw [cut_hi m0, List.map_take]
    refine ⟨_, (by simp_arith! []; rfl), ?_, ?_, ?_⟩
    · simp_arith! []
    · simp_arith! [i1, i2, hT, cu]
      rfl
    · rfl) (by rw [rgI_len]; unfold line; omega)
  subst this
  clear hX
  rw [gVi_map hl]
  simp_arith []
  rfl
/-! ### judging -/
theorem q_wo' (n : Nat) (d : D) (h : isTyD .tuple d = false) : G (n + 2) 1 [.val d] = .ok (.val (.bool false)) [.val d] := by
  rw [u_are_worths]
  simp_arith [b_are_worths, h]
theorem q_wol (n : Nat) {ds : List D} (h : 8 < ds.length) : G (n + 2) 1 [.val (.tuple ds)] = .ok (.val (.bool false)) [.val (.tuple ds)] := by
  have h1 : (8 : Int) < ds.length := by omega
  rw [u_are_worths]
  simp_arith [b_are_worths, g_0, h1]
theorem q_wob (n : Nat) {ds : List D} (l2 : ds.length ≤ 8) (h : ∃ d ∈ ds, isnum d 1 1000 = false) : G (n + 2) 1 [.val (.tuple ds)] = .ok (.val (.bool false)) [.val (.tuple ds)] := by
  have h1 : ¬ (8 : Int) < ds.length := by omega
  rw [u_are_worths]
  simp_arith [b_are_worths, g_0, g_3, h1]
  rw [gxM_gen (p := fun _ => true) (g := fun d => isnum d 1 1000)]
  rotate_left
  · simp_arith! []
  · intro d hd
    refine ⟨_, (by simp_arith! []; rfl), ?_, fun _ => ?_, ?_⟩
    · simp_arith! []
    · simp_arith! [g_3, q_num]
    · rfl
  have e0 : (ds.filter (fun _ => true)).all (fun d => isnum d 1 1000) = false := by
    obtain ⟨d, hd, e⟩ := h
    rw [filt_true, List.all_eq_false]
    exact ⟨d, hd, by rw [e]; exact Bool.false_ne_true⟩
  simp_arith [e0]
def gA (xs : List Int) (d : D) : Bool := match d with
  | .int k => decide (xs.getD k.toNat 0 ≤ xs.getD (k.toNat - 1) 0)
  | _ => false
def desc (xs : List Int) : Bool := ((rgI 1 xs.length).map PyData.int).all (gA xs)
theorem q_wo (n : Nat) {xs : List Int} (l2 : xs.length ≤ 8) (h : ∀ x ∈ xs, 1 ≤ x ∧ x ≤ 1000) : G (n + 2) 1 [.val (tD xs)] = .ok (.val (.bool (desc xs))) [.val (tD xs)] := by
  have h1 : ¬ (8 : Int) < xs.length := by omega
  have rg : ∀ ρ, rngM [.val (.int 1), .val (.int xs.length)] ρ = .ok (.val .none, (rgI 1 xs.length).map .int) ρ := fun ρ => rg_2 (by omega) (by omega) (by decide) (by decide)
  rw [u_are_worths]
  unfold tD
  simp_arith [b_are_worths, g_0, g_3, List.length_map, h1]
  rw [gxM_gen (p := fun _ => true) (g := fun d => isnum d 1 1000)]
  rotate_left
  · simp_arith! []
  · intro d hd
    refine ⟨_, (by simp_arith! []; rfl), ?_, fun _ => ?_, ?_⟩
    · simp_arith! []
    · simp_arith! [g_3, q_num]
    · rfl
  have e0 : ((xs.map PyData.int).filter (fun _ => true)).all (fun d => isnum d 1 1000) = true := by
    rw [filt_true, List.all_eq_true]
    intro d hd
    obtain ⟨x, hx, rfl⟩ := List.mem_map.mp hd
    exact isnum_in (h x hx).1 (h x hx).2
  simp_arith [e0, List.length_map, rg]
  rw [gxM_gen (p := fun _ => true) (g := gA xs)]
  rotate_left
  · simp_arith! []
  · intro d hd
    obtain ⟨k, rfl, h1, h2⟩ := mem_rgD hd
    obtain ⟨k, rfl⟩ := Int.eq_ofNat_of_zero_le (show 0 ≤ k by omega)
    have hk : k < xs.length := by omega
    have i1 := at_D (xs := xs) (k := k) hk
    have i2 := at_D (xs := xs) (k := k - 1) (by omega)
    have ek : ((k - 1 : Nat) : Int) = (k : Int) - 1 := by omega
    rw [ek] at i2
    have e : gA xs (.int (k : Int)) = decide (xs.getD k 0 ≤ xs.getD (k - 1) 0) := by unfold gA; simp only [Int.toNat_natCast]
    refine ⟨_, (by simp_arith! []; rfl), ?_, fun _ => ?_, ?_⟩
    · simp_arith! []
    · rw [e]
      simp_arith! [i1, i2]
    · rfl
  simp_arith [filt_true]
  rfl
theorem desc_ok {xs : List Int} (h : xs.Pairwise (· ≥ ·)) : desc xs = true := by
  unfold desc
  rw [List.all_eq_true]
  intro d hd
  obtain ⟨k, rfl, h1, h2⟩ := mem_rgD hd
  obtain ⟨k, rfl⟩ := Int.eq_ofNat_of_zero_le (show 0 ≤ k by omega)
  have hk : k < xs.length := by omega
  unfold gA
  simp only [Int.toNat_natCast, getD_at hk, getD_at (show k - 1 < xs.length by omega)]
  exact decide_eq_true (List.pairwise_iff_getElem.mp h (k - 1) k (by omega) hk (by omega))
theorem q_wk (n : Nat) {ws : List Int} (h : WK ws) : G (n + 2) 1 [.val (tD ws)] = .ok (.val (.bool true)) [.val (tD ws)] := by
  have := q_wo n h.l h.r
  rw [desc_ok h.s] at this
  exact this
theorem q_is' (n : Nat) (d : D) (h : isTyD .tuple d = false) : G (n + 3) 2 [.val d] = .ok (.val (.bool false)) [.val d] := by
  rw [u_is_issue]
  simp_arith [b_is_issue, h]
theorem q_is1 (n : Nat) (a : D) : G (n + 3) 2 [.val (.tuple [a])] = .ok (.val (.bool false)) [.val (.tuple [a])] := by
  rw [u_is_issue]
  simp_arith [b_is_issue]
theorem q_is3 (n : Nat) (a b c : D) : G (n + 3) 2 [.val (.tuple [a, b, c])] = .ok (.val (.bool false)) [.val (.tuple [a, b, c])] := by
  rw [u_is_issue]
  simp_arith [b_is_issue]
theorem q_isn (n : Nat) {a b : D} (h : isnum a 1 20 = false) : G (n + 3) 2 [.val (.tuple [a, b])] = .ok (.val (.bool false)) [.val (.tuple [a, b])] := by
  rw [u_is_issue]
  simp_arith [b_is_issue, g_2, q_num, h]
theorem q_ist (n : Nat) {a b : D} (h : isnum a 1 20 = true) (hb : isTyD .tuple b = false) : G (n + 3) 2 [.val (.tuple [a, b])] = .ok (.val (.bool false)) [.val (.tuple [a, b])] := by
  rw [u_is_issue]
  simp_arith [b_is_issue, g_2, q_num, h, hb]
theorem q_isl (n : Nat) {a : D} {ds : List D} (h : isnum a 1 20 = true) (hl : ds.length = 0 ∨ 8 < ds.length) : G (n + 3) 2 [.val (.tuple [a, .tuple ds])] = .ok (.val (.bool false)) [.val (.tuple [a, .tuple ds])] := by
  rw [u_is_issue]
  by_cases h1 : (1 : Int) ≤ ds.length
  · have h2 : ¬ (ds.length : Int) ≤ 8 := by omega
    simp_arith [b_is_issue, g_1, g_2, q_num, h, h1, h2]
  · simp_arith [b_is_issue, g_1, g_2, q_num, h, h1]
theorem q_isb (n : Nat) {a : D} {ds : List D} (wB : D → Bool) (h : isnum a 1 20 = true) (l1 : 1 ≤ ds.length) (l2 : ds.length ≤ 8) (hb : ∀ d ∈ ds, G (n + 2) 1 [.val d] = .ok (.val (.bool (wB d))) [.val d]) : G (n + 3) 2 [.val (.tuple [a, .tuple ds])] = .ok (.val (.bool (ds.all wB))) [.val (.tuple [a, .tuple ds])] := by
  have h1 : (1 : Int) ≤ ds.length := by omega
  have h2 : (ds.length : Int) ≤ 8 := by omega
  rw [u_is_issue]
  simp_arith [b_is_issue, g_1, g_2, q_num, h, h1, h2]
  rw [gxM_gen (p := fun _ => true) (g := wB)]
  rotate_left
  · simp_arith! []
  · intro d hd
    have q := hb d hd
    refine ⟨_, (by simp_arith! []; rfl), ?_, fun _ => ?_, ?_⟩
    · simp_arith! []
    · simp_arith! [q]
    · rfl
  simp_arith [filt_true]
end Den.T
set_option autoImplicit false
set_option maxRecDepth 100000
set_option maxHeartbeats 4000000
set_option exponentiation.threshold 10000
namespace Den.T
open PySem Den
theorem srt_desc (ns : List Int) : (sortedI ns).reverse.Pairwise (· ≥ ·) := by
  rw [List.pairwise_reverse]
  exact (sortedI_ok ns).2
theorem q_lworths (n : Nat) {ds : List D} (hd : Ints ds) {most top : Int} (h1 : 1 ≤ most ∧ most ≤ 8) (h2 : 1 ≤ top ∧ top ≤ 1000) : ∃ (ws : List Int) (ds2 : List D), WK ws ∧ (ws.length : Int) ≤ most ∧ Ints ds2 ∧ G (n + 2) 15 [.own true false ds, .val (.int most), .val (.int top)] = .ok (.val (tD ws)) [.own true false ds2, .val (.int most), .val (.int top)] := by
  obtain ⟨c, ds1, a1, a2, d1, e1⟩ := q_take n hd (most + 1) (by omega)
  have rg : ∀ ρ, rngM [.val (.int c)] ρ = .ok (.val .none, (rgI 0 c).map .int) ρ := fun ρ => rg_1 (by omega) (by omega)
  rw [u_law_worths]
  simp_arith [b_law_worths, e1, rg]
  generalize hX : lcM _ _ _ _ _ = X
  have lg : ((rgI 0 c).map PyData.int).length = c.toNat := by rw [rgI_len, Int.sub_zero]
  obtain ⟨ys, ρ', rfl, ⟨ds3, x, d3, rfl⟩, yl, yp⟩ := lcM_inv hX (fun d => ∃ i, d = .int i ∧ (1 ≤ i ∧ i ≤ 1000)) (fun k ρ => ∃ (ds : List D) (x : Sl), Ints ds ∧ ρ = [.own true false ds, .val (.int most), .val (.int top), x]) rfl ⟨ds1, .no, d1, rfl⟩ (by
    rintro d hd k hk ρ ⟨ds, x, dw, rfl⟩
    obtain ⟨a, dsa, b1, b2, da, ea⟩ := q_take n dw top (by omega)
    exact ⟨_, _, _, .int (1 + a), (by simp_arith! []; rfl), (by simp_arith! []; rfl), (by simp_arith! [ea]; rfl), ⟨_, rfl, by omega, by omega⟩, ⟨dsa, _, da, rfl⟩⟩) (by rw [lg]; unfold line; omega)
  clear hX
  obtain ⟨ns, rfl, hh⟩ := map_int_of yp
  rw [lg, List.length_map] at yl
  have pm := (sortedI_ok ns).1
  refine ⟨(sortedI ns).reverse, ds3, ⟨?_, fun w hw => hh w (pm.mem_iff.mp (List.mem_reverse.mp hw)), srt_desc ns⟩, ?_, d3, ?_⟩
  · rw [List.length_reverse, pm.length_eq]; omega
  · rw [List.length_reverse, pm.length_eq]; omega
  · simp_arith! [srvR_l]
    rfl
/-- bids as the law draws them -/
structure BD (bids : List (List Int)) : Prop where
  l1 : 1 ≤ bids.length
  l2 : bids.length ≤ 5
  r : ∀ ws ∈ bids, WK ws ∧ ws.length ≤ 4
theorem BD.ok {bids : List (List Int)} (h : BD bids) : BOK bids := ⟨h.l1, by have := h.l2; omega, fun ws hw => (h.r ws hw).1⟩
theorem map_tD_of {ds : List D} {P : List Int → Prop} (h : ∀ d ∈ ds, ∃ ws, d = tD ws ∧ P ws) : ∃ xs : List (List Int), ds = xs.map tD ∧ ∀ x ∈ xs, P x := by
  induction ds with
  | nil => exact ⟨[], rfl, fun _ z => (by cases z)⟩
  | cons d ds ih =>
    obtain ⟨xs, e, hx⟩ := ih (fun d hd => h d (List.mem_cons_of_mem _ hd))
    obtain ⟨w, rfl, b⟩ := h d (List.mem_cons_self ..)
    refine ⟨w :: xs, by rw [e]; rfl, fun x hx' => ?_⟩
    rcases List.mem_cons.mp hx' with z | z
    · rw [z]; exact b
    · exact hx x z
theorem q_lissue (n : Nat) {ds : List D} (hd : Ints ds) {most top : Int} (h1 : 1 ≤ most ∧ most ≤ 4) (h2 : 1 ≤ top ∧ top ≤ 1000) : ∃ (p : Int) (bids : List (List Int)) (ds2 : List D), (1 ≤ p ∧ p ≤ 8) ∧ BD bids ∧ Ints ds2 ∧ G (n + 3) 16 [.own true false ds, .val (.int 3), .val (.int most), .val (.int top)] = .ok (.val (isD p bids)) [.own true false ds2, .val (.int 3), .val (.int most), .val (.int top)] := by
  obtain ⟨c, ds1, a1, a2, d1, e1⟩ := q_take (n + 1) hd 3 (by decide)
  have rg : ∀ ρ, rngM [.val (.int (1 + c))] ρ = .ok (.val .none, (rgI 0 (1 + c)).map .int) ρ := fun ρ => rg_1 (by omega) (by omega)
  rw [u_law_issue]
  simp_arith [b_law_issue, e1, rg]
  generalize hX : lcM _ _ _ _ _ = X
  have lg : ((rgI 0 (1 + c)).map PyData.int).length = (1 + c).toNat := by rw [rgI_len, Int.sub_zero]
  obtain ⟨ys, ρ', rfl, ⟨ds3, x, d3, rfl⟩, yl, yp⟩ := lcM_inv hX (fun d => ∃ ws, d = tD ws ∧ (WK ws ∧ ws.length ≤ 4)) (fun k ρ => ∃ (ds : List D) (x : Sl), Ints ds ∧ ρ = [.own true false ds, .val (.int 3), .val (.int most), .val (.int top), .no, x]) rfl ⟨ds1, .no, d1, rfl⟩ (by
    rintro d hd k hk ρ ⟨ds, x, dw, rfl⟩
    obtain ⟨ws, dsa, b1, b2, da, ea⟩ := q_lworths n dw (most := most) (top := top) (by omega) h2
    exact ⟨_, _, _, tD ws, (by simp_arith! []; rfl), (by simp_arith! []; rfl), (by simp_arith! [ea]; rfl), ⟨_, rfl, b1, by omega⟩, ⟨dsa, _, da, rfl⟩⟩) (by rw [lg]; unfold line; omega)
  clear hX
  obtain ⟨bids, rfl, hh⟩ := map_tD_of yp
  rw [lg, List.length_map] at yl
  obtain ⟨q, ds4, a3, a4, d4, e4⟩ := q_take (n + 1) d3 8 (by decide)
  refine ⟨1 + q, bids, ds4, by omega, ⟨by omega, by omega, hh⟩, d4, ?_⟩
  simp_arith! [e4]
  rfl
def wob (bids : List (List Int)) (i : Nat) : List (List Int) := bids.take i ++ [] :: bids.drop (i + 1)
theorem q_lwithout (n : Nat) {p : Int} {bids : List (List Int)} (h : BOK bids) {i : Nat} (hi : i < bids.length) : G (n + 1) 20 [.val (isD p bids), .val (.int (i : Int))] = .ok (.val (isD p (wob bids i))) [.val (isD p bids), .val (.int (i : Int))] := by
  have l2 := h.l2
  have c1 : cutD (bids.map tD) none (some (i : Int)) = (bids.take i).map tD := by rw [cut_hi (by omega), Int.toNat_natCast, List.map_take]
  have c2 : cutD (bids.map tD) (some ((i : Int) + 1)) none = (bids.drop (i + 1)).map tD := by rw [cut_lo (by omega), List.map_drop]; congr 2
  have e1 : binD .add (.tuple ((bids.take i).map tD)) (.tuple [.tuple []]) = some (.val (.tuple ((bids.take i).map tD ++ [.tuple []]))) := b_addT (by rw [List.length_map, List.length_take]; unfold line; simp; omega)
  have e2 : binD .add (.tuple ((bids.take i).map tD ++ [.tuple []])) (.tuple ((bids.drop (i + 1)).map tD)) = some (.val (.tuple ((wob bids i).map tD))) := by
    rw [b_addT (by rw [List.length_append, List.length_map, List.length_map, List.length_take, List.length_drop]; unfold line; simp; omega)]
    unfold wob
    rw [List.map_append, List.map_cons, List.append_assoc]
    rfl
  rw [u_law_without]
  unfold isD
  simp_arith [b_law_without, c1, c2, e1, e2]
end Den.T
set_option autoImplicit false
set_option maxRecDepth 100000
set_option maxHeartbeats 4000000
set_option exponentiation.threshold 10000
namespace Den.T
open PySem Den
/-- some that may be had -/
structure MOK (p : Int) (bids : List (List Int)) (j : Nat) (ms : List Int) : Prop where
  l : ms.length = j
  s : ms.sum ≤ p
  r : ∀ k, k < j → 0 ≤ ms.getD k 0 ∧ ms.getD k 0 ≤ ((bids.getD k []).length : Int)
def val (r : List Int) : Int := 0 - r.getD 0 0
theorem perm_sum {a b : List Int} (h : a.Perm b) : a.sum = b.sum := by
  induction h with
  | nil => rfl
  | cons x _ ih => rw [List.sum_cons, List.sum_cons, ih]
  | swap x y l => rw [List.sum_cons, List.sum_cons, List.sum_cons, List.sum_cons]; omega
  | trans _ _ i1 i2 => exact i1.trans i2
theorem rowsB_b {b : Nat} {ws : List Int} {r : List Int} (h : r ∈ rowsB b ws) : r.getD 1 0 = (b : Int) := by
  unfold rowsB at h
  obtain ⟨k, _, rfl⟩ := List.mem_map.mp h
  rfl
theorem rowsB_flt {b c : Nat} {ws : List Int} : (rowsB b ws).filter (isB c) = if b = c then rowsB b ws else [] := by
  by_cases q : b = c
  · rw [if_pos q, List.filter_eq_self]
    intro r hr
    unfold isB
    rw [rowsB_b hr, q]; exact decide_eq_true rfl
  · rw [if_neg q, List.filter_eq_nil_iff]
    intro r hr
    unfold isB
    rw [rowsB_b hr]
    exact fun z => q (by have := of_decide_eq_true z; omega)
theorem allK_flt {bids : List (List Int)} {c : Nat} : ∀ j, (allK bids j).filter (isB c) = if c < j then rowsB c (bids.getD c []) else []
  | 0 => rfl
  | j + 1 => by
    unfold allK
    rw [List.filter_append, allK_flt j, rowsB_flt]
    by_cases q : c < j
    · rw [if_pos q, if_neg (by omega), if_pos (by omega), List.append_nil]
    · rw [if_neg q]
      by_cases z : j = c
      · subst z; rw [if_pos rfl, if_pos (by omega), List.nil_append]
      · rw [if_neg z, if_neg (by omega), List.nil_append]
theorem rowsB_srt {b : Nat} {ws : List Int} (h : WK ws) : (rowsB b ws).Pairwise (fun x y => lexD y x = false) := by
  unfold rowsB
  rw [List.pairwise_map]
  refine List.Pairwise.imp_of_mem (R := fun i j => i < j) ?_ List.pairwise_lt_range
  intro i j hi hj hij
  have hi := List.mem_range.mp hi
  have hj := List.mem_range.mp hj
  have d := List.pairwise_iff_getElem.mp h.s i j hi hj hij
  unfold rw1 lexD
  rw [getD_at hi, getD_at hj]
  by_cases q : 0 - ws[j] = 0 - ws[i]
  · rw [if_pos q]
    unfold lexD
    rw [if_pos rfl]
    unfold lexD
    rw [if_neg (by omega)]
    exact decide_eq_false (by omega)
  · rw [if_neg q]
    exact decide_eq_false (by omega)
theorem SS_flt {bids : List (List Int)} (h : BOK bids) {c : Nat} (hc : c < bids.length) : (SS bids).filter (isB c) = rowsB c (bids.getD c []) := by
  have so := sortedT_ok (allR bids)
  refine sortedT_one ?_ (so.2.filter _) (rowsB_srt (by rw [getD_at hc]; exact h.r _ (List.getElem_mem hc)))
  have p := so.1.filter (isB c)
  have e : (allR bids).filter (isB c) = rowsB c (bids.getD c []) := by
    unfold allR
    rw [allK_flt, if_pos hc]
  rw [e] at p
  exact p
/-- won, as it stands in the sorted rows -/
def W0 (p : Int) (bids : List (List Int)) : List (List Int) := (SS bids).take p.toNat
theorem cnt_W0 {p : Int} {bids : List (List Int)} {b : Nat} : cntW p bids b = ((W0 p bids).filter (isB b)).length := by
  unfold cntW won W0
  rw [← List.map_take, List.filter_map, List.length_map]
  congr 1
theorem W0_flt {p : Int} {bids : List (List Int)} (h : BOK bids) {c : Nat} (hc : c < bids.length) : (W0 p bids).filter (isB c) = (rowsB c (bids.getD c [])).take (cntW p bids c) := by
  have e : SS bids = W0 p bids ++ (SS bids).drop p.toNat := (List.take_append_drop ..).symm
  have f := SS_flt h hc
  rw [e, List.filter_append] at f
  rw [← f, cnt_W0, List.take_left]
theorem rowsB_val {b : Nat} {ws : List Int} : (rowsB b ws).map val = ws := by
  apply List.ext_getElem
  · unfold rowsB; simp
  · intro k h1 h2
    have e1 : (rowsB b ws)[k]'(by rw [List.length_map] at h1; exact h1) = rw1 b ws k := by unfold rowsB; rw [List.getElem_map, List.getElem_range]
    rw [List.getElem_map, e1]
    show 0 - (0 - ws.getD k 0) = ws[k]
    rw [getD_at h2]; omega
theorem sum_bump {f : Nat → Int} {v : Int} {c : Nat} : ∀ n, ((List.range n).map fun b => f b + (if b = c then v else 0)).sum = ((List.range n).map f).sum + (if c < n then v else 0)
  | 0 => by simp
  | n + 1 => by
    rw [List.range_succ, List.map_append, List.map_append, List.sum_append, List.sum_append, sum_bump n]
    simp only [List.map_cons, List.map_nil, List.sum_cons, List.sum_nil]
    by_cases q : n = c
    · subst q
      rw [if_pos rfl, if_neg (by omega), if_pos (by omega)]; omega
    · rw [if_neg q]
      by_cases z : c < n
      · rw [if_pos z, if_pos (by omega)]; omega
      · rw [if_neg z, if_neg (by omega)]; omega
theorem part {n : Nat} : ∀ T : List (List Int), (∀ r ∈ T, ∃ b, b < n ∧ r.getD 1 0 = (b : Int)) → (T.map val).sum = ((List.range n).map fun b => ((T.filter (isB b)).map val).sum).sum
  | [], _ => by
    have : ∀ m : Nat, ((List.range m).map fun _ => (0 : Int)).sum = 0 := fun m => by
      induction m with
      | zero => rfl
      | succ m ih => rw [List.range_succ, List.map_append, List.sum_append, ih]; rfl
    simp only [List.filter_nil, List.map_nil, List.sum_nil]
    exact (this n).symm
  | r :: T, h => by
    obtain ⟨c, hc, e⟩ := h r (List.mem_cons_self ..)
    have ih := part T (fun x hx => h x (List.mem_cons_of_mem _ hx))
    have e2 : ((List.range n).map fun b => (((r :: T).filter (isB b)).map val).sum) = (List.range n).map fun b => ((T.filter (isB b)).map val).sum + (if b = c then val r else 0) := by
      apply List.map_congr_left
      intro b _
      by_cases q : b = c
      · subst q
        have : isB b r = true := decide_eq_true e
        rw [List.filter_cons_of_pos this, List.map_cons, List.sum_cons, if_pos rfl]; omega
      · have : ¬ isB b r = true := fun z => q (by have := of_decide_eq_true z; omega)
        rw [List.filter_cons_of_neg this, if_neg q]; omega
    rw [e2, sum_bump, if_pos hc, List.map_cons, List.sum_cons, ih]; omega
theorem zs {bids : List (List Int)} {ms : List Int} (hl : ms.length = bids.length) : wv bids ms = ((List.range bids.length).map fun b => wv1 (bids.getD b []) (ms.getD b 0)).sum := by
  unfold wv
  congr 1
  apply List.ext_getElem
  · simp; omega
  · intro k h1 h2
    have hk : k < bids.length := by rw [List.length_map, List.length_range] at h2; exact h2
    rw [List.getElem_zipWith, List.getElem_map, List.getElem_range, getD_at hk, getD_at (by omega)]
theorem gts_len {p : Int} {bids : List (List Int)} : (gts p bids).length = bids.length := by unfold gts; simp
theorem gts_get {p : Int} {bids : List (List Int)} {b : Nat} (h : b < bids.length) : (gts p bids).getD b 0 = ((cntW p bids b : Nat) : Int) := by
  have : (gts p bids)[b]? = some ((cntW p bids b : Nat) : Int) := by
    unfold gts
    rw [List.getElem?_map, List.getElem?_range h]; rfl
  rw [List.getD_eq_getElem?_getD, this]; rfl
theorem W0_mem {p : Int} {bids : List (List Int)} {r : List Int} (h : r ∈ W0 p bids) : ∃ b, b < bids.length ∧ r.getD 1 0 = (b : Int) := by
  obtain ⟨b, k, hb, _, rfl⟩ := mem_SS (List.mem_of_mem_take h)
  exact ⟨b, hb, rfl⟩
/-- what the told ones are worth -/
theorem wv_told {p : Int} {bids : List (List Int)} (h : BOK bids) : wv bids (gts p bids) = ((W0 p bids).map val).sum := by
  rw [zs gts_len, part (n := bids.length) (W0 p bids) (fun r hr => W0_mem hr)]
  congr 1
  apply List.map_congr_left
  intro b hb
  have hb := List.mem_range.mp hb
  rw [gts_get hb, W0_flt h hb]
  unfold wv1
  rw [Int.toNat_natCast, List.map_take, rowsB_val]
theorem sum_mono {f g : Nat → Int} : ∀ n, (∀ b, b < n → f b ≤ g b) → ((List.range n).map f).sum ≤ ((List.range n).map g).sum
  | 0, _ => Int.le_refl _
  | n + 1, h => by
    have ih := sum_mono n (fun b hb => h b (by omega))
    have := h n (by omega)
    rw [List.range_succ, List.map_append, List.map_append, List.sum_append, List.sum_append]
    simp only [List.map_cons, List.map_nil, List.sum_cons, List.sum_nil]
    omega
theorem sum_add {f g : Nat → Int} : ∀ n, ((List.range n).map fun b => f b + g b).sum = ((List.range n).map f).sum + ((List.range n).map g).sum
  | 0 => rfl
  | n + 1 => by
    rw [List.range_succ, List.map_append, List.map_append, List.map_append, List.sum_append, List.sum_append, List.sum_append, sum_add n]
    simp only [List.map_cons, List.map_nil, List.sum_cons, List.sum_nil]
    omega
theorem sum_scale {f : Nat → Int} {c : Int} : ∀ n, ((List.range n).map fun b => c * f b).sum = c * ((List.range n).map f).sum
  | 0 => by simp
  | n + 1 => by
    rw [List.range_succ, List.map_append, List.map_append, List.sum_append, List.sum_append, sum_scale n]
    simp only [List.map_cons, List.map_nil, List.sum_cons, List.sum_nil, Int.add_zero]
    rw [Int.mul_add]
theorem allK_h {bids : List (List Int)} {h : Int → Int} : ∀ j, ((allK bids j).map (fun r => h (val r))).sum = ((List.range j).map fun b => ((bids.getD b []).map h).sum).sum
  | 0 => rfl
  | j + 1 => by
    unfold allK
    rw [List.map_append, List.sum_append, allK_h j, List.range_succ, List.map_append, List.sum_append]
    simp only [List.map_cons, List.map_nil, List.sum_cons, List.sum_nil, Int.add_zero]
    congr 2
    have e : (rowsB j (bids.getD j [])).map (fun r => h (val r)) = ((rowsB j (bids.getD j [])).map val).map h := by rw [List.map_map]; rfl
    rw [e, rowsB_val]
theorem take_le {h : Int → Int} {c : Int} (h0 : ∀ x, 0 ≤ h x) (h1 : ∀ x, x ≤ h x + c) : ∀ (ws : List Int) (m : Nat), m ≤ ws.length → (ws.take m).sum ≤ (ws.map h).sum + c * m
  | ws, 0, _ => by
    have : ∀ l : List Int, 0 ≤ (l.map h).sum := fun l => by
      induction l with
      | nil => exact Int.le_refl _
      | cons x l ih => rw [List.map_cons, List.sum_cons]; have := h0 x; omega
    have := this ws
    simp
    exact this
  | [], m + 1, hm => absurd hm (by simp)
  | x :: ws, m + 1, hm => by
    have ih := take_le h0 h1 ws m (by simpa using hm)
    have := h1 x
    rw [List.take_succ_cons, List.sum_cons, List.map_cons, List.sum_cons]
    have e : c * ((m + 1 : Nat) : Int) = c * (m : Int) + c := by rw [Int.natCast_add, Int.mul_add]; simp
    rw [e]
    omega
theorem SS_desc {bids : List (List Int)} {s t : Nat} (hst : s < t) (ht : t < (SS bids).length) : val (SS bids)[t] ≤ val ((SS bids)[s]'(by omega)) := by
  have p := List.pairwise_iff_getElem.mp (sortedT_ok (allR bids)).2 s t (by exact Nat.lt_trans hst ht) ht hst
  have p : lexD (SS bids)[t] ((SS bids)[s]'(by omega)) = false := p
  obtain ⟨b, k, _, _, e1⟩ := mem_SS (List.getElem_mem ht)
  obtain ⟨b', k', _, _, e2⟩ := mem_SS (List.getElem_mem (show s < (SS bids).length by omega))
  rw [e1, e2] at p
  rw [e1, e2]
  have e3 : lexD (rw1 b (bids.getD b []) k) (rw1 b' (bids.getD b' []) k') = if 0 - (bids.getD b []).getD k 0 = 0 - (bids.getD b' []).getD k' 0 then lexD [(b : Int), (k : Int)] [(b' : Int), (k' : Int)] else decide (0 - (bids.getD b []).getD k 0 < 0 - (bids.getD b' []).getD k' 0) := rfl
  rw [e3] at p
  show 0 - (0 - (bids.getD b []).getD k 0) ≤ 0 - (0 - (bids.getD b' []).getD k' 0)
  by_cases q : 0 - (bids.getD b []).getD k 0 = 0 - (bids.getD b' []).getD k' 0
  · omega
  · rw [if_neg q] at p
    have := of_decide_eq_false p; omega
theorem val_nn {bids : List (List Int)} (h : BOK bids) {r : List Int} (hr : r ∈ SS bids) : 0 ≤ val r := by
  obtain ⟨b, k, hb, hk, rfl⟩ := mem_SS hr
  show 0 ≤ 0 - (0 - (bids.getD b []).getD k 0)
  have e := getD_at (d := []) hb
  rw [e] at hk ⊢
  have := (h.r _ (List.getElem_mem hb)).r _ (List.getElem_mem hk)
  rw [getD_at hk]; omega
theorem sum_hx {h : Int → Int} {c : Int} : ∀ T : List (List Int), (∀ r ∈ T, h (val r) = val r - c) → (T.map (fun r => h (val r))).sum = (T.map val).sum - c * T.length
  | [], _ => by simp
  | r :: T, hr => by
    have ih := sum_hx T (fun x hx => hr x (List.mem_cons_of_mem _ hx))
    have := hr r (List.mem_cons_self ..)
    have e : c * ((T.length + 1 : Nat) : Int) = c * (T.length : Int) + c := by rw [Int.natCast_add, Int.mul_add]; simp
    rw [List.map_cons, List.sum_cons, List.map_cons, List.sum_cons, List.length_cons, ih, this, e]
    omega
theorem sum_h0 {h : Int → Int} : ∀ T : List (List Int), (∀ r ∈ T, h (val r) = 0) → (T.map (fun r => h (val r))).sum = 0
  | [], _ => rfl
  | r :: T, hr => by
    rw [List.map_cons, List.sum_cons, sum_h0 T (fun x hx => hr x (List.mem_cons_of_mem _ hx)), hr r (List.mem_cons_self ..)]; rfl
/-- nothing that may be had is worth more -/
theorem wv_best {p : Int} (hp : 0 ≤ p) {bids : List (List Int)} (h : BOK bids) {ms : List Int} (hm : MOK p bids bids.length ms) : wv bids ms ≤ wv bids (gts p bids) := by
  obtain ⟨c, c0, key⟩ : ∃ c : Int, 0 ≤ c ∧ ((SS bids).map (fun r => max (val r - c) 0)).sum + c * p ≤ ((W0 p bids).map val).sum := by
    by_cases q : p.toNat < (SS bids).length
    · refine ⟨val (SS bids)[p.toNat], val_nn h (List.getElem_mem q), ?_⟩
      have e : SS bids = W0 p bids ++ (SS bids).drop p.toNat := (List.take_append_drop ..).symm
      generalize hc : val (SS bids)[p.toNat] = c
      have e1 := sum_hx (h := fun x => max (x - c) 0) (c := c) (W0 p bids) (fun r hr => by
        obtain ⟨s, hs, e⟩ := List.getElem_of_mem hr
        unfold W0 at hs e
        rw [List.getElem_take] at e
        rw [List.length_take] at hs
        have := SS_desc (bids := bids) (s := s) (t := p.toNat) (by omega) q
        rw [e, hc] at this
        show max (val r - c) 0 = val r - c
        omega)
      have e2 := sum_h0 (h := fun x => max (x - c) 0) ((SS bids).drop p.toNat) (fun r hr => by
        obtain ⟨s, hs, e⟩ := List.getElem_of_mem hr
        rw [List.getElem_drop] at e
        rw [List.length_drop] at hs
        show max (val r - c) 0 = 0
        by_cases z : s = 0
        · subst z
          have : val r = c := by rw [← e, ← hc]; rfl
          omega
        · have := SS_desc (bids := bids) (s := p.toNat) (t := p.toNat + s) (by omega) (by omega)
          rw [e, hc] at this
          omega)
      have el : ((W0 p bids).length : Int) = p := by unfold W0; rw [List.length_take]; omega
      rw [el] at e1
      have e3 : ((SS bids).map (fun r => max (val r - c) 0)).sum = ((W0 p bids).map (fun r => max (val r - c) 0)).sum + (((SS bids).drop p.toNat).map (fun r => max (val r - c) 0)).sum := by
        have : (SS bids).map (fun r => max (val r - c) 0) = (W0 p bids ++ (SS bids).drop p.toNat).map (fun r => max (val r - c) 0) := by rw [← e]
        rw [this, List.map_append, List.sum_append]
      rw [e3, e1, e2]
      omega
    · refine ⟨0, Int.le_refl 0, ?_⟩
      have e : W0 p bids = SS bids := List.take_of_length_le (by omega)
      rw [e, Int.zero_mul, Int.add_zero]
      have : (SS bids).map (fun r => max (val r - 0) 0) = (SS bids).map val := by
        apply List.map_congr_left
        intro r hr
        have := val_nn h hr
        omega
      rw [this]
      exact Int.le_refl _
  have pm : ((SS bids).map (fun r => max (val r - c) 0)).sum = ((allR bids).map (fun r => max (val r - c) 0)).sum := perm_sum ((sortedT_ok (allR bids)).1.map _)
  have al := allK_h (bids := bids) (h := fun x => max (x - c) 0) bids.length
  have al : ((allR bids).map (fun r => max (val r - c) 0)).sum = _ := al
  rw [wv_told h, zs hm.l]
  refine Int.le_trans ?_ key
  rw [pm, al]
  have st := sum_mono (f := fun b => wv1 (bids.getD b []) (ms.getD b 0)) (g := fun b => ((bids.getD b []).map (fun x => max (x - c) 0)).sum + c * ms.getD b 0) bids.length (fun b hb => by
    have r := hm.r b hb
    have := take_le (h := fun x => max (x - c) 0) (c := c) (fun x => by show 0 ≤ max (x - c) 0; omega) (fun x => by show x ≤ max (x - c) 0 + c; omega) (bids.getD b []) (ms.getD b 0).toNat (by omega)
    rw [Int.toNat_of_nonneg r.1] at this
    exact this)
  refine Int.le_trans st ?_
  rw [sum_add, sum_scale]
  have es : ((List.range bids.length).map fun b => ms.getD b 0) = ms := by
    apply List.ext_getElem
    · simp [hm.l]
    · intro k h1 h2
      rw [List.getElem_map, List.getElem_range, getD_at h2]
  rw [es]
  have := Int.mul_le_mul_of_nonneg_left hm.s c0
  omega
end Den.T
set_option autoImplicit false
set_option maxRecDepth 100000
set_option maxHeartbeats 4000000
set_option exponentiation.threshold 10000
namespace Den.T
open PySem Den
theorem cnt_mono {p q : Int} (h0 : 0 ≤ p) (h : p ≤ q) {bids : List (List Int)} {b : Nat} : cntW p bids b ≤ cntW q bids b := by
  rw [cnt_W0, cnt_W0]
  have s : (W0 p bids).Sublist (W0 q bids) := by
    unfold W0
    have e : (SS bids).take p.toNat = ((SS bids).take q.toNat).take p.toNat := by
      rw [List.take_take]
      congr 1
      omega
    rw [e]
    exact List.take_sublist ..
  exact (s.filter _).length_le
theorem wob_len {bids : List (List Int)} {i : Nat} (hi : i < bids.length) : (wob bids i).length = bids.length := by
  unfold wob
  rw [List.length_append, List.length_cons, List.length_take, List.length_drop]
  omega
theorem wob_get {bids : List (List Int)} {i b : Nat} (hi : i < bids.length) (hb : b < bids.length) : (wob bids i).getD b [] = if b = i then [] else bids.getD b [] := by
  unfold wob
  rw [List.getD_eq_getElem?_getD, List.getElem?_append]
  have lt : (bids.take i).length = i := by rw [List.length_take]; omega
  rw [lt]
  by_cases q : b < i
  · rw [if_pos q, if_neg (by omega), List.getElem?_take_of_lt q, ← List.getD_eq_getElem?_getD]
  · rw [if_neg q]
    by_cases z : b = i
    · subst z
      rw [if_pos rfl, Nat.sub_self]; rfl
    · rw [if_neg z]
      have e : b - i = (b - i - 1) + 1 := by omega
      rw [e, List.getElem?_cons_succ, List.getElem?_drop, show i + 1 + (b - i - 1) = b by omega, ← List.getD_eq_getElem?_getD]
theorem wob_ok {bids : List (List Int)} (h : BOK bids) {i : Nat} (hi : i < bids.length) : BOK (wob bids i) := by
  refine ⟨by rw [wob_len hi]; exact h.l1, by rw [wob_len hi]; exact h.l2, fun ws hw => ?_⟩
  unfold wob at hw
  rcases List.mem_append.mp hw with z | z
  · exact h.r ws (List.mem_of_mem_take z)
  · rcases List.mem_cons.mp z with y | y
    · rw [y]; exact ⟨by decide, fun _ z => (by cases z), List.Pairwise.nil⟩
    · exact h.r ws (List.mem_of_mem_drop y)
def nB (i : Nat) (r : List Int) : Bool := !isB i r
theorem allK_wob {bids : List (List Int)} {i : Nat} (hi : i < bids.length) : ∀ j, j ≤ bids.length → allK (wob bids i) j = (allK bids j).filter (nB i)
  | 0, _ => rfl
  | j + 1, hj => by
    unfold allK
    rw [List.filter_append, allK_wob hi j (by omega), wob_get hi (by omega)]
    congr 1
    by_cases q : j = i
    · subst q
      rw [if_pos rfl]
      have e : (rowsB j (bids.getD j [])).filter (nB j) = [] := by
        rw [List.filter_eq_nil_iff]
        intro r hr
        unfold nB isB
        rw [rowsB_b hr, decide_eq_true rfl]; decide
      rw [e]; rfl
    · rw [if_neg q]
      have e : (rowsB j (bids.getD j [])).filter (nB i) = rowsB j (bids.getD j []) := by
        rw [List.filter_eq_self]
        intro r hr
        unfold nB isB
        rw [rowsB_b hr, decide_eq_false (fun z => q (by omega))]; rfl
      rw [e]
theorem SS_wob {bids : List (List Int)} {i : Nat} (hi : i < bids.length) : SS (wob bids i) = (SS bids).filter (nB i) := by
  have s1 := sortedT_ok (allR (wob bids i))
  have s2 := sortedT_ok (allR bids)
  refine sortedT_one ?_ s1.2 (s2.2.filter _)
  have e : allR (wob bids i) = (allR bids).filter (nB i) := by
    unfold allR
    rw [wob_len hi]
    exact allK_wob hi _ (Nat.le_refl _)
  refine s1.1.trans ?_
  rw [e]
  exact (s2.1.filter _).symm
theorem cnt_wob {p : Int} {bids : List (List Int)} {i k : Nat} (hi : i < bids.length) (hk : k ≠ i) : cntW p bids k ≤ cntW p (wob bids i) k := by
  rw [cnt_W0, cnt_W0]
  have e1 : SS bids = W0 p bids ++ (SS bids).drop p.toNat := (List.take_append_drop ..).symm
  have e2 : W0 p (wob bids i) = ((W0 p bids).filter (nB i) ++ ((SS bids).drop p.toNat).filter (nB i)).take p.toNat := by
    have : W0 p (wob bids i) = (SS (wob bids i)).take p.toNat := rfl
    rw [this, SS_wob hi]
    have e3 : (SS bids).filter (nB i) = (W0 p bids ++ (SS bids).drop p.toNat).filter (nB i) := by rw [← e1]
    rw [e3, List.filter_append]
  have l : ((W0 p bids).filter (nB i)).length ≤ p.toNat := by
    refine Nat.le_trans (List.length_filter_le ..) ?_
    unfold W0
    rw [List.length_take]; omega
  rw [e2, List.take_append, List.take_of_length_le l, List.filter_append, List.length_append, List.filter_filter]
  have e4 : (W0 p bids).filter (fun r => isB k r && nB i r) = (W0 p bids).filter (isB k) := by
    apply List.filter_congr
    intro r _
    by_cases z : isB k r = true
    · have z' := of_decide_eq_true z
      have : nB i r = true := by
        unfold nB isB
        rw [z', decide_eq_false (fun y => hk (by omega))]; rfl
      rw [this, Bool.and_true]
    · have z : isB k r = false := by simpa using z
      rw [z, Bool.false_and]
  rw [e4]
  omega
end Den.T
set_option autoImplicit false
set_option maxRecDepth 100000
set_option maxHeartbeats 4000000
set_option exponentiation.threshold 10000
namespace Den.T
open PySem Den
def lst (p : Int) (bids : List (List Int)) : List (List Int) := ((SS bids).map bkr).drop p.toNat
def price (p : Int) (bids : List (List Int)) : Int := match lst p bids with
  | [] => 0
  | r :: _ => r.getD 0 0
theorem price_eq {p : Int} {bids : List (List Int)} : price p bids = if h : p.toNat < (SS bids).length then val (SS bids)[p.toNat] else 0 := by
  unfold price lst
  by_cases q : p.toNat < (SS bids).length
  · rw [dif_pos q, ← List.map_drop, List.drop_eq_getElem_cons q]
    rfl
  · rw [dif_neg q, List.drop_of_length_le (by rw [List.length_map]; omega)]
theorem price_nn {p : Int} {bids : List (List Int)} (h : BOK bids) : 0 ≤ price p bids := by
  rw [price_eq]
  split
  · exact val_nn h (List.getElem_mem _)
  · exact Int.le_refl 0
theorem price_mono {p : Int} (hp : 0 ≤ p) {bids : List (List Int)} (h : BOK bids) : price (p + 1) bids ≤ price p bids := by
  rw [price_eq (p := p + 1)]
  by_cases q : (p + 1).toNat < (SS bids).length
  · rw [dif_pos q, price_eq, dif_pos (by omega)]
    exact SS_desc (by omega) q
  · rw [dif_neg q]; exact price_nn h
/-- the rows are all different -/
theorem allK_nd {bids : List (List Int)} : ∀ j, (allK bids j).Nodup
  | 0 => List.nodup_nil
  | j + 1 => by
    unfold allK
    rw [List.nodup_append]
    refine ⟨allK_nd j, ?_, fun x hx y hy e => ?_⟩
    · unfold rowsB
      rw [List.nodup_iff_pairwise_ne, List.pairwise_map]
      refine List.Pairwise.imp (R := fun i j => i < j) (fun {i k} hik e => ?_) List.pairwise_lt_range
      unfold rw1 at e
      have := (List.cons.inj (List.cons.inj (List.cons.inj e).2).2).1
      omega
    · obtain ⟨b, k, hb, _, rfl⟩ := mem_allK hx
      have := rowsB_b hy
      rw [← e] at this
      have : (b : Int) = (j : Int) := this
      omega
theorem SS_nd (bids : List (List Int)) : (SS bids).Nodup := ((sortedT_ok (allR bids)).1.nodup_iff).mpr (allK_nd _)
/-- those that come in instead -/
def ins' (p : Int) (bids : List (List Int)) (i : Nat) : List (List Int) := (((SS bids).drop p.toNat).filter (nB i)).take (p.toNat - ((W0 p bids).filter (nB i)).length)
theorem W0_wob {p : Int} {bids : List (List Int)} {i : Nat} (hi : i < bids.length) : W0 p (wob bids i) = (W0 p bids).filter (nB i) ++ ins' p bids i := by
  have e1 : SS bids = W0 p bids ++ (SS bids).drop p.toNat := (List.take_append_drop ..).symm
  have : W0 p (wob bids i) = (SS (wob bids i)).take p.toNat := rfl
  rw [this, SS_wob hi]
  have e3 : (SS bids).filter (nB i) = (W0 p bids ++ (SS bids).drop p.toNat).filter (nB i) := by rw [← e1]
  have l : ((W0 p bids).filter (nB i)).length ≤ p.toNat := by
    refine Nat.le_trans (List.length_filter_le ..) ?_
    unfold W0
    rw [List.length_take]; omega
  rw [e3, List.filter_append, List.take_append, List.take_of_length_le l]
  rfl
def hm (p : Int) (bids : List (List Int)) (i : Nat) : Int := ((ins' p bids i).map val).sum
theorem ins_no {p : Int} {bids : List (List Int)} {i : Nat} {r : List Int} (h : r ∈ ins' p bids i) : r ∉ W0 p bids := by
  intro z
  have m := (List.mem_filter.mp (List.mem_of_mem_take h)).1
  have nd := SS_nd bids
  rw [← List.take_append_drop p.toNat (SS bids), List.nodup_append] at nd
  exact nd.2.2 r z r m rfl
/-- harm, as the program tells it -/
theorem harm_eq {p : Int} {bids : List (List Int)} {i : Nat} (hi : i < bids.length) : (((won p (wob bids i)).filter (fun r => !decide (r ∈ won p bids))).map (fun r => r.getD 0 0)).sum = hm p bids i := by
  have ew : ∀ B, won p B = (W0 p B).map bkr := fun B => by unfold won W0; rw [List.map_take]
  rw [ew, ew, List.filter_map, List.map_map]
  have e1 : (W0 p (wob bids i)).filter ((fun r => !decide (r ∈ (W0 p bids).map bkr)) ∘ bkr) = ins' p bids i := by
    rw [W0_wob hi, List.filter_append]
    have a : ((W0 p bids).filter (nB i)).filter ((fun r => !decide (r ∈ (W0 p bids).map bkr)) ∘ bkr) = [] := by
      rw [List.filter_eq_nil_iff]
      intro r hr
      have : bkr r ∈ (W0 p bids).map bkr := List.mem_map.mpr ⟨r, (List.mem_filter.mp hr).1, rfl⟩
      show ¬ (!decide (bkr r ∈ (W0 p bids).map bkr)) = true
      rw [decide_eq_true this]; decide
    have b : (ins' p bids i).filter ((fun r => !decide (r ∈ (W0 p bids).map bkr)) ∘ bkr) = ins' p bids i := by
      rw [List.filter_eq_self]
      intro r hr
      have n : bkr r ∉ (W0 p bids).map bkr := by
        intro z
        obtain ⟨q, hq, e⟩ := List.mem_map.mp z
        have m := (List.mem_filter.mp (List.mem_of_mem_take hr)).1
        obtain ⟨b1, k1, _, _, e1⟩ := mem_SS (List.mem_of_mem_drop m)
        obtain ⟨b2, k2, _, _, e2⟩ := mem_SS (List.mem_of_mem_take hq)
        refine ins_no hr ?_
        have : q = r := by
          rw [e1, e2] at e
          rw [e1, e2]
          unfold bkr rw1 at e
          unfold rw1
          obtain ⟨e3, e4⟩ := List.cons.inj e
          have e3 : 0 - (0 - (bids.getD b2 []).getD k2 0) = 0 - (0 - (bids.getD b1 []).getD k1 0) := e3
          have e5 : 0 - (bids.getD b2 []).getD k2 0 = 0 - (bids.getD b1 []).getD k1 0 := by omega
          rw [e5]
          exact congrArg _ e4
        rw [← this]; exact hq
      show (!decide (bkr r ∈ (W0 p bids).map bkr)) = true
      rw [decide_eq_false n]; rfl
    rw [a, b, List.nil_append]
  rw [e1]
  rfl
def zr (p : Int) (bids : List (List Int)) (i : Nat) : List Int := (List.range bids.length).map fun k => if k = i then 0 else ((cntW p bids k : Nat) : Int)
theorem zr_len {p : Int} {bids : List (List Int)} {i : Nat} : (zr p bids i).length = bids.length := by unfold zr; simp
theorem zr_get {p : Int} {bids : List (List Int)} {i b : Nat} (h : b < bids.length) : (zr p bids i).getD b 0 = if b = i then 0 else ((cntW p bids b : Nat) : Int) := by
  have : (zr p bids i)[b]? = some (if b = i then 0 else ((cntW p bids b : Nat) : Int)) := by
    unfold zr
    rw [List.getElem?_map, List.getElem?_range h]; rfl
  rw [List.getD_eq_getElem?_getD, this]; rfl
/-- harm, as the law tells it -/
theorem lharm_eq {p : Int} {bids : List (List Int)} (h : BOK bids) {i : Nat} (hi : i < bids.length) : wv (wob bids i) (gts p (wob bids i)) - wv (wob bids i) (zr p bids i) = hm p bids i := by
  rw [wv_told (wob_ok h hi), W0_wob hi, List.map_append, List.sum_append]
  have e : wv (wob bids i) (zr p bids i) = (((W0 p bids).filter (nB i)).map val).sum := by
    rw [zs (by rw [zr_len, wob_len hi]), wob_len hi, part (n := bids.length) ((W0 p bids).filter (nB i)) (fun r hr => W0_mem (List.mem_filter.mp hr).1)]
    congr 1
    apply List.map_congr_left
    intro b hb
    have hb := List.mem_range.mp hb
    rw [wob_get hi hb, zr_get hb, List.filter_filter]
    by_cases q : b = i
    · subst q
      rw [if_pos rfl, if_pos rfl]
      have : (W0 p bids).filter (fun r => isB b r && nB b r) = [] := by
        rw [List.filter_eq_nil_iff]
        intro r _
        unfold nB
        cases isB b r <;> decide
      rw [this]; rfl
    · rw [if_neg q, if_neg q]
      have : (W0 p bids).filter (fun r => isB b r && nB i r) = (W0 p bids).filter (isB b) := by
        apply List.filter_congr
        intro r _
        by_cases z : isB b r = true
        · have z' := of_decide_eq_true z
          have : nB i r = true := by
            unfold nB isB
            rw [z', decide_eq_false (fun y => q (by omega))]; rfl
          rw [this, Bool.and_true]
        · have z : isB b r = false := by simpa using z
          rw [z, Bool.false_and]
      rw [this, W0_flt h hb]
      unfold wv1
      rw [Int.toNat_natCast, List.map_take, rowsB_val]
  rw [e]
  unfold hm
  omega
theorem sum_up {c : Int} : ∀ T : List (List Int), (∀ r ∈ T, val r ≤ c) → (T.map val).sum ≤ c * T.length
  | [], _ => by simp
  | r :: T, h => by
    have ih := sum_up T (fun x hx => h x (List.mem_cons_of_mem _ hx))
    have := h r (List.mem_cons_self ..)
    have e : c * ((T.length + 1 : Nat) : Int) = c * (T.length : Int) + c := by rw [Int.natCast_add, Int.mul_add]; simp
    rw [List.map_cons, List.sum_cons, List.length_cons, e]; omega
theorem sum_dn {c : Int} : ∀ T : List (List Int), (∀ r ∈ T, c ≤ val r) → c * T.length ≤ (T.map val).sum
  | [], _ => by simp
  | r :: T, h => by
    have ih := sum_dn T (fun x hx => h x (List.mem_cons_of_mem _ hx))
    have := h r (List.mem_cons_self ..)
    have e : c * ((T.length + 1 : Nat) : Int) = c * (T.length : Int) + c := by rw [Int.natCast_add, Int.mul_add]; simp
    rw [List.map_cons, List.sum_cons, List.length_cons, e]; omega
theorem flt_split (i : Nat) : ∀ T : List (List Int), (T.filter (nB i)).length + (T.filter (isB i)).length = T.length
  | [] => rfl
  | r :: T => by
    have ih := flt_split i T
    by_cases z : isB i r = true
    · have n : ¬ nB i r = true := by unfold nB; rw [z]; decide
      rw [List.filter_cons_of_pos z, List.filter_cons_of_neg n, List.length_cons, List.length_cons]; omega
    · have n : nB i r = true := by unfold nB; have z : isB i r = false := by simpa using z
                                   rw [z]; rfl
      rw [List.filter_cons_of_neg z, List.filter_cons_of_pos n, List.length_cons, List.length_cons]; omega
theorem drop_le {p : Int} {bids : List (List Int)} {r : List Int} (h : r ∈ (SS bids).drop p.toNat) : val r ≤ price p bids := by
  obtain ⟨s, hs, e⟩ := List.getElem_of_mem h
  rw [List.getElem_drop] at e
  rw [List.length_drop] at hs
  rw [price_eq, dif_pos (by omega), ← e]
  by_cases z : s = 0
  · subst z; exact Int.le_refl _
  · exact SS_desc (by omega) (by omega)
theorem take_ge {p : Int} {bids : List (List Int)} (h : BOK bids) {r : List Int} (hr : r ∈ W0 p bids) : price p bids ≤ val r := by
  rw [price_eq]
  split
  · rename_i q
    obtain ⟨s, hs, e⟩ := List.getElem_of_mem hr
    unfold W0 at hs e
    rw [List.getElem_take] at e
    rw [List.length_take] at hs
    rw [← e]
    exact SS_desc (by omega) q
  · exact val_nn h (List.mem_of_mem_take hr)
theorem ins_cnt {p : Int} {bids : List (List Int)} {i : Nat} : (ins' p bids i).length ≤ cntW p bids i := by
  unfold ins'
  rw [List.length_take]
  by_cases q : p.toNat < (SS bids).length
  · have s := flt_split i (W0 p bids)
    rw [← cnt_W0] at s
    have : (W0 p bids).length = p.toNat := by unfold W0; rw [List.length_take]; omega
    omega
  · have : (SS bids).drop p.toNat = [] := List.drop_of_length_le (by omega)
    rw [this]; simp
theorem hm_le {p : Int} {bids : List (List Int)} (h : BOK bids) {i : Nat} : hm p bids i ≤ price p bids * cntW p bids i := by
  unfold hm
  refine Int.le_trans (sum_up (c := price p bids) _ (fun r hr => drop_le (List.mem_filter.mp (List.mem_of_mem_take hr)).1)) ?_
  exact Int.mul_le_mul_of_nonneg_left (by have := ins_cnt (p := p) (bids := bids) (i := i); omega) (price_nn h)
def each (p : Int) (bids : List (List Int)) (k : Nat) : Int := ((bids.getD k []).take (cntW p bids k)).sum
theorem each_ge {p : Int} {bids : List (List Int)} (h : BOK bids) {k : Nat} (hk : k < bids.length) : price p bids * cntW p bids k ≤ each p bids k := by
  have e : each p bids k = (((W0 p bids).filter (isB k)).map val).sum := by
    rw [W0_flt h hk, List.map_take, rowsB_val]; rfl
  rw [e, cnt_W0]
  exact sum_dn _ (fun r hr => take_ge h (List.mem_filter.mp hr).1)
/-- one worth each: harm is the one price -/
theorem hm_one {p : Int} {bids : List (List Int)} (h : BOK bids) (h1 : ∀ ws ∈ bids, ws.length ≤ 1) {i : Nat} (hi : i < bids.length) : hm p bids i = price p bids * cntW p bids i := by
  by_cases q : p.toNat < (SS bids).length
  · have s := flt_split i (W0 p bids)
    rw [← cnt_W0] at s
    have lw : (W0 p bids).length = p.toNat := by unfold W0; rw [List.length_take]; omega
    have all := SS_flt h hi
    have c1 : ((SS bids).filter (isB i)).length ≤ 1 := by
      rw [all]
      unfold rowsB
      rw [List.length_map, List.length_range, getD_at hi]
      exact h1 _ (List.getElem_mem hi)
    have sp : (SS bids).filter (isB i) = (W0 p bids).filter (isB i) ++ ((SS bids).drop p.toNat).filter (isB i) := by
      rw [← List.filter_append]
      congr 1
      exact (List.take_append_drop ..).symm
    rw [sp, List.length_append, ← cnt_W0] at c1
    by_cases z : cntW p bids i = 0
    · have : ins' p bids i = [] := List.length_eq_zero_iff.mp (by have := ins_cnt (p := p) (bids := bids) (i := i); omega)
      unfold hm
      rw [this, z]; simp
    · have c2 : cntW p bids i = 1 := by omega
      have f0 : ((SS bids).drop p.toNat).filter (nB i) = (SS bids).drop p.toNat := by
        rw [List.filter_eq_self]
        intro r hr
        unfold nB
        cases y : isB i r with
        | false => rfl
        | true =>
          have : r ∈ ((SS bids).drop p.toNat).filter (isB i) := List.mem_filter.mpr ⟨hr, y⟩
          have := List.length_pos_of_mem this
          omega
      have e : ins' p bids i = [(SS bids)[p.toNat]] := by
        unfold ins'
        rw [f0, show p.toNat - ((W0 p bids).filter (nB i)).length = 1 by omega, List.drop_eq_getElem_cons q, List.take_succ_cons, List.take_zero]
      unfold hm
      rw [e, c2, price_eq, dif_pos q]
      simp
  · have d : (SS bids).drop p.toNat = [] := List.drop_of_length_le (by omega)
    have : ins' p bids i = [] := by unfold ins'; rw [d]; simp
    unfold hm
    rw [this, price_eq, dif_neg q]; simp
end Den.T
set_option autoImplicit false
set_option maxRecDepth 100000
set_option maxHeartbeats 4000000
set_option exponentiation.threshold 10000
namespace Den.T
open PySem Den
theorem inT {row : List Int} {rows : List (List Int)} : inD (tD row) (.tuple (rows.map tD)) = some (decide (row ∈ rows)) := by
  have e : eqOk (tD row) (.tuple (rows.map tD)) = true := by
    unfold eqOk tD
    have := dep_ints (xs := row)
    have e : (PyData.tuple (row.map PyData.int)).depth = PyData.depthAll (row.map .int) + 1 := by simp [PyData.depth]
    rw [e, Bool.or_eq_true, Bool.or_eq_true]
    left; right
    rw [decide_eq_true_iff]; omega
  have r : inD (tD row) (.tuple (rows.map tD)) = if eqOk (tD row) (.tuple (rows.map tD)) then some ((rows.map tD).any fun z => PyData.eqv z (tD row)) else none := rfl
  rw [r, e, if_pos rfl]
  congr 1
  rw [Bool.eq_iff_iff, List.any_eq_true, decide_eq_true_iff]
  constructor
  · rintro ⟨z, hz, e⟩
    obtain ⟨ys, hy, rfl⟩ := List.mem_map.mp hz
    have : decide (ys = row) = true := by
      rw [← eqv_ints]
      unfold tD at e
      simpa only [PyData.eqv] using e
    rw [of_decide_eq_true this] at hy
    exact hy
  · intro h
    refine ⟨tD row, List.mem_map.mpr ⟨row, h, rfl⟩, ?_⟩
    unfold tD
    simp only [PyData.eqv, eqv_ints, decide_true]
theorem c_ninT {row : List Int} {rows : List (List Int)} : cmpD .nin (tD row) (.tuple (rows.map tD)) = some (!decide (row ∈ rows)) := by
  have e : cmpD .nin (tD row) (.tuple (rows.map tD)) = (inD (tD row) (.tuple (rows.map tD))).map not := rfl
  rw [e, inT]; rfl
theorem q_one (n : Nat) {p : Int} (hp : 0 ≤ p) {bids : List (List Int)} (h : BOK bids) : G (n + 2) 5 [.val (isD p bids)] = .ok (.val (.int (price p bids))) [.val (isD p bids)] := by
  have q := q_steps n (p := p) h
  have cu : cutD (((SS bids).map bkr).map tD) (some p) none = (lst p bids).map tD := by
    rw [cut_lo hp, ← List.map_drop]; rfl
  rw [u_one_price]
  unfold isD at *
  unfold price
  cases hl : lst p bids with
  | nil =>
    rw [hl] at cu
    simp_arith! [b_one_price, q, cu, List.map_nil]
  | cons r rest =>
    rw [hl] at cu
    have m : r ∈ lst p bids := by rw [hl]; exact List.mem_cons_self ..
    obtain ⟨x, _, e⟩ := List.mem_map.mp (List.mem_of_mem_drop m)
    subst e
    have e2 : tD (bkr x) = .tuple [.int (0 - x.getD 0 0), .int (x.getD 1 0), .int (x.getD 2 0)] := rfl
    have c1 : (0 : Int) < (((bkr x :: rest).map tD).length : Int) := by rw [List.length_map, List.length_cons]; omega
    have c2 : L2.atI ((bkr x :: rest).map tD) 0 = some (tD (bkr x)) := at_0
    simp_arith! [b_one_price, q, cu, c1, c2, e2]
    rfl
theorem q_other (n : Nat) {p : Int} {bids : List (List Int)} (h : BOK bids) {i : Nat} (hi : i < bids.length) : G (n + 1) 10 [.val (isD p bids), .val (.int (i : Int)), .val (.tuple [])] = .ok (.val (isD p (wob bids i))) [.val (isD p bids), .val (.int (i : Int)), .val (.tuple [])] := by
  have l2 := h.l2
  have c1 : cutD (bids.map tD) none (some (i : Int)) = (bids.take i).map tD := by rw [cut_hi (by omega), Int.toNat_natCast, List.map_take]
  have c2 : cutD (bids.map tD) (some ((i : Int) + 1)) none = (bids.drop (i + 1)).map tD := by rw [cut_lo (by omega), List.map_drop]; congr 2
  have e1 : binD .add (.tuple ((bids.take i).map tD)) (.tuple [.tuple []]) = some (.val (.tuple ((bids.take i).map tD ++ [.tuple []]))) := b_addT (by rw [List.length_map, List.length_take]; unfold line; simp; omega)
  have e2 : binD .add (.tuple ((bids.take i).map tD ++ [.tuple []])) (.tuple ((bids.drop (i + 1)).map tD)) = some (.val (.tuple ((wob bids i).map tD))) := by
    rw [b_addT (by rw [List.length_append, List.length_map, List.length_map, List.length_take, List.length_drop]; unfold line; simp; omega)]
    unfold wob
    rw [List.map_append, List.map_cons, List.append_assoc]
    rfl
  rw [u_told_otherwise]
  unfold isD
  simp_arith [b_told_otherwise, c1, c2, e1, e2]
theorem q_without (n : Nat) {p : Int} {bids : List (List Int)} (h : BOK bids) {i : Nat} (hi : i < bids.length) : G (n + 2) 6 [.val (isD p bids), .val (.int (i : Int))] = .ok (.val (isD p (wob bids i))) [.val (isD p bids), .val (.int (i : Int))] := by
  have q := q_other n (p := p) h hi
  rw [u_without]
  unfold isD at *
  simp_arith [b_without, q]
def g0 (d : D) : D := match d with
  | .tuple [a, _, _] => a
  | d => d
def pN (W : List (List Int)) (d : D) : Bool := match d with
  | .tuple ds => match intsD ds with
    | some r => !decide (r ∈ W)
    | none => false
  | _ => false
theorem pN_t {W : List (List Int)} {r : List Int} : pN W (tD r) = !decide (r ∈ W) := by
  have e : pN W (tD r) = (match intsD (r.map .int) with | some r => !decide (r ∈ W) | none => false) := rfl
  rw [e, intsD_map]
theorem q_harm (n : Nat) {p : Int} (hp : 0 ≤ p) {bids : List (List Int)} (h : BOK bids) {i : Nat} (hi : i < bids.length) : G (n + 3) 7 [.val (isD p bids), .val (.int (i : Int))] = .ok (.val (.int (hm p bids i))) [.val (isD p bids), .val (.int (i : Int))] := by
  have q1 := q_steps (n + 1) (p := p) h
  have q2 := q_without n (p := p) h hi
  have q3 := q_steps (n + 1) (p := p) (wob_ok h hi)
  have cu : ∀ B, cutD (((SS B).map bkr).map tD) none (some p) = (won p B).map tD := fun B => by
    rw [cut_hi hp, ← List.map_take]; rfl
  rw [u_harm]
  unfold isD at *
  simp_arith [b_harm, q1, q2, q3, cu]
  generalize hX : lcM _ _ _ _ _ = X
  have := lcM_gen' hX (pN (won p bids)) g0 rfl (by
    intro d hd
    obtain ⟨r, hr, rfl⟩ := List.mem_map.mp hd
    obtain ⟨a, b, c, rfl⟩ := mem_won hr
    have ci := c_ninT (row := [a, b, c]) (rows := won p bids)
    rw [pN_t]
    refine ⟨_, (by simp_arith! []; rfl), ?_, ?_, ?_⟩
    · simp_arith! [ci]
      by_cases z : [a, b, c] ∈ won p bids <;> simp [z]
    · intro _
      have e : tD [a, b, c] = .tuple [.int a, .int b, .int c] := rfl
      simp_arith! [e, g0]
    · rfl) (by have := won_len (p := p) (wob_ok h hi); rw [List.length_map]; unfold line; omega)
  subst this
  clear hX
  have e : (((won p (wob bids i)).map tD).filter (pN (won p bids))).map g0 = (((won p (wob bids i)).filter (fun r => !decide (r ∈ won p bids))).map (fun r => r.getD 0 0)).map .int := by
    have e1 : ((won p (wob bids i)).map tD).filter (pN (won p bids)) = ((won p (wob bids i)).filter (fun r => !decide (r ∈ won p bids))).map tD := by
      rw [List.filter_map]
      congr 1
      apply List.filter_congr
      intro r _
      exact pN_t
    rw [e1, List.map_map, List.map_map]
    apply List.map_congr_left
    intro r hr
    obtain ⟨a, b, c, rfl⟩ := mem_won (List.mem_filter.mp hr).1
    rfl
  rw [e]
  have he := harm_eq (p := p) hi
  simp_arith [he]
theorem q_lworthL (n : Nat) {p : Int} {bids : List (List Int)} (h : BOK bids) {ms : List Int} (hl : ms.length = bids.length) (hm : ∀ m ∈ ms, 0 ≤ m) : G (n + 1) 19 [.val (isD p bids), .val (.list (ms.map .int))] = .ok (.val (.int (wv bids ms))) [.val (isD p bids), .val (.list (ms.map .int))] := by
  have l2 := h.l2
  have hT : ∀ xs : List Int, tD xs = .tuple (xs.map .int) := fun _ => rfl
  have rg : ∀ ρ, rngM [.val (.int (ms.length : Int))] ρ = .ok (.val .none, (rgI 0 ms.length).map .int) ρ := fun ρ => rg_1 (by omega) (by omega)
  rw [u_law_worth]
  unfold isD
  simp_arith [b_law_worth, List.length_map, rg]
  generalize hX : lcM _ _ _ _ _ = X
  have := lcM_map hX (gVi bids ms) rfl (by
    intro d hd
    obtain ⟨k, rfl, hk⟩ := mem_rg0 hd
    have i1 := at_T (xs := bids) (k := k) (by omega)
    have i2 := at_D (xs := ms) (k := k) hk
    have m0 := hm _ (show ms.getD k 0 ∈ ms by rw [getD_at hk]; exact List.getElem_mem hk)
    have e : gVi bids ms (.int (k : Int)) = .int (wv1 (bids.getD k []) (ms.getD k 0)) := rfl
    rw [e]
    generalize bids.getD k [] = ws at *
    generalize ms.getD k 0 = m at *
    have cu : cutD (ws.map PyData.int) none (some m) = (ws.take m.toNat).map .int := by rw [cut_hi m0, List.map_take]
    refine ⟨_, (by simp_arith! []; rfl), ?_, ?_, ?_⟩
    · simp_arith! []
    · simp_arith! [i1, i2, hT, cu]
      rfl
    · rfl) (by rw [rgI_len]; unfold line; omega)
  subst this
  clear hX
  rw [gVi_map hl]
  simp_arith []
  rfl
theorem gts_nn {p : Int} {bids : List (List Int)} : ∀ m ∈ gts p bids, 0 ≤ m := fun m hm => by
  unfold gts at hm
  obtain ⟨b, _, rfl⟩ := List.mem_map.mp hm
  omega
def gZ (p : Int) (bids : List (List Int)) (i : Nat) (d : D) : D := match d with
  | .int k => .int (if k.toNat = i then 0 else ((cntW p bids k.toNat : Nat) : Int))
  | d => d
theorem gZ_map {p : Int} {bids : List (List Int)} {i : Nat} : ((rgI 0 bids.length).map PyData.int).map (gZ p bids i) = (zr p bids i).map .int := by
  apply List.ext_getElem
  · unfold rgI zr; simp
  · intro k h1 h2
    have hk : k < bids.length := by rw [List.length_map, zr_len] at h2; exact h2
    have e : (rgI 0 (bids.length : Int))[k]'(by unfold rgI; simp; exact hk) = (k : Int) := by unfold rgI; simp
    have g := zr_get (p := p) (bids := bids) (i := i) hk
    rw [getD_at (by rw [zr_len]; exact hk)] at g
    rw [List.getElem_map, List.getElem_map, List.getElem_map, e, g]
    unfold gZ
    simp only [Int.toNat_natCast]
theorem q_lharm (n : Nat) {p : Int} (hp : 0 ≤ p) {bids : List (List Int)} (h : BOK bids) {i : Nat} (hi : i < bids.length) : G (n + 3) 21 [.val (isD p bids), .val (.int (i : Int))] = .ok (.val (.int (hm p bids i))) [.val (isD p bids), .val (.int (i : Int))] := by
  have l2 := h.l2
  have q1 := q_lgets n hp h
  have q2 := q_lwithout (n + 1) (p := p) h hi
  have q3 := q_lgets n hp (wob_ok h hi)
  have q4 := q_lworthL (n + 1) (p := p) (wob_ok h hi) (ms := gts p (wob bids i)) gts_len gts_nn
  have q5 := q_lworthL (n + 1) (p := p) (wob_ok h hi) (ms := zr p bids i) (by rw [zr_len, wob_len hi]) (fun m hm => by
    unfold zr at hm
    obtain ⟨b, _, rfl⟩ := List.mem_map.mp hm
    split <;> omega)
  have le := lharm_eq (p := p) h hi
  have rgB : ∀ ρ, rngM [.val (.int (bids.length : Int))] ρ = .ok (.val .none, (rgI 0 bids.length).map .int) ρ := fun ρ => rg_1 (by omega) (by omega)
  rw [u_law_harm]
  unfold isD at *
  simp_arith [b_law_harm, q1, q2, q3, q4, List.length_map, gts_len, rgB]
  generalize hX : lcM _ _ _ _ _ = X
  have := lcM_map hX (gZ p bids i) rfl (by
    intro d hd
    obtain ⟨k, rfl, hk⟩ := mem_rg0 hd
    have b1 := at_D (xs := gts p bids) (k := k) (by rw [gts_len]; exact hk)
    rw [gts_get hk] at b1
    have e : gZ p bids i (.int (k : Int)) = .int (if k = i then 0 else ((cntW p bids k : Nat) : Int)) := by unfold gZ; simp only [Int.toNat_natCast]
    rw [e]
    by_cases z : k = i
    · have ce : cmpD .eq (.int (k : Int)) (.int (i : Int)) = some true := by
        rw [c_eq (by rfl), z]; simp [PyData.eqv]
      rw [if_pos z]
      refine ⟨_, (by simp_arith! []; rfl), ?_, ?_, ?_⟩
      · simp_arith! []
      · simp_arith! [ce]
      · rfl
    · have ce : cmpD .eq (.int (k : Int)) (.int (i : Int)) = some false := by
        rw [c_eq (by rfl)]
        have : ¬ ((k : Int) = (i : Int)) := by omega
        simp [PyData.eqv, this]
      rw [if_neg z]
      refine ⟨_, (by simp_arith! []; rfl), ?_, ?_, ?_⟩
      · simp_arith! []
      · simp_arith! [ce, b1]
      · rfl) (by rw [rgI_len]; unfold line; omega)
  subst this
  clear hX
  rw [gZ_map]
  simp_arith [q5, le]
end Den.T
set_option autoImplicit false
set_option maxRecDepth 100000
set_option maxHeartbeats 4000000
set_option exponentiation.threshold 10000
namespace Den.T
open PySem Den
theorem price_le {p : Int} {bids : List (List Int)} (h : BOK bids) : price p bids ≤ 1000 := by
  rw [price_eq]
  split
  · rename_i q
    obtain ⟨b, k, hb, hk, e⟩ := mem_SS (List.getElem_mem q)
    rw [e]
    show 0 - (0 - (bids.getD b []).getD k 0) ≤ 1000
    have e2 := getD_at (d := []) hb
    rw [e2] at hk ⊢
    have := (h.r _ (List.getElem_mem hb)).r _ (List.getElem_mem hk)
    rw [getD_at hk]; omega
  · decide
theorem cnt_le {p : Int} {bids : List (List Int)} (h : BOK bids) {k : Nat} : cntW p bids k ≤ 64 := by
  unfold cntW
  exact Nat.le_trans (List.length_filter_le ..) (won_len h)
def du (R : Nat) (p : Int) (bids : List (List Int)) (k : Nat) : Int := if R = 0 then price p bids * cntW p bids k else if R = 1 then each p bids k else hm p bids k
def rowR (R : Nat) (p : Int) (bids : List (List Int)) : List Int := (List.range bids.length).map (du R p bids)
def Rl (rule : D) (R : Nat) : Prop := (rule = .str "one" ∧ R = 0) ∨ (rule = .str "each" ∧ R = 1) ∨ (rule = .str "harm" ∧ R = 2)
theorem rn1 : cmpD .nin (.str "one") (.tuple [.str "each", .str "harm", .str "one"]) = some false := by rfl
theorem rn2 : cmpD .nin (.str "each") (.tuple [.str "each", .str "harm", .str "one"]) = some false := by rfl
theorem rn3 : cmpD .nin (.str "harm") (.tuple [.str "each", .str "harm", .str "one"]) = some false := by rfl
theorem rn4 : cmpD .nin (.str "two") (.tuple [.str "each", .str "harm", .str "one"]) = some true := by rfl
theorem rq1 : cmpD .eq (.str "one") (.str "one") = some true := by rfl
theorem rq2 : cmpD .eq (.str "each") (.str "one") = some false := by rfl
theorem rq3 : cmpD .eq (.str "harm") (.str "one") = some false := by rfl
theorem rq4 : cmpD .eq (.str "each") (.str "each") = some true := by rfl
theorem rq5 : cmpD .eq (.str "harm") (.str "each") = some false := by rfl
theorem q_dues (n : Nat) {p : Int} (hp : 0 ≤ p) {bids : List (List Int)} (h : BOK bids) {rule : D} {R : Nat} (hr : Rl rule R) : G (n + 4) 8 [.val (isD p bids), .val rule] = .ok (.val (tD (rowR R p bids))) [.val (isD p bids), .val rule] := by
  have l2 := h.l2
  have q1 := q_gets (n + 1) hp h
  have q2 := q_one (n + 1) hp h
  have hT : ∀ xs : List Int, tD xs = .tuple (xs.map .int) := fun _ => rfl
  have pl := price_le (p := p) h
  have pn := price_nn (p := p) h
  have isi : isTyD .str rule = true := by rcases hr with ⟨rfl, _⟩ | ⟨rfl, _⟩ | ⟨rfl, _⟩ <;> rfl
  have nin : cmpD .nin rule (.tuple [.str "each", .str "harm", .str "one"]) = some false := by rcases hr with ⟨rfl, _⟩ | ⟨rfl, _⟩ | ⟨rfl, _⟩; exact rn1; exact rn2; exact rn3
  rw [u_dues]
  unfold isD at *
  simp_arith [b_dues, g_4, isi, nin, q1, hT]
  generalize hX : forL _ _ _ _ = X
  have lg : (enL ((gts p bids).map .int)).length = bids.length := by unfold enL; simp [gts_len]
  obtain ⟨ρ', rfl, y3, y4, ⟨p3, p4⟩, rfl⟩ := forL_inv hX (fun j ρ => ∃ (y3 y4 : Sl), (plainSl y3 = true ∧ plainSl y4 = true) ∧ ρ = [.val (.tuple [.int p, .tuple (bids.map tD)]), .val rule, .own false false (((List.range j).map (du R p bids)).map .int), y3, y4])
    ⟨.no, .no, ⟨rfl, rfl⟩, rfl⟩ (by
    rintro k hk ρ ⟨y3, y4, ⟨p3, p4⟩, rfl⟩
    have hk' := hk
    rw [lg] at hk'
    have e1 : (enL ((gts p bids).map PyData.int))[k] = .tuple [.int (k : Nat), .int ((cntW p bids k : Nat) : Int)] := by
      rw [enL_get (by rw [List.length_map, gts_len]; exact hk'), List.getElem_map]
      have := gts_get (p := p) hk'
      rw [getD_at (by rw [gts_len]; exact hk')] at this
      rw [this]
    rw [e1]
    have eK : (List.range (k + 1)).map (du R p bids) = (List.range k).map (du R p bids) ++ [du R p bids k] := by rw [List.range_succ, List.map_append]; rfl
    have fl : (((List.range k).map (du R p bids)).map PyData.int).length < 16777216 := by simp; omega
    have q3 := q_harm n hp h hk'
    have cl := cnt_le (p := p) h (k := k)
    have mo : mulOk (price p bids) ((cntW p bids k : Nat) : Int) = true := mulOk_of 20 20 (by omega) (by omega) (by decide)
    have i1 := at_T (xs := bids) (k := k) hk'
    have cu : cutD ((bids.getD k []).map PyData.int) none (some ((cntW p bids k : Nat) : Int)) = ((bids.getD k []).take (cntW p bids k)).map .int := by rw [cut_hi (by omega), Int.toNat_natCast, List.map_take]
    unfold isD at q3
    refine ⟨_, [.val (.tuple [.int p, .tuple (bids.map tD)]), .val rule, .own false false (((List.range (k + 1)).map (du R p bids)).map .int), .val (.int (k : Nat)), .val (.int ((cntW p bids k : Nat) : Int))], (by simp_arith! [p3, p4, snR_p]; rfl), .inl ?_, _, _, ⟨rfl, rfl⟩, rfl⟩
    rw [eK]
    rcases hr with ⟨rfl, rfl⟩ | ⟨rfl, rfl⟩ | ⟨rfl, rfl⟩
    · have e : du 0 p bids k = price p bids * cntW p bids k := rfl
      simp_arith! [rq1, q2, mo, fl, e, List.map_append, List.map_cons, List.map_nil]
    · have e : du 1 p bids k = ((bids.getD k []).take (cntW p bids k)).sum := rfl
      simp_arith! [rq2, rq4, i1, hT, cu, fl, e, List.map_append, List.map_cons, List.map_nil]
    · have e : du 2 p bids k = hm p bids k := rfl
      simp_arith! [rq3, rq5, q3, fl, e, List.map_append, List.map_cons, List.map_nil])
  rw [lg]
  simp_arith! []
  rfl
theorem rowR_len {R : Nat} {p : Int} {bids : List (List Int)} : (rowR R p bids).length = bids.length := by unfold rowR; simp
theorem rowR_get {R : Nat} {p : Int} {bids : List (List Int)} {b : Nat} (h : b < bids.length) : (rowR R p bids).getD b 0 = du R p bids b := by
  have : (rowR R p bids)[b]? = some (du R p bids b) := by
    unfold rowR
    rw [List.getElem?_map, List.getElem?_range h]; rfl
  rw [List.getD_eq_getElem?_getD, this]; rfl
theorem q_gain (n : Nat) {p : Int} (hp : 0 ≤ p) {bids : List (List Int)} (h : BOK bids) {rule : D} {R : Nat} (hr : Rl rule R) {k : Nat} (hk : k < bids.length) {tr : List Int} : G (n + 5) 9 [.val (isD p bids), .val rule, .val (.int (k : Int)), .val (tD tr)] = .ok (.val (.int ((tr.take (cntW p bids k)).sum - du R p bids k))) [.val (isD p bids), .val rule, .val (.int (k : Int)), .val (tD tr)] := by
  have l2 := h.l2
  have q1 := q_gets (n + 2) hp h
  have q2 := q_dues n hp h hr
  have hT : ∀ xs : List Int, tD xs = .tuple (xs.map .int) := fun _ => rfl
  have i : isnum (.int (k : Int)) 0 ((bids.length : Int) - 1) = true := isnum_in (by omega) (by omega)
  have b1 := at_D (xs := gts p bids) (k := k) (by rw [gts_len]; exact hk)
  have b2 := at_D (xs := rowR R p bids) (k := k) (by rw [rowR_len]; exact hk)
  rw [gts_get hk] at b1
  rw [rowR_get hk] at b2
  have cu : cutD (tr.map PyData.int) none (some ((cntW p bids k : Nat) : Int)) = (tr.take (cntW p bids k)).map .int := by rw [cut_hi (by omega), Int.toNat_natCast, List.map_take]
  rw [u_gain]
  unfold isD at *
  simp_arith! [b_gain, List.length_map, q_num, i, q1, q2, hT, b1, b2, cu]
end Den.T
set_option autoImplicit false
set_option maxRecDepth 100000
set_option maxHeartbeats 4000000
set_option exponentiation.threshold 10000
namespace Den.T
open PySem Den
/-- one bidder tells other worths -/
def wo2 (bids : List (List Int)) (i : Nat) (ot : List Int) : List (List Int) := bids.take i ++ ot :: bids.drop (i + 1)
theorem wo2_len {bids : List (List Int)} {i : Nat} {ot : List Int} (hi : i < bids.length) : (wo2 bids i ot).length = bids.length := by
  unfold wo2
  rw [List.length_append, List.length_cons, List.length_take, List.length_drop]
  omega
theorem wo2_get {bids : List (List Int)} {i b : Nat} {ot : List Int} (hi : i < bids.length) (hb : b < bids.length) : (wo2 bids i ot).getD b [] = if b = i then ot else bids.getD b [] := by
  unfold wo2
  rw [List.getD_eq_getElem?_getD, List.getElem?_append]
  have lt : (bids.take i).length = i := by rw [List.length_take]; omega
  rw [lt]
  by_cases q : b < i
  · rw [if_pos q, if_neg (by omega), List.getElem?_take_of_lt q, ← List.getD_eq_getElem?_getD]
  · rw [if_neg q]
    by_cases z : b = i
    · subst z
      rw [if_pos rfl, Nat.sub_self]; rfl
    · rw [if_neg z]
      have e : b - i = (b - i - 1) + 1 := by omega
      rw [e, List.getElem?_cons_succ, List.getElem?_drop, show i + 1 + (b - i - 1) = b by omega, ← List.getD_eq_getElem?_getD]
theorem wo2_ok {bids : List (List Int)} (h : BOK bids) {i : Nat} (hi : i < bids.length) {ot : List Int} (ho : WK ot) : BOK (wo2 bids i ot) := by
  refine ⟨by rw [wo2_len hi]; exact h.l1, by rw [wo2_len hi]; exact h.l2, fun ws hw => ?_⟩
  unfold wo2 at hw
  rcases List.mem_append.mp hw with z | z
  · exact h.r ws (List.mem_of_mem_take z)
  · rcases List.mem_cons.mp z with y | y
    · rw [y]; exact ho
    · exact h.r ws (List.mem_of_mem_drop y)
theorem wob_wo2 {bids : List (List Int)} {i : Nat} (hi : i < bids.length) {ot : List Int} : wob (wo2 bids i ot) i = wob bids i := by
  have lt : (bids.take i).length = i := by rw [List.length_take]; omega
  unfold wob wo2
  rw [List.take_append_of_le_length (by omega), List.take_of_length_le (by omega)]
  congr 2
  rw [List.drop_append, List.drop_eq_nil_of_le (by omega), lt, show i + 1 - i = 1 by omega, List.nil_append, List.drop_succ_cons, List.drop_zero]
/-- the one's part and the others' parts -/
def oth (bids : List (List Int)) (p : Int) (B : List (List Int)) (i : Nat) : Int := ((List.range bids.length).map fun b => if b = i then 0 else wv1 (bids.getD b []) ((cntW p B b : Nat) : Int)).sum
theorem zr_oth {p : Int} {B : List (List Int)} {i : Nat} (hi : i < B.length) : wv (wob B i) (zr p B i) = oth B p B i := by
  rw [zs (by rw [zr_len, wob_len hi]), wob_len hi]
  unfold oth
  congr 1
  apply List.map_congr_left
  intro b hb
  have hb := List.mem_range.mp hb
  rw [wob_get hi hb, zr_get hb]
  by_cases q : b = i
  · rw [if_pos q, if_pos q, if_pos q]; rfl
  · rw [if_neg q, if_neg q, if_neg q]
/-- what a bidder gains by harm, with true worths tr -/
def gn (p : Int) (B : List (List Int)) (i : Nat) (tr : List Int) : Int := (tr.take (cntW p B i)).sum - hm p B i
theorem gn_eq {p : Int} {bids : List (List Int)} (h : BOK bids) {i : Nat} (hi : i < bids.length) {ot : List Int} (ho : WK ot) {tr : List Int} (htr : bids.getD i [] = tr) :
    gn p (wo2 bids i ot) i tr = ((List.range bids.length).map fun b => wv1 (bids.getD b []) ((cntW p (wo2 bids i ot) b : Nat) : Int)).sum - wv (wob bids i) (gts p (wob bids i)) := by
  have hi' : i < (wo2 bids i ot).length := by rw [wo2_len hi]; exact hi
  have e := lharm_eq (p := p) (wo2_ok h hi ho) hi'
  rw [wob_wo2 hi] at e
  have z := zr_oth (p := p) (B := wo2 bids i ot) hi'
  rw [wob_wo2 hi] at z
  rw [z] at e
  have s : ((List.range bids.length).map fun b => wv1 (bids.getD b []) ((cntW p (wo2 bids i ot) b : Nat) : Int)).sum = oth (wo2 bids i ot) p (wo2 bids i ot) i + (tr.take (cntW p (wo2 bids i ot) i)).sum := by
    have bp := sum_bump (f := fun b => if b = i then 0 else wv1 ((wo2 bids i ot).getD b []) ((cntW p (wo2 bids i ot) b : Nat) : Int)) (v := (tr.take (cntW p (wo2 bids i ot) i)).sum) (c := i) bids.length
    rw [if_pos hi] at bp
    unfold oth
    rw [wo2_len hi, ← bp]
    congr 1
    apply List.map_congr_left
    intro b hb
    have hb := List.mem_range.mp hb
    by_cases q : b = i
    · subst q
      rw [if_pos rfl, if_pos rfl, htr]
      show (tr.take ((cntW p (wo2 bids b ot) b : Nat) : Int).toNat).sum = _
      rw [Int.toNat_natCast]; omega
    · rw [if_neg q, if_neg q, wo2_get hi hb, if_neg q]; omega
  unfold gn
  rw [s]
  omega
end Den.T
set_option autoImplicit false
set_option maxRecDepth 100000
set_option maxHeartbeats 4000000
set_option exponentiation.threshold 10000
namespace Den.T
open PySem Den
theorem best_of {p : Int} (hp : 0 ≤ p) {bids : List (List Int)} (h : BOK bids) (c : Nat → Nat) (hc : ((List.range bids.length).map fun b => ((c b : Nat) : Int)).sum ≤ p) : ((List.range bids.length).map fun b => wv1 (bids.getD b []) ((c b : Nat) : Int)).sum ≤ wv bids (gts p bids) := by
  obtain ⟨ms, hms⟩ : ∃ ms, ms = (List.range bids.length).map fun b => ((min (c b) (bids.getD b []).length : Nat) : Int) := ⟨_, rfl⟩
  have lm : ms.length = bids.length := by rw [hms]; simp
  have gm : ∀ b, b < bids.length → ms.getD b 0 = ((min (c b) (bids.getD b []).length : Nat) : Int) := fun b hb => by
    have : ms[b]? = some ((min (c b) (bids.getD b []).length : Nat) : Int) := by
      rw [hms, List.getElem?_map, List.getElem?_range hb]; rfl
    rw [List.getD_eq_getElem?_getD, this]; rfl
  have mo : MOK p bids bids.length ms := by
    refine ⟨lm, ?_, fun k hk => by rw [gm k hk]; omega⟩
    rw [hms]
    refine Int.le_trans (sum_mono (g := fun b => ((c b : Nat) : Int)) bids.length (fun b _ => by omega)) hc
  have w := wv_best hp h mo
  rw [zs lm] at w
  refine Int.le_trans (Int.le_of_eq ?_) w
  congr 1
  apply List.map_congr_left
  intro b hb
  have hb := List.mem_range.mp hb
  rw [gm b hb]
  unfold wv1
  rw [Int.toNat_natCast, Int.toNat_natCast]
  by_cases q : c b ≤ (bids.getD b []).length
  · rw [Nat.min_eq_left q]
  · rw [Nat.min_eq_right (by omega), List.take_of_length_le (by omega), List.take_of_length_le (by omega)]
theorem part1 {n : Nat} : ∀ T : List (List Int), (∀ r ∈ T, ∃ b, b < n ∧ r.getD 1 0 = (b : Int)) → ((List.range n).map fun b => (((T.filter (isB b)).length : Nat) : Int)).sum = T.length
  | [], _ => by
    have : ∀ m : Nat, ((List.range m).map fun _ => (0 : Int)).sum = 0 := fun m => by
      induction m with
      | zero => rfl
      | succ m ih => rw [List.range_succ, List.map_append, List.sum_append, ih]; rfl
    simp only [List.filter_nil, List.length_nil]
    exact this n
  | r :: T, h => by
    obtain ⟨c, hc, e⟩ := h r (List.mem_cons_self ..)
    have ih := part1 T (fun x hx => h x (List.mem_cons_of_mem _ hx))
    have e2 : ((List.range n).map fun b => ((((r :: T).filter (isB b)).length : Nat) : Int)) = (List.range n).map fun b => (((T.filter (isB b)).length : Nat) : Int) + (if b = c then 1 else 0) := by
      apply List.map_congr_left
      intro b _
      by_cases q : b = c
      · subst q
        have : isB b r = true := decide_eq_true e
        rw [List.filter_cons_of_pos this, List.length_cons, if_pos rfl]; omega
      · have : ¬ isB b r = true := fun z => q (by have := of_decide_eq_true z; omega)
        rw [List.filter_cons_of_neg this, if_neg q]; omega
    rw [e2, sum_bump, if_pos hc, ih, List.length_cons]; omega
theorem cnt_sum {p : Int} (hp : 0 ≤ p) {B : List (List Int)} : ((List.range B.length).map fun b => ((cntW p B b : Nat) : Int)).sum ≤ p := by
  have e := part1 (n := B.length) (W0 p B) (fun r hr => W0_mem hr)
  have e2 : ((List.range B.length).map fun b => ((cntW p B b : Nat) : Int)) = (List.range B.length).map fun b => ((((W0 p B).filter (isB b)).length : Nat) : Int) := by
    apply List.map_congr_left
    intro b _
    rw [cnt_W0]
  rw [e2, e]
  unfold W0
  rw [List.length_take]
  omega
theorem wo2_self {bids : List (List Int)} {i : Nat} (hi : i < bids.length) : wo2 bids i (bids.getD i []) = bids := by
  unfold wo2
  rw [getD_at hi, ← List.drop_eq_getElem_cons hi, List.take_append_drop]
theorem gn_true {p : Int} {bids : List (List Int)} (h : BOK bids) {i : Nat} (hi : i < bids.length) : gn p bids i (bids.getD i []) = wv bids (gts p bids) - wv (wob bids i) (gts p (wob bids i)) := by
  have wk : WK (bids.getD i []) := by rw [getD_at hi]; exact h.r _ (List.getElem_mem hi)
  have e := gn_eq (p := p) h hi wk rfl
  rw [wo2_self hi] at e
  rw [e, zs (ms := gts p bids) gts_len]
  congr 2
  apply List.map_congr_left
  intro b hb
  rw [gts_get (List.mem_range.mp hb)]
/-- no other worths gain more than the true ones -/
theorem truth {p : Int} (hp : 0 ≤ p) {bids : List (List Int)} (h : BOK bids) {i : Nat} (hi : i < bids.length) {ot : List Int} (ho : WK ot) : gn p (wo2 bids i ot) i (bids.getD i []) ≤ gn p bids i (bids.getD i []) := by
  rw [gn_eq h hi ho rfl, gn_true h hi]
  have b := best_of hp h (fun b => cntW p (wo2 bids i ot) b) (by
    have := cnt_sum (p := p) hp (B := wo2 bids i ot)
    rw [wo2_len hi] at this
    exact this)
  omega
/-- and the true ones never lose -/
theorem truth0 {p : Int} (hp : 0 ≤ p) {bids : List (List Int)} (h : BOK bids) {i : Nat} (hi : i < bids.length) : 0 ≤ gn p bids i (bids.getD i []) := by
  rw [gn_true h hi]
  have b := best_of hp h (fun b => if b = i then 0 else cntW p (wob bids i) b) (by
    have c := cnt_sum (p := p) hp (B := wob bids i)
    rw [wob_len hi] at c
    refine Int.le_trans (sum_mono (g := fun b => ((cntW p (wob bids i) b : Nat) : Int)) bids.length (fun b _ => ?_)) c
    by_cases q : b = i
    · rw [if_pos q]; omega
    · rw [if_neg q]; exact Int.le_refl _)
  have e : wv (wob bids i) (gts p (wob bids i)) = ((List.range bids.length).map fun b => wv1 (bids.getD b []) (((if b = i then 0 else cntW p (wob bids i) b : Nat)) : Int)).sum := by
    rw [zs gts_len, wob_len hi]
    congr 1
    apply List.map_congr_left
    intro b hb
    have hb := List.mem_range.mp hb
    rw [wob_get hi hb, gts_get (by rw [wob_len hi]; exact hb)]
    by_cases q : b = i
    · rw [if_pos q, if_pos q]; simp [wv1]
    · rw [if_neg q, if_neg q]
  rw [e]
  omega
end Den.T
set_option autoImplicit false
set_option maxRecDepth 100000
set_option maxHeartbeats 4000000
set_option exponentiation.threshold 10000
namespace Den.T
open PySem Den
def nx (L : List (List Int)) : List (List Int) := (L.map fun one => (([1, 2, 3, 4, 5, 6] : List Int).filter (fun w => one.isEmpty || decide (w ≤ one.getLastD 0))).map fun w => one ++ [w]).flatten
def tel : List (List Int) := [[]] ++ nx [[]] ++ nx (nx [[]]) ++ nx (nx (nx [[]]))
theorem tel_ok : ∀ r ∈ tel, r.length ≤ 8 ∧ (∀ w ∈ r, 1 ≤ w ∧ w ≤ 1000) ∧ r.Pairwise (· ≥ ·) := by decide +kernel
theorem tel_wk {r : List Int} (h : r ∈ tel) : WK r := ⟨(tel_ok r h).1, (tel_ok r h).2.1, (tel_ok r h).2.2⟩
theorem tel_len : tel.length = 84 := by decide +kernel
theorem q_tel : G 9 22 [.val (.int 3), .val (.int 6)] = .ok (.val (.list (tel.map tD))) [.val (.int 3), .val (.int 6)] := by
  kernel_rfl
end Den.T
set_option autoImplicit false
set_option maxRecDepth 100000
set_option maxHeartbeats 4000000
set_option exponentiation.threshold 10000
namespace Den.T
open PySem Den
theorem q_other2 (n : Nat) {p : Int} {bids : List (List Int)} (h : BOK bids) {i : Nat} (hi : i < bids.length) (ot : List Int) : G (n + 1) 10 [.val (isD p bids), .val (.int (i : Int)), .val (tD ot)] = .ok (.val (isD p (wo2 bids i ot))) [.val (isD p bids), .val (.int (i : Int)), .val (tD ot)] := by
  have l2 := h.l2
  have c1 : cutD (bids.map tD) none (some (i : Int)) = (bids.take i).map tD := by rw [cut_hi (by omega), Int.toNat_natCast, List.map_take]
  have c2 : cutD (bids.map tD) (some ((i : Int) + 1)) none = (bids.drop (i + 1)).map tD := by rw [cut_lo (by omega), List.map_drop]; congr 2
  have e1 : binD .add (.tuple ((bids.take i).map tD)) (.tuple [tD ot]) = some (.val (.tuple ((bids.take i).map tD ++ [tD ot]))) := b_addT (by rw [List.length_map, List.length_take]; unfold line; simp; omega)
  have e2 : binD .add (.tuple ((bids.take i).map tD ++ [tD ot])) (.tuple ((bids.drop (i + 1)).map tD)) = some (.val (.tuple ((wo2 bids i ot).map tD))) := by
    rw [b_addT (by rw [List.length_append, List.length_map, List.length_map, List.length_take, List.length_drop]; unfold line; simp; omega)]
    unfold wo2
    rw [List.map_append, List.map_cons, List.append_assoc]
    rfl
  rw [u_told_otherwise]
  unfold isD
  simp_arith [b_told_otherwise, c1, c2, e1, e2]
theorem mem_pick {α : Type} {xs : List α} {k : Int} {x : α} (h : x ∈ pickL xs k) : x ∈ xs := by
  unfold pickL at h
  obtain ⟨i, _, e⟩ := List.mem_filterMap.mp h
  exact List.mem_of_getElem? e
theorem al_tD {ls : List Int} (l : ls.length ≤ 1000000) {n : Nat} : Al (n + 1) (tD ls) := .tuple (fun d hd => by obtain ⟨i, _, rfl⟩ := List.mem_map.mp hd; exact .int) (by rw [List.length_map]; exact l)
theorem al_is {p : Int} {B : List (List Int)} (h : BOK B) {n : Nat} : Al (n + 3) (isD p B) := .tuple (n := n + 2) (fun d hd => by
  simp only [List.mem_cons, List.not_mem_nil, or_false] at hd
  rcases hd with rfl | rfl
  · exact .int
  · exact .tuple (n := n + 1) (fun d hd => by
      obtain ⟨w, hw, rfl⟩ := List.mem_map.mp hd
      exact al_tD (by have := (h.r w hw).l; omega)) (by have := h.l2; rw [List.length_map]; omega)) (by simp)
theorem SS_of {B L : List (List Int)} (p : L.Perm (allR B)) (s : L.Pairwise (fun x y => lexD y x = false)) : SS B = L := by
  have h := sortedT_ok (allR B)
  exact sortedT_one (h.1.trans p.symm) h.2 s
theorem B1 : BOK [[10, 6], [5]] := ⟨by decide, by decide, fun ws hw => by
  simp only [List.mem_cons, List.not_mem_nil, or_false] at hw
  rcases hw with rfl | rfl
  · exact ⟨by decide, by decide, by decide⟩
  · exact ⟨by decide, by decide, by decide⟩⟩
theorem B2 : BOK [[10, 1], [5]] := ⟨by decide, by decide, fun ws hw => by
  simp only [List.mem_cons, List.not_mem_nil, or_false] at hw
  rcases hw with rfl | rfl
  · exact ⟨by decide, by decide, by decide⟩
  · exact ⟨by decide, by decide, by decide⟩⟩
theorem ss1 : SS [[10, 6], [5]] = [[-10, 0, 0], [-6, 0, 1], [-5, 1, 0]] := SS_of (by decide) (by decide)
theorem ss2 : SS [[10, 1], [5]] = [[-10, 0, 0], [-5, 1, 0], [-1, 0, 1]] := SS_of (by decide) (by decide)
theorem c1 : cntW 2 [[10, 6], [5]] 0 = 2 := by unfold cntW won; rw [ss1]; decide
theorem c2 : cntW 2 [[10, 1], [5]] 0 = 1 := by unfold cntW won; rw [ss2]; decide
theorem c3 : gts 2 [[10, 1], [5]] = [1, 1] := by unfold gts cntW won; rw [ss2]; decide
theorem r1 : price 2 [[10, 6], [5]] = 5 := by unfold price lst; rw [ss1]; rfl
theorem r2 : price 2 [[10, 1], [5]] = 1 := by unfold price lst; rw [ss2]; rfl
theorem s1 : G 9 9 [.val (.tuple [.int 2, .tuple [.tuple [.int 10, .int 6], .tuple [.int 5]]]), .val (.str "one"), .val (.int 0), .val (.tuple [.int 10, .int 6])] = .ok (.val (.int 6)) [.val (.tuple [.int 2, .tuple [.tuple [.int 10, .int 6], .tuple [.int 5]]]), .val (.str "one"), .val (.int 0), .val (.tuple [.int 10, .int 6])] := by
  have := q_gain 4 (p := 2) (by decide) B1 (rule := .str "one") (R := 0) (.inl ⟨rfl, rfl⟩) (k := 0) (by decide) (tr := [10, 6])
  have e : du 0 2 [[10, 6], [5]] 0 = price 2 [[10, 6], [5]] * cntW 2 [[10, 6], [5]] 0 := rfl
  rw [e, c1, r1] at this
  exact this
theorem s3 : G 9 9 [.val (.tuple [.int 2, .tuple [.tuple [.int 10, .int 1], .tuple [.int 5]]]), .val (.str "one"), .val (.int 0), .val (.tuple [.int 10, .int 6])] = .ok (.val (.int 9)) [.val (.tuple [.int 2, .tuple [.tuple [.int 10, .int 1], .tuple [.int 5]]]), .val (.str "one"), .val (.int 0), .val (.tuple [.int 10, .int 6])] := by
  have := q_gain 4 (p := 2) (by decide) B2 (rule := .str "one") (R := 0) (.inl ⟨rfl, rfl⟩) (k := 0) (by decide) (tr := [10, 6])
  have e : du 0 2 [[10, 1], [5]] 0 = price 2 [[10, 1], [5]] * cntW 2 [[10, 1], [5]] 0 := rfl
  rw [e, c2, r2] at this
  exact this
theorem s4 : G 9 4 [.val (.tuple [.int 2, .tuple [.tuple [.int 10, .int 1], .tuple [.int 5]]])] = .ok (.val (.tuple [.int 1, .int 1])) [.val (.tuple [.int 2, .tuple [.tuple [.int 10, .int 1], .tuple [.int 5]]])] := by
  have := q_gets 7 (p := 2) (by decide) B2
  rw [c3] at this
  exact this
theorem s2 : G 9 10 [.val (.tuple [.int 2, .tuple [.tuple [.int 10, .int 6], .tuple [.int 5]]]), .val (.int 0), .val (.tuple [.int 10, .int 1])] = .ok (.val (.tuple [.int 2, .tuple [.tuple [.int 10, .int 1], .tuple [.int 5]]])) [.val (.tuple [.int 2, .tuple [.tuple [.int 10, .int 6], .tuple [.int 5]]]), .val (.int 0), .val (.tuple [.int 10, .int 1])] := by kernel_rfl
end Den.T
set_option autoImplicit false
set_option maxRecDepth 100000
set_option maxHeartbeats 4000000
set_option exponentiation.threshold 10000
namespace Den.T
open PySem Den
theorem law_ok (ns : List Int) (hn : ns.length ≤ 63) (hb : ∀ z ∈ ns, Builtin.Int.intBits z ≤ 1048576) : ∃ as', G 10 23 [.val (.list (ns.map .int))] = .ok (.val (.bool true)) as' := by
  obtain ⟨ds0, d0, e0⟩ := q_draws 8 ns hn hb
  generalize PyData.list (ns.map .int) = sc at *
  refine ⟨[.val sc], ?_⟩
  rw [u_law 9]
  obtain ⟨p, bids, ds1, hp, B, d1, e1⟩ := q_lissue 6 d0 (most := 3) (top := 5) (by decide) (by decide)
  have h := B.ok
  have l1 := B.l1
  have l2 := B.l2
  have hT : ∀ xs : List Int, tD xs = .tuple (xs.map .int) := fun _ => rfl
  have ip : isnum (.int p) 1 20 = true := isnum_in (by omega) (by omega)
  have z0 : G 9 2 [.val (.tuple [.int p, .tuple (bids.map tD)])] = .ok (.val (.bool true)) [.val (.tuple [.int p, .tuple (bids.map tD)])] := by
    have := q_isb 6 (a := .int p) (ds := bids.map tD) (fun _ => true) ip (by rw [List.length_map]; exact l1) (by rw [List.length_map]; omega) (fun d hd => by
      obtain ⟨w, hw, rfl⟩ := List.mem_map.mp hd
      exact q_wk 6 (h.r w hw))
    rw [show (bids.map tD).all (fun _ => true) = true by simp] at this
    exact this
  have sy : ∀ a b, G 9 14 [.val (.bool a), .val (.bool b)] = _ := fun a b => q_says 8 a b
  have tt0 : (true == true) = true := rfl
  have nf : (!false) = true := rfl
  have rgB : ∀ ρ, rngM [.val (.int (bids.length : Int))] ρ = .ok (.val .none, (rgI 0 bids.length).map .int) ρ := fun ρ => rg_1 (by omega) (by omega)
  unfold isD at e1
  simp_arith [b_law, e0, e1, z0, sy, tt0, nf, List.length_map, rgB]
  generalize hX : forL _ _ _ _ = X
  have lg : ((rgI 0 (bids.length : Int)).map PyData.int).length = bids.length := by rw [rgI_len]; omega
  obtain ⟨ρ', rfl, dz, y3, y4, y5, y6, y7, y8, dzi, ⟨p3, p4, p5, p6, p7, p8⟩, rfl⟩ := forL_inv hX (fun k ρ => ∃ (dz : List D) (y3 y4 y5 y6 y7 y8 : Sl), Ints dz ∧ (plainSl y3 = true ∧ plainSl y4 = true ∧ plainSl y5 = true ∧ plainSl y6 = true ∧ plainSl y7 = true ∧ plainSl y8 = true) ∧ ρ = [.val sc, .own false false dz, .val (.tuple [.int p, .tuple (bids.map tD)]), y3, y4, y5, y6, y7, y8, .no])
    ⟨ds1, .no, .no, .no, .no, .no, .no, d1, ⟨rfl, rfl, rfl, rfl, rfl, rfl⟩, rfl⟩ (by
    rintro i hi ρ ⟨dz, y3, y4, y5, y6, y7, y8, dzi, ⟨p3, p4, p5, p6, p7, p8⟩, rfl⟩
    rw [rgI_get hi]
    rw [lg] at hi
    have ej : (0 : Int) + (i : Int) = (i : Int) := by omega
    rw [ej]
    obtain ⟨st, da, a1, a2, dai, ea⟩ := q_take 8 dzi 2 (by decide)
    have i1 := at_T (xs := bids) (k := i) hi
    have g1 : G 9 9 _ = _ := q_gain 4 (p := p) (by omega) h (rule := .str "harm") (R := 2) (.inr (.inr ⟨rfl, rfl⟩)) hi (tr := bids.getD i [])
    have eg : ∀ (B : List (List Int)) (tr : List Int), (tr.take (cntW p B i)).sum - du 2 p B i = gn p B i tr := fun _ _ => rfl
    rw [eg] at g1
    have t0 := truth0 (p := p) (by omega) h hi
    have tb := fun {ot : List Int} (ho : WK ot) => truth (p := p) (by omega) h hi ho
    have wkt : (bids.getD i []).length ≤ 8 := by rw [getD_at hi]; exact (h.r _ (List.getElem_mem hi)).l
    obtain ⟨tr, htr⟩ : ∃ tr, bids.getD i [] = tr := ⟨_, rfl⟩
    rw [htr] at i1 g1 t0 tb wkt
    have n0 : ¬ gn p bids i tr < 0 := by omega
    have pk : (0 : Int) < 1 + st := by omega
    have inner : ∀ X, forL (.nm 6) (evB (G 9) t.D (.cons (.asg 7 false (.call 10 (.cons (.var 2) (.cons (.var 3) (.cons (.var 6) .nil))))) (.cons (.ife (.nt (.call 13 (.cons (.var 7) (.cons (.tup (.cons (.idx (.var 2) (.cst (.int 0))) (.cons (.bin .add (.bin .add (.slc (.idx (.var 2) (.cst (.int 1))) .nil (.cons (.var 3) .nil)) (.tup (.cons (.var 6) .nil))) (.slc (.idx (.var 2) (.cst (.int 1))) (.cons (.bin .add (.var 3) (.cst (.int 1))) .nil) .nil)) .nil))) .nil)))) (.cons (.ret (.cst (.bool false))) .nil) .nil) (.cons (.asg 8 false (.bin .sub (.bi .sum (.cons (.slc (.var 4) .nil (.cons (.idx (.call 18 (.cons (.var 7) .nil)) (.var 3)) .nil)) .nil)) (.call 21 (.cons (.var 7) (.cons (.var 3) .nil))))) (.cons (.ife (.or (.cons (.cmp .ne (.call 9 (.cons (.var 7) (.cons (.cst (.str "harm")) (.cons (.var 3) (.cons (.var 4) .nil))))) (.var 8)) (.cons (.cmp .gt (.var 8) (.var 5)) .nil))) (.cons (.ret (.cst (.bool false))) .nil) .nil) .nil))))) (pickL (tel.map tD) (1 + st)) [.val sc, .own false false da, .val (.tuple [.int p, .tuple (bids.map tD)]), .val (.int (i : Int)), .val (.tuple (tr.map .int)), .val (.int (gn p bids i tr)), y6, y7, y8, .no] = X →
        ∃ z6 z7 z8, (plainSl z6 = true ∧ plainSl z7 = true ∧ plainSl z8 = true) ∧ X = .nx [.val sc, .own false false da, .val (.tuple [.int p, .tuple (bids.map tD)]), .val (.int (i : Int)), .val (.tuple (tr.map .int)), .val (.int (gn p bids i tr)), z6, z7, z8, .no] := by
      intro X hX
      obtain ⟨ρ', rfl, z6, z7, z8, q, rfl⟩ := forL_inv hX (fun _ ρ => ∃ z6 z7 z8, (plainSl z6 = true ∧ plainSl z7 = true ∧ plainSl z8 = true) ∧ ρ = [.val sc, .own false false da, .val (.tuple [.int p, .tuple (bids.map tD)]), .val (.int (i : Int)), .val (.tuple (tr.map .int)), .val (.int (gn p bids i tr)), z6, z7, z8, .no])
        ⟨y6, y7, y8, ⟨p6, p7, p8⟩, rfl⟩ (by
        rintro j hj ρ ⟨z6, z7, z8, ⟨q6, q7, q8⟩, rfl⟩
        obtain ⟨ot, ho, e⟩ := List.mem_map.mp (mem_pick (List.getElem_mem hj))
        rw [← e]
        have wo := tel_wk ho
        have O := wo2_ok h hi wo
        have hi' : i < (wo2 bids i ot).length := by rw [wo2_len hi]; exact hi
        have f1 : G 9 10 [.val (isD p bids), .val (.int (i : Int)), .val (tD ot)] = _ := q_other2 8 h hi ot
        have c1 : cutD (bids.map tD) none (some (i : Int)) = (bids.take i).map tD := by rw [cut_hi (by omega), Int.toNat_natCast, List.map_take]
        have c2 : cutD (bids.map tD) (some ((i : Int) + 1)) none = (bids.drop (i + 1)).map tD := by rw [cut_lo (by omega), List.map_drop]; congr 2
        have b1 : binD .add (.tuple ((bids.take i).map tD)) (.tuple [.tuple (ot.map .int)]) = some (.val (.tuple ((bids.take i).map tD ++ [tD ot]))) := b_addT (by rw [List.length_map, List.length_take]; unfold line; simp; omega)
        have b2 : binD .add (.tuple ((bids.take i).map tD ++ [.tuple (ot.map .int)])) (.tuple ((bids.drop (i + 1)).map tD)) = some (.val (.tuple ((wo2 bids i ot).map tD))) := by
          rw [b_addT (by rw [List.length_append, List.length_map, List.length_map, List.length_take, List.length_drop]; unfold line; simp; omega)]
          unfold wo2
          rw [List.map_append, List.map_cons, List.append_assoc]
          rfl
        have A1 : G 9 13 [.val (isD p (wo2 bids i ot)), .val (isD p (wo2 bids i ot))] = _ := q_alike (m := 3) (al_is O) 8 (by decide)
        have f2 : G 9 18 [.val (isD p (wo2 bids i ot))] = _ := q_lgets 7 (by omega) O
        have f3 : G 9 21 _ = _ := q_lharm 6 (p := p) (by omega) O hi'
        have f4 : G 9 9 _ = _ := q_gain 4 (p := p) (by omega) O (rule := .str "harm") (R := 2) (.inr (.inr ⟨rfl, rfl⟩)) hi' (tr := tr)
        rw [eg] at f4
        have g2 := at_D (xs := gts p (wo2 bids i ot)) (k := i) (by rw [gts_len]; exact hi')
        rw [gts_get hi'] at g2
        have cu : cutD (tr.map PyData.int) none (some ((cntW p (wo2 bids i ot) i : Nat) : Int)) = (tr.take (cntW p (wo2 bids i ot) i)).map .int := by rw [cut_hi (by omega), Int.toNat_natCast, List.map_take]
        have eg2 : (tr.take (cntW p (wo2 bids i ot) i)).sum - hm p (wo2 bids i ot) i = gn p (wo2 bids i ot) i tr := rfl
        have ng : ¬ (gn p bids i tr < gn p (wo2 bids i ot) i tr) := by have := tb wo; omega
        have ne : cmpD .ne (.int (gn p (wo2 bids i ot) i tr)) (.int (gn p (wo2 bids i ot) i tr)) = some false := by rw [c_ne (by rfl)]; simp [PyData.eqv]
        unfold isD at *
        rw [hT] at f1 f4 b1
        refine ⟨_, [.val sc, .own false false da, .val (.tuple [.int p, .tuple (bids.map tD)]), .val (.int (i : Int)), .val (.tuple (tr.map .int)), .val (.int (gn p bids i tr)), .val (.tuple (ot.map .int)), .val (.tuple [.int p, .tuple ((wo2 bids i ot).map tD)]), .val (.int (gn p (wo2 bids i ot) i tr)), .no], (by simp_arith! [hT, q6, snR_p]; rfl), .inl ?_, .val (.tuple (ot.map .int)), .val (.tuple [.int p, .tuple ((wo2 bids i ot).map tD)]), .val (.int (gn p (wo2 bids i ot) i tr)), ⟨rfl, rfl, rfl⟩, rfl⟩
        simp_arith [f1, q7, q8, cp_pl, c1, c2, b1, b2, A1, nf, f2, f3, f4, g2, cu, eg2, ne, ng, hT])
      exact ⟨_, _, _, q, rfl⟩
    obtain ⟨z6, z7, z8, ⟨q6, q7, q8⟩, inn⟩ := inner _ rfl
    unfold isD at g1
    rw [hT] at g1 i1
    refine ⟨_, [.val sc, .own false false da, .val (.tuple [.int p, .tuple (bids.map tD)]), .val (.int (i : Int)), .val (.tuple (tr.map .int)), .val (.int (gn p bids i tr)), z6, z7, z8, .no], (by simp_arith! [p3, snR_p]; rfl), .inl ?_, da, .val (.int (i : Int)), .val (.tuple (tr.map .int)), .val (.int (gn p bids i tr)), z6, z7, z8, dai, ⟨rfl, rfl, rfl, q6, q7, q8⟩, rfl⟩
    simp_arith [i1, g1, n0, p4, p5, cp_pl, q_tel, ea, pk, inn])
  have x1 : cmpD .eq (.list [.int 6, .int 9, .tuple [.int 1, .int 1]]) (.list [.int 6, .int 9, .tuple [.int 1, .int 1]]) = some true := by rfl
  simp_arith! [s1, s2, s3, s4, p6, cp_pl, x1]
theorem k11_holds : PySem.Challenge.rw_matchedandcleared_k11_whole_telling_the.Holds := holds_of (fun ns hn hb => law_ok ns hn hb)
end Den.T
theorem PySem.Challenge.cw_matchedandcleared_k11_whole_telling_the_holds : PySem.Challenge.rw_matchedandcleared_k11_whole_telling_the.Holds :=
  Den.T.k11_holds
