import PyProof.Rows.All
import Wide.All
import OpenK.AllK
import Wide.FinOn
import HandS.ForMost
import KE.KDictDisplayH
import PyProof.Rows.TupDisplay
import HandS.HeadHook1
import HandS.IsInst
import HandS.TupLe
import HandS.SortOrd
import HandS.SortRule
import KE.KSortTup
import KE.SortData
import KE.DatumOrd
import HandS.SortInts
import KE.KTupSum
import HandS.Deep
import HandS.Style
import HandS.TupAny
import HandS.TupMul
import KE.KSortedM
import HandS.Conv
import KE.GoesEnum
import HandS.Zip
import HandS.Dict
import HandS.More
import HandS.Star
import HandS.SlotsOwn
import HandS.Words
import HandS.Defaults
import HandS.Head0
import HandS.Head1
import HandS.Head2
import HandS.HeadEnd
import HandS.HeadHook2
import HandS.HeadHook3
import HandS.HeadHook4
import KE.KStateDown
import Lean
import PySem.Challenge.RW_quorumrules_k39_whole_counts_of_groups
set_option Elab.async false
set_option linter.all false
set_option maxRecDepth 100000
/-! QInterp: a small language without positions, and what it does over a store of lists: the programs' defs are turned into it (QComp), once and for all shown to do the same (QSound). -/
namespace QR
open PySem

/-! ### values, cells -/
inductive MV where
  | non | bl (b : Bool) | int (i : Int) | str (x : Str)
  | tup (xs : List MV) | lst (xs : List MV) | rol (xs : List MV) | ref (a : Nat)
  /-- a tuple of texts, known to be a tuple and nothing else -/
  | xts (zs : List Str)
  deriving Inhabited

mutual
def MV.beq : MV → MV → Bool
  | .non, .non => true
  | .bl a, .bl b => a == b
  | .int a, .int b => a == b
  | .str a, .str b => a == b
  | .tup a, .tup b => MV.beqs a b
  | .lst a, .lst b => MV.beqs a b
  | .rol a, .rol b => MV.beqs a b
  | .ref a, .ref b => a == b
  | .xts a, .xts b => a == b
  | _, _ => false
def MV.beqs : List MV → List MV → Bool
  | [], [] => true
  | x :: xs, y :: ys => MV.beq x y && MV.beqs xs ys
  | _, _ => false
end
mutual
theorem MV.beq_refl : ∀ x : MV, MV.beq x x = true
  | .non => by simp [MV.beq]
  | .bl a => by simp [MV.beq]
  | .int a => by simp [MV.beq]
  | .str a => by simp [MV.beq]
  | .tup a => by simp [MV.beq, MV.beqs_refl a]
  | .lst a => by simp [MV.beq, MV.beqs_refl a]
  | .rol a => by simp [MV.beq, MV.beqs_refl a]
  | .ref a => by simp [MV.beq]
  | .xts a => by simp [MV.beq]
theorem MV.beqs_refl : ∀ x : List MV, MV.beqs x x = true
  | [] => by simp [MV.beqs]
  | x :: xs => by simp [MV.beqs, MV.beq_refl x, MV.beqs_refl xs]
end
mutual
theorem MV.beq_eq : ∀ x y : MV, MV.beq x y = true → x = y
  | .non, y, h => by cases y <;> first | rfl | simp [MV.beq] at h
  | .bl a, y, h => by cases y <;> first | (simp [MV.beq] at h; rw [h]) | simp [MV.beq] at h
  | .int a, y, h => by cases y <;> first | (simp [MV.beq] at h; rw [h]) | simp [MV.beq] at h
  | .str a, y, h => by cases y <;> first | (simp [MV.beq] at h; rw [h]) | simp [MV.beq] at h
  | .tup a, y, h => by
    cases y with
    | tup b => simp only [MV.beq] at h; rw [MV.beqs_eq a b h]
    | _ => simp [MV.beq] at h
  | .lst a, y, h => by
    cases y with
    | lst b => simp only [MV.beq] at h; rw [MV.beqs_eq a b h]
    | _ => simp [MV.beq] at h
  | .rol a, y, h => by
    cases y with
    | rol b => simp only [MV.beq] at h; rw [MV.beqs_eq a b h]
    | _ => simp [MV.beq] at h
  | .ref a, y, h => by cases y <;> first | (simp [MV.beq] at h; rw [h]) | simp [MV.beq] at h
  | .xts a, y, h => by cases y <;> first | (simp [MV.beq] at h; rw [h]) | simp [MV.beq] at h
theorem MV.beqs_eq : ∀ x y : List MV, MV.beqs x y = true → x = y
  | [], y, h => by cases y <;> first | rfl | simp [MV.beqs] at h
  | x :: xs, y, h => by
    cases y with
    | nil => simp [MV.beqs] at h
    | cons z zs =>
      simp only [MV.beqs, Bool.and_eq_true] at h
      rw [MV.beq_eq x z h.1, MV.beqs_eq xs zs h.2]
end

/-- what stands in the store: a list; a dict whose keys are tuples of ints, each of the value True; an instance of a class, its attributes -/
inductive Cell where
  | lst (xs : List MV)
  | dct (ks : List (List Int))
  | obj (c : Str) (fs : List (Str × MV))
  deriving Inhabited
def Cell.beq : Cell → Cell → Bool
  | .lst a, .lst b => MV.beqs a b
  | .dct a, .dct b => a == b
  | .obj c f, .obj d g => decide (c = d) && (decide (f.map (·.1) = g.map (·.1)) && MV.beqs (f.map (·.2)) (g.map (·.2)))
  | _, _ => false
theorem pairs_eq {α β : Type} : ∀ {f g : List (α × β)}, f.map (·.1) = g.map (·.1) → f.map (·.2) = g.map (·.2) → f = g
  | [], [], _, _ => rfl
  | [], _ :: _, h, _ => by cases h
  | _ :: _, [], h, _ => by cases h
  | (a, b) :: f, (c, d) :: g, h1, h2 => by
    rw [List.map_cons, List.map_cons] at h1 h2
    injection h1 with a1 a2
    injection h2 with b1 b2
    have a1 : a = c := a1
    have b1 : b = d := b1
    rw [a1, b1, pairs_eq a2 b2]
theorem Cell.beq_refl (c : Cell) : Cell.beq c c = true := by
  cases c with
  | lst a => exact MV.beqs_refl a
  | dct a => show (a == a) = true; simp
  | obj c f =>
    show (decide (c = c) && (decide (f.map (·.1) = f.map (·.1)) && MV.beqs (f.map (·.2)) (f.map (·.2)))) = true
    rw [MV.beqs_refl, decide_eq_true rfl, decide_eq_true rfl]
    rfl
theorem Cell.beq_eq {c d : Cell} (h : Cell.beq c d = true) : c = d := by
  cases c with
  | lst a => cases d with
    | lst b => rw [MV.beqs_eq a b h]
    | dct b => cases h
    | obj _ _ => cases h
  | obj c f => cases d with
    | lst b => cases h
    | dct b => cases h
    | obj d g =>
      have h : (decide (c = d) && (decide (f.map (·.1) = g.map (·.1)) && MV.beqs (f.map (·.2)) (g.map (·.2)))) = true := h
      simp only [Bool.and_eq_true, decide_eq_true_eq] at h
      rw [h.1, pairs_eq h.2.1 (MV.beqs_eq _ _ h.2.2)]
  | dct a => cases d with
    | lst b => cases h
    | obj _ _ => cases h
    | dct b =>
      have h2 : (a == b) = true := h
      rw [eq_of_beq h2]
abbrev Store := List Cell
abbrev Env := List (Option MV)

inductive Exc where
  | cls (k : Nat) (x : Option Int)
  deriving Inhabited
inductive Out (α : Type) where
  | val (a : α) (st : Store) | exc (e : Exc) (st : Store) | bad
def Out.bind {α β : Type} (o : Out α) (f : α → Store → Out β) : Out β := match o with
  | .val a st => f a st
  | .exc e st => .exc e st
  | .bad => .bad
@[simp] theorem Out.bind_val {α β : Type} {a : α} {st : Store} {f : α → Store → Out β} : (Out.val a st).bind f = f a st := rfl
@[simp] theorem Out.bind_exc {α β : Type} {e : Exc} {st : Store} {f : α → Store → Out β} : (Out.exc e st : Out α).bind f = .exc e st := rfl
@[simp] theorem Out.bind_bad {α β : Type} {f : α → Store → Out β} : (Out.bad : Out α).bind f = .bad := rfl
theorem Out.bind_eq {α β : Type} {o : Out α} {f : α → Store → Out β} {b : β} {st' : Store} (h : o.bind f = .val b st') : ∃ a st, o = .val a st ∧ f a st = .val b st' := by
  cases o with
  | val a st => exact ⟨a, st, rfl, h⟩
  | exc e st => cases h
  | bad => cases h
/-- a test: bad where it does not hold -/
def chk {α : Type} (b : Bool) (o : Out α) : Out α := match b with
  | true => o
  | false => .bad
@[simp] theorem chk_true {α : Type} {o : Out α} : chk true o = o := rfl
@[simp] theorem chk_false {α : Type} {o : Out α} : chk false o = .bad := rfl
theorem chk_eq {α : Type} {b : Bool} {o : Out α} {a : α} {st : Store} (h : chk b o = .val a st) : b = true ∧ o = .val a st := by
  cases b with
  | true => exact ⟨rfl, h⟩
  | false => cases h
def ofO {α : Type} (o : Option α) (st : Store) : Out α := match o with
  | some a => .val a st
  | none => .bad
@[simp] theorem ofO_some {α : Type} {a : α} {st : Store} : ofO (some a) st = .val a st := rfl
@[simp] theorem ofO_none {α : Type} {st : Store} : ofO (none : Option α) st = .bad := rfl
theorem ofO_eq {α : Type} {o : Option α} {st st' : Store} {a : α} (h : ofO o st = .val a st') : o = some a ∧ st' = st := by
  cases o with
  | some b =>
    cases h
    exact ⟨rfl, rfl⟩
  | none => cases h

/-! no new list within -/
mutual
def noLst : MV → Bool
  | .tup xs => noLsts xs
  | .lst _ => false
  | _ => true
def noLsts : List MV → Bool
  | [] => true
  | x :: xs => noLst x && noLsts xs
end
/-! no cell within at n or above, no new list -/
mutual
def below (n : Nat) : MV → Bool
  | .tup xs => belows n xs
  | .lst _ => false
  | .rol _ => true
  | .ref a => Nat.blt a n
  | _ => true
def belows (n : Nat) : List MV → Bool
  | [] => true
  | x :: xs => below n x && belows n xs
end
/-! what is stored at a name, in a list: its new lists become cells -/
mutual
def alloc : MV → Store → MV × Store
  | .tup xs, st => let r := allocs xs st; (.tup r.1, r.2)
  | .lst xs, st => let r := allocs xs st; (.ref r.2.length, r.2 ++ [.lst r.1])
  | .non, st => (.non, st)
  | .bl b, st => (.bl b, st)
  | .int i, st => (.int i, st)
  | .str x, st => (.str x, st)
  | .rol xs, st => (.rol xs, st)
  | .ref a, st => (.ref a, st)
  | .xts a, st => (.xts a, st)
def allocs : List MV → Store → List MV × Store
  | [], st => ([], st)
  | x :: xs, st => let r := alloc x st; let q := allocs xs r.2; (r.1 :: q.1, q.2)
end

/-! ### what is read -/
def big : Nat := 16000000
def lstOf (st : Store) : MV → Option (List MV)
  | .lst xs => some xs
  | .ref a => (match st[a]? with
    | some (.lst xs) => some xs
    | _ => none)
  | _ => none
def seqOf (st : Store) : MV → Option (List MV)
  | .lst xs => some xs
  | .rol xs => some xs
  | .tup xs => some xs
  | .xts zs => some (zs.map .str)
  | .ref a => (match st[a]? with
    | some (.lst xs) => some xs
    | _ => none)
  | _ => none
/-- data behind a value -/
def toD (st : Store) : Nat → MV → Option PyData
  | 0, _ => none
  | n + 1, m => match m with
    | .non => some .none
    | .bl b => some (.bool b)
    | .int i => some (.int i)
    | .str x => some (.str x)
    | .tup xs => (xs.mapM (toD st n)).map .tuple
    | .lst xs => (xs.mapM (toD st n)).map .list
    | .rol xs => (xs.mapM (toD st n)).map .list
    | .xts zs => ((zs.map MV.str).mapM (toD st n)).map .tuple
    | .ref a => (match st[a]? with
      | some (.lst xs) => (xs.mapM (toD st n)).map .list
      | _ => none)
def intsOf : List MV → Option (List Int)
  | [] => some []
  | .int i :: r => (intsOf r).map (i :: ·)
  | _ :: _ => none
def bsOf : List MV → Option (List Bool)
  | [] => some []
  | .bl i :: r => (bsOf r).map (i :: ·)
  | _ :: _ => none
def rowsOf : List MV → Option (List (List Int))
  | [] => some []
  | .tup xs :: r => (intsOf xs).bind fun i => (rowsOf r).map (i :: ·)
  | _ :: _ => none
/-- a pair of an int and a row of ints -/
def keysOf : List MV → Option (List (List Int))
  | [] => some []
  | .tup [.int i, .tup xs] :: r => (intsOf xs).bind fun k => (keysOf r).map ((i :: k) :: ·)
  | _ :: _ => none
def flat : MV → Bool
  | .non => true
  | .bl _ => true
  | .int _ => true
  | .str _ => true
  | _ => false

/-! ### order -/
def lexLe : List Int → List Int → Bool
  | [], _ => true
  | _ :: _, [] => false
  | x :: xs, y :: ys => if x = y then lexLe xs ys else decide (x < y)
def ins {α : Type} (le : α → α → Bool) (x : α) : List α → List α
  | [] => [x]
  | y :: ys => if le x y then x :: y :: ys else y :: ins le x ys
def isort {α : Type} (le : α → α → Bool) : List α → List α
  | [] => []
  | x :: xs => ins le x (isort le xs)
/-- the first of the least -/
def leastOf {α : Type} (le : α → α → Bool) : α → List α → α
  | x, [] => x
  | x, y :: ys => if le x y then leastOf le x ys else leastOf le y ys

/-! ### operators -/
inductive Bop where
  | add | sub | mul | fdiv | mod | pow
  deriving DecidableEq
inductive Cop where
  | eq | ne | lt | le | gt | ge | is | isn | mem | nmem
  deriving DecidableEq
inductive Ty where
  | int | bool | str | tuple | list
  deriving DecidableEq
inductive Blt where
  | len | abs | min | max | int | sum | all | any | sorted | tuple | list | isi (t : Ty)
  deriving DecidableEq
inductive Mth where
  | append | index | pop
  deriving DecidableEq
inductive Sli where
  | upto | frm | rev
  deriving DecidableEq
def small64 (i : Int) : Bool := decide (-(2 ^ 64) < i) && decide (i < 2 ^ 64)
def b2 (b : Bool) : Int := if b = true then 1 else 0
/-- a bool among ints -/
def addB (x y : MV) (st : Store) : Out MV := match x, y with
  | .bl a, .int j => .val (.int (b2 a + j)) st
  | _, _ => .bad
def addM (x y : MV) (st : Store) : Out MV := match x, y with
  | .int i, .int j => .val (.int (i + j)) st
  | .tup xs, .tup ys => chk (decide (xs.length + ys.length ≤ big)) (.val (.tup (xs ++ ys)) st)
  | .xts xs, .xts ys => chk (decide (xs.length + ys.length ≤ big)) (.val (.xts (xs ++ ys)) st)
  | x, y => match lstOf st x, lstOf st y with
    | some xs, some ys => chk (decide (xs.length + ys.length ≤ big)) (.val (.lst (xs ++ ys)) st)
    | _, _ => addB x y st
/-- xs, k times -/
def repM (xs : List MV) (k : Int) : List MV := (List.replicate k.toNat xs).flatten
def mulM (x y : MV) (st : Store) : Out MV := match x, y with
  | .int i, .int j => chk (small64 i || small64 j) (.val (.int (i * j)) st)
  | .tup xs, .int k => chk (!xs.isEmpty && (noLsts xs && (decide (1 ≤ k) && (decide (k ≤ 1000) && decide (xs.length ≤ 1000))))) (.val (.tup (repM xs k)) st)
  | .lst xs, .int k => chk (noLsts xs && (decide (0 ≤ k) && (decide (k ≤ 1000) && decide (xs.length ≤ 1000)))) (.val (.lst (repM xs k)) st)
  | _, _ => .bad
def binM (op : Bop) (x y : MV) (st : Store) : Out MV := match op with
  | .add => addM x y st
  | .mul => mulM x y st
  | .sub => (match x, y with
    | .int i, .int j => .val (.int (i - j)) st
    | .bl a, .int j => .val (.int (b2 a - j)) st
    | _, _ => .bad)
  | .fdiv => (match x, y with
    | .int i, .int j => chk (decide (j ≠ 0) && decide (j.natAbs < 1073741824)) (.val (.int (i.fdiv j)) st)
    | _, _ => .bad)
  | .mod => (match x, y with
    | .int i, .int j => chk (decide (j ≠ 0)) (.val (.int (i.fmod j)) st)
    | _, _ => .bad)
  | .pow => (match x, y with
    | .int i, .int j => chk (decide (0 ≤ j) && (decide (j ≤ 1000000) && decide (i.natAbs < 2 ^ 64))) (.val (.int (i ^ j.toNat)) st)
    | _, _ => .bad)
def eqM (x y : MV) (st : Store) (k : Bool → Out MV) : Out MV := match toD st 9 x, toD st 9 y with
  | some d, some e => k (PyData.eqv d e)
  | _, _ => .bad
def isTup : MV → Bool
  | .tup _ => true
  | .xts _ => true
  | _ => false
/-- a key of a dict -/
def keyOf : MV → Option (List Int)
  | .tup xs => intsOf xs
  | _ => none
def dctOf (st : Store) : MV → Option (List (List Int))
  | .ref a => (match st[a]? with
    | some (.dct ks) => some ks
    | _ => none)
  | _ => none
def memD (x y : MV) (st : Store) (k : Bool → Out MV) : Out MV := match dctOf st y, keyOf x with
  | some ks, some i => k (decide (i ∈ ks))
  | _, _ => .bad
def putKey (i : List Int) (ks : List (List Int)) : List (List Int) := if i ∈ ks then ks else ks ++ [i]
def memM (x y : MV) (st : Store) (k : Bool → Out MV) : Out MV := match seqOf st y with
  | some ys => chk (!isTup y || (flat x && ys.all flat)) (match toD st 9 x, ys.mapM (toD st 9) with
    | some d, some es => k (es.any fun e => PyData.eqv e d)
    | _, _ => .bad)
  | none => memD x y st k
def ordM (x y : MV) (st : Store) (p : Int → Int → Bool) : Out MV := match x, y with
  | .int i, .int j => .val (.bl (p i j)) st
  | _, _ => .bad
def isNon : MV → Bool
  | .non => true
  | _ => false
def isM (x y : MV) (st : Store) (k : Bool → Out MV) : Out MV := match y with
  | .non => k (isNon x)
  | .bl b => (match x with
    | .bl a => k (decide (a = b))
    | _ => .bad)
  | _ => .bad
def cmpM (op : Cop) (x y : MV) (st : Store) : Out MV := match op with
  | .eq => eqM x y st fun b => .val (.bl b) st
  | .ne => eqM x y st fun b => .val (.bl (!b)) st
  | .lt => ordM x y st fun i j => decide (i < j)
  | .le => ordM x y st fun i j => decide (i ≤ j)
  | .gt => ordM x y st fun i j => decide (j < i)
  | .ge => ordM x y st fun i j => decide (j ≤ i)
  | .is => isM x y st fun b => .val (.bl b) st
  | .isn => isM x y st fun b => .val (.bl (!b)) st
  | .mem => memM x y st fun b => .val (.bl b) st
  | .nmem => memM x y st fun b => .val (.bl (!b)) st
def isiM (t : Ty) (x : MV) (st : Store) : Out MV := match x with
  | .non => .val (.bl false) st
  | .bl _ => .val (.bl (decide (t = .int) || decide (t = .bool))) st
  | .int _ => .val (.bl (decide (t = .int))) st
  | .str _ => .val (.bl (decide (t = .str))) st
  | .tup _ => .val (.bl (decide (t = .tuple))) st
  | .xts _ => .val (.bl (decide (t = .tuple))) st
  | .lst _ => .val (.bl (decide (t = .list))) st
  | .rol _ => .val (.bl (decide (t = .list))) st
  | .ref a => (match st[a]? with
    | some (.lst _) => .val (.bl (decide (t = .list))) st
    | _ => .bad)
def lenM (x : MV) (st : Store) : Out MV := match x with
  | .str z => chk (decide (z.length ≤ big)) (.val (.int z.length) st)
  | x => (match seqOf st x with
    | some xs => .val (.int xs.length) st
    | none => .bad)
def rowMV (r : List Int) : MV := .tup (r.map .int)
/-- rows that can be sorted: the first one empty, or none of them -/
def rowsOk : List (List Int) → Bool
  | [] => false
  | [] :: _ => true
  | r :: rs => (r :: rs).all fun r => !r.isEmpty
def sortM (t : Bool) (xs : List MV) (st : Store) : Out MV := match intsOf xs with
  | some ns => .val (.lst ((isort (fun a b => decide (a ≤ b)) ns).map .int)) st
  | none => (match t, rowsOf xs with
    | false, some rs => chk (rowsOk rs) (.val (.lst ((isort lexLe rs).map rowMV)) st)
    | _, _ => .bad)
def keyMV : List Int → MV
  | [] => .non
  | i :: k => .tup [.int i, .tup (k.map .int)]
def minM (xs : List MV) (st : Store) : Out MV := match xs with
  | [] => .bad
  | _ :: _ => match intsOf xs with
    | some (n :: ns) => .val (.int (leastOf (fun a b => decide (a ≤ b)) n ns)) st
    | some [] => .bad
    | none => (match keysOf xs with
      | some (k :: ks) => .val (keyMV (leastOf lexLe k ks)) st
      | _ => .bad)
def maxM (xs : List MV) (st : Store) : Out MV := match intsOf xs with
  | some (n :: ns) => .val (.int (leastOf (fun a b => decide (b ≤ a)) n ns)) st
  | _ => .bad
def bltM (b : Blt) (vs : List MV) (st : Store) : Out MV := match b, vs with
  | .len, [x] => lenM x st
  | .abs, [.int i] => .val (.int (if i < 0 then -i else i)) st
  | .min, [.int i, .int j] => .val (.int (if j < i then j else i)) st
  | .max, [.int i, .int j] => .val (.int (if j > i then j else i)) st
  | .min, [x] => (match lstOf st x with
    | some xs => minM xs st
    | none => .bad)
  | .max, [x] => (match lstOf st x with
    | some xs => maxM xs st
    | none => .bad)
  | .int, [.int i] => .val (.int i) st
  | .int, [.bl k] => .val (.int (if k then 1 else 0)) st
  | .sum, [x] => (match seqOf st x with
    | some xs => (match intsOf xs with
      | some ns => .val (.int ns.sum) st
      | none => .bad)
    | none => .bad)
  | .all, [x] => (match lstOf st x with
    | some xs => (match bsOf xs with
      | some ns => .val (.bl (ns.all id)) st
      | none => .bad)
    | none => .bad)
  | .any, [x] => (match lstOf st x with
    | some xs => (match bsOf xs with
      | some ns => .val (.bl (ns.any id)) st
      | none => .bad)
    | none => .bad)
  | .sorted, [x] => (match seqOf st x with
    | some xs => sortM (isTup x) xs st
    | none => .bad)
  | .tuple, [x] => (match seqOf st x with
    | some xs => .val (.tup xs) st
    | none => .bad)
  | .list, [x] => (match seqOf st x with
    | some xs => .val (.lst xs) st
    | none => .bad)
  | .isi t, [x] => isiM t x st
  | _, _ => .bad
def atM (xs : List MV) (i : Int) : Option MV := if 0 ≤ i then xs[i.toNat]? else if -(xs.length : Int) ≤ i then xs[(i + xs.length).toNat]? else none
def subM (x y : MV) (st : Store) : Out MV := match seqOf st x, y with
  | some xs, .int i => ofO (atM xs i) st
  | _, _ => .bad
def again (x : MV) (xs : List MV) : MV := match x with
  | .tup _ => .tup xs
  | .xts _ => .tup xs
  | _ => .lst xs
def sliM (k : Sli) (x y : MV) (st : Store) : Out MV := match seqOf st x with
  | some xs => (match k, y with
    | .upto, .int i => if 0 ≤ i then .val (again x (xs.take i.toNat)) st else if i = -1 then .val (again x xs.dropLast) st else .bad
    | .frm, .int i => if 0 ≤ i then .val (again x (xs.drop i.toNat)) st else .bad
    | .rev, _ => chk (noLsts xs) (.val (again x xs.reverse) st)
    | _, _ => .bad)
  | none => .bad
def mthM (m : Mth) (o : MV) (vs : List MV) (st : Store) : Out MV := match m, o, vs with
  | .append, .ref a, [x] => let r := alloc x st
    (match r.2[a]? with
    | some (.lst xs) => chk (decide (xs.length < big)) (.val .non (r.2.set a (.lst (xs ++ [r.1]))))
    | _ => .bad)
  | .pop, .ref a, [] => (match st[a]? with
    | some (.lst xs) => (match xs.getLast? with
      | some y => .val y (st.set a (.lst xs.dropLast))
      | none => .bad)
    | _ => .bad)
  | .pop, .ref a, [.int i] => (match st[a]? with
    | some (.lst xs) => chk (decide (0 ≤ i) && decide (i < 1000000)) (match xs[i.toNat]? with
      | some y => .val y (st.set a (.lst (xs.eraseIdx i.toNat)))
      | none => .bad)
    | _ => .bad)
  | .index, o, [.int i] => (match lstOf st o with
    | some xs => (match intsOf xs with
      | some ns => (match ns.findIdx? (· == i) with
        | some j => .val (.int (j : Nat)) st
        | none => .bad)
      | none => .bad)
    | none => .bad)
  | _, _, _ => .bad
/-- how often a text stands in a tuple of texts -/
def strsOf : List MV → Option (List Str)
  | [] => some []
  | .str z :: r => (strsOf r).map (z :: ·)
  | _ :: _ => none
def cntM (x y : MV) (st : Store) : Out MV := match x, y with
  | .xts zs, .str z => .val (.int (zs.count z : Nat)) st
  | _, _ => .bad
/-- what a star takes -/
def starV (vs : List MV) : MV := match strsOf vs with
  | some zs => .xts zs
  | none => .tup vs
def isTru : MV → Bool
  | .bl true => true
  | _ => false
/-- the cell a stored anew: at i; x as it was handed over, y as it is stored -/
def setC (a : Nat) (i x y : MV) (st : Store) : Option Cell → Out Unit
  | some (.lst xs) => (match i with
    | .int k => chk (decide (0 ≤ k) && decide (k < xs.length)) (.val () (st.set a (.lst (xs.set k.toNat y))))
    | _ => .bad)
  | some (.dct ks) => (match keyOf i with
    | some k => chk (isTru x && decide (ks.length < big)) (.val () (st.set a (.dct (putKey k ks))))
    | none => .bad)
  | _ => .bad
/-- a[i] = x -/
def setM (o i x : MV) (st : Store) : Out Unit := match o with
  | .ref a => let r := alloc x st; setC a i x r.1 r.2 r.2[a]?
  | _ => .bad
/-- the attribute f stored -/
def putF (f : Str) (v : MV) : List (Str × MV) → List (Str × MV)
  | [] => [(f, v)]
  | (g, u) :: r => if g = f then (g, v) :: r else (g, u) :: putF f v r
/-- a.f = x -/
def setaM (c : Str) (o : MV) (f : Str) (x : MV) (st : Store) : Out Unit := match o with
  | .ref a => let r := alloc x st
    (match r.2[a]? with
    | some (.obj d fs) => chk (decide (d = c) && decide (fs.length < 100)) (.val () (r.2.set a (.obj c (putF f r.1 fs))))
    | _ => .bad)
  | _ => .bad
/-- a.f -/
def getaM (c : Str) (o : MV) (f : Str) (st : Store) : Out MV := match o with
  | .ref a => (match st[a]? with
    | some (.obj d fs) => chk (decide (d = c)) (ofO (fs.lookup f) st)
    | _ => .bad)
  | _ => .bad
/-- an instance of the class c, without an attribute of that name? -/
def isObj (c m : Str) (st : Store) : MV → Bool
  | .ref a => (match st[a]? with
    | some (.obj d fs) => decide (d = c) && (fs.lookup m).isNone
    | _ => false)
  | _ => false

/-! ### the language -/
inductive Tg where
  | nm (i : Nat) | nms (is : List Nat)
  deriving DecidableEq
mutual
inductive E where
  | var (i : Nat) | cst (m : MV)
  | bin (op : Bop) (a b : E) | neg (a : E) | not (a : E) | and (a b : E) | or (a b : E)
  | cmp (op : Cop) (a b : E) | chn (op op' : Cop) (a b c : E) | ite (c a b : E)
  | call (f : Nat) (es : Es) | blt (b : Blt) (es : Es) | mth (m : Mth) (o : E) (es : Es)
  | tup (es : Es) | lst (es : Es) | dct (k : E)
  | comp (elt : E) (tg : Tg) (it : It) (c : E)
  | sub (a i : E) | sli (k : Sli) (a b : E)
  | rgl (t : Bool) (a b : E)
  | pick (ks : List Str) (es : Es) (i : E)
  | nerep (a e : E) (k : Int)
  | attr (c : Str) (o : E) (f : Str) | mk (c : Str) (k : Nat) (es : Es) | mcl (c m : Str) (k : Nat) (o : E) (es : Es) | mcs (c m : Str) (k : Nat) (o : E) (es : Es) | lenO (c : Str) (k : Nat) (o : E) | cnt (o e : E) | xte
inductive Es where
  | nil | cons (e : E) (es : Es)
inductive It where
  | ex (e : E) | rng (a b : E) | zip (a b : E) | enum (a : E)
end
mutual
inductive S where
  | asg (tg : Tg) (e : E) | set (o i e : E) | seta (c : Str) (o : E) (f : Str) (e : E) | aug (i : Nat) (e : E) | exp (e : E) | ret (e : E)
  | iff (c : E) (a b : Ss) | for (tg : Tg) (it : It) (b : Ss) | whl (c : E) (b : Ss) | raise (k : Nat) | pass
inductive Ss where
  | nil | cons (s : S) (r : Ss)
end
structure FDef where
  np : Nat
  ns : Nat
  body : Ss
abbrev Phi := Nat → List MV → Store → Out MV

/-! ### what it does -/
def range (a b : Int) : List MV := (List.range (b - a).toNat).map fun i => .int (a + (i : Nat))
def pairUp : List MV → List MV → List MV
  | x :: xs, y :: ys => .tup [x, y] :: pairUp xs ys
  | _, _ => []
def enumFrom : Int → List MV → List MV
  | _, [] => []
  | n, x :: xs => .tup [.int n, x] :: enumFrom (n + 1) xs
def rangeM : Bool → Int → Int → MV
  | true, a, b => .tup (range a b)
  | false, a, b => .lst (range a b)
abbrev Locks := List (Nat × List MV)
/-- the cell that a value names, with what it holds -/
def lockOf (st : Store) : MV → Locks
  | .ref a => (match st[a]? with
    | some (.lst xs) => [(a, xs)]
    | _ => [])
  | _ => []
def held (lk : Locks) (st : Store) : Bool := lk.all fun p => match st[p.1]? with
  | some c => Cell.beq c (.lst p.2)
  | none => false
def asgs : List Nat → List MV → Env → Env
  | i :: is, x :: xs, env => asgs is xs (env.set i (some x))
  | _, _, env => env
def asgT (tg : Tg) (x : MV) (env : Env) (st : Store) : Out Env := match tg with
  | .nm i => let r := alloc x st; .val (env.set i (some r.1)) r.2
  | .nms is => (match x with
    | .tup xs => chk (decide (xs.length = is.length)) (let r := allocs xs st; .val (asgs is r.1 env) r.2)
    | _ => .bad)
def cloop (lk : Locks) (f : MV → Store → Out (Option MV)) : List MV → Store → Out (List MV)
  | [], st => chk (held lk st) (.val [] st)
  | x :: xs, st => chk (held lk st) ((f x st).bind fun r st => (cloop lk f xs st).bind fun ys st => .val (match r with
    | some y => y :: ys
    | none => ys) st)
/-- the value at a key -/
def pickO : List Str → List MV → Str → Option MV
  | k :: ks, v :: vs, z => if k = z then some v else pickO ks vs z
  | _, _, _ => none
def boolOf (x : MV) (st : Store) : Out Bool := match x with
  | .bl b => .val b st
  | _ => .bad
mutual
def ev (Φ : Phi) : E → Env → Store → Out MV
  | .var i, env, st => (match env[i]? with
    | some (some m) => .val m st
    | _ => .bad)
  | .cst m, _, st => .val m st
  | .bin op a b, env, st => (ev Φ a env st).bind fun x st => (ev Φ b env st).bind fun y st => binM op x y st
  | .neg a, env, st => (ev Φ a env st).bind fun x st => match x with
    | .int i => .val (.int (-i)) st
    | _ => .bad
  | .not a, env, st => (ev Φ a env st).bind fun x st => (boolOf x st).bind fun b st => .val (.bl (!b)) st
  | .and a b, env, st => (ev Φ a env st).bind fun x st => (boolOf x st).bind fun k st => match k with
    | true => ev Φ b env st
    | false => .val (.bl false) st
  | .or a b, env, st => (ev Φ a env st).bind fun x st => (boolOf x st).bind fun k st => match k with
    | true => .val (.bl true) st
    | false => ev Φ b env st
  | .cmp op a b, env, st => (ev Φ a env st).bind fun x st => (ev Φ b env st).bind fun y st => cmpM op x y st
  | .chn op op' a b c, env, st => (ev Φ a env st).bind fun x st => (ev Φ b env st).bind fun y st => chk (noLst x && noLst y) ((cmpM op x y st).bind fun r st => (boolOf r st).bind fun k st => match k with
    | true => (ev Φ c env st).bind fun z st => cmpM op' y z st
    | false => .val (.bl false) st)
  | .ite c a b, env, st => (ev Φ c env st).bind fun x st => (boolOf x st).bind fun k st => match k with
    | true => ev Φ a env st
    | false => ev Φ b env st
  | .call f es, env, st => (evs Φ es env st).bind fun vs st => Φ f vs st
  | .blt b es, env, st => (evs Φ es env st).bind fun vs st => bltM b vs st
  | .mth m o es, env, st => (ev Φ o env st).bind fun x st => chk (lstOf st x).isSome ((evs Φ es env st).bind fun vs st => mthM m x vs st)
  | .tup es, env, st => (evs Φ es env st).bind fun vs st => .val (.tup vs) st
  | .lst es, env, st => (evs Φ es env st).bind fun vs st => .val (.lst vs) st
  | .dct a, env, st => (ev Φ a env st).bind fun x st => match keyOf x with
    | some k => .val (.ref st.length) (st ++ [.dct [k]])
    | none => .bad
  | .comp elt tg it c, env, st => (evi Φ it env st).bind fun p st => chk (decide (p.2.length ≤ big)) ((cloop p.1 (fun x st => (asgT tg x env st).bind fun env' st => (ev Φ c env' st).bind fun t st => (boolOf t st).bind fun k st => match k with
      | true => (ev Φ elt env' st).bind fun y st => .val (some y) st
      | false => .val none st) p.2 st).bind fun ys st => .val (.lst ys) st)
  | .sub a i, env, st => (ev Φ a env st).bind fun x st => (ev Φ i env st).bind fun y st => subM x y st
  | .sli k a b, env, st => (ev Φ a env st).bind fun x st => (ev Φ b env st).bind fun y st => sliM k x y st
  | .rgl t a b, env, st => (ev Φ a env st).bind fun x st => (ev Φ b env st).bind fun y st => match x, y with
    | .int i, .int j => chk (decide (0 ≤ i) && (decide (i ≤ 1000000) && (decide (0 ≤ j) && decide (j ≤ 1000000)))) (.val (rangeM t i j) st)
    | _, _ => .bad
  | .nerep a e k, env, st => (ev Φ a env st).bind fun x st => (ev Φ e env st).bind fun y st => chk (decide (0 ≤ k) && decide (k ≤ 1000)) (match toD st 9 x, toD st 8 y with
    | some d, some f => .val (.bl (!PyData.eqv d (.list (List.replicate k.toNat f)))) st
    | _, _ => .bad)
  | .attr c o f, env, st => (ev Φ o env st).bind fun x st => getaM c x f st
  | .mk c k es, env, st => (evs Φ es env st).bind fun vs st => (Φ k (.ref st.length :: vs) (st ++ [.obj c []])).bind fun u st2 => chk (isNon u) (.val (.ref st.length) st2)
  | .mcl c m k o es, env, st => (ev Φ o env st).bind fun x st => chk (isObj c m st x) ((evs Φ es env st).bind fun vs st => chk (isObj c m st x) (Φ k (x :: vs) st))
  | .mcs c m k o es, env, st => (ev Φ o env st).bind fun x st => chk (isObj c m st x) ((evs Φ es env st).bind fun vs st => chk (isObj c m st x && decide (vs.length ≤ 1000)) (Φ k [x, starV vs] st))
  | .lenO c k o, env, st => (ev Φ o env st).bind fun x st => chk (isObj c "__len__" st x) ((Φ k [x] st).bind fun u st => match u with
    | .int i => chk (decide (0 ≤ i) && decide (i < 1000000)) (.val u st)
    | _ => .bad)
  | .xte, _, st => .val (.xts []) st
  | .cnt o e, env, st => (ev Φ o env st).bind fun x st => (ev Φ e env st).bind fun y st => cntM x y st
  | .pick ks es i, env, st => (evs Φ es env st).bind fun vs st => chk (noLsts vs) ((ev Φ i env st).bind fun x st => match x with
    | .str z => ofO (pickO ks vs z) st
    | _ => .bad)
def evs (Φ : Phi) : Es → Env → Store → Out (List MV)
  | .nil, _, st => .val [] st
  | .cons e es, env, st => (ev Φ e env st).bind fun x st => (evs Φ es env st).bind fun xs st => .val (x :: xs) st
def evi (Φ : Phi) : It → Env → Store → Out (Locks × List MV)
  | .ex e, env, st => (ev Φ e env st).bind fun x st => match seqOf st x with
    | some xs => .val (lockOf st x, (allocs xs st).1) (allocs xs st).2
    | none => .bad
  | .rng a b, env, st => (ev Φ a env st).bind fun x st => (ev Φ b env st).bind fun y st => match x, y with
    | .int i, .int j => chk (decide (-(2 ^ 62) ≤ i) && (decide (i < 2 ^ 62) && (decide (-(2 ^ 62) ≤ j) && decide (j < 2 ^ 62)))) (.val ([], range i j) st)
    | _, _ => .bad
  | .zip a b, env, st => (ev Φ a env st).bind fun x st => (ev Φ b env st).bind fun y st => chk (isTup x == isTup y) (match seqOf st x, seqOf st y with
    | some xs, some ys => chk (noLsts xs && noLsts ys) (.val (lockOf st x ++ lockOf st y, pairUp xs ys) st)
    | _, _ => .bad)
  | .enum a, env, st => (ev Φ a env st).bind fun x st => match seqOf st x with
    | some xs => chk (noLsts xs) (.val (lockOf st x, enumFrom 0 xs) st)
    | none => .bad
end
inductive SOut where
  | next (env : Env) (st : Store) | ret (v : MV) (st : Store) | exc (e : Exc) (st : Store) | bad
def Out.bindS {α : Type} (o : Out α) (f : α → Store → SOut) : SOut := match o with
  | .val a st => f a st
  | .exc e st => .exc e st
  | .bad => .bad
@[simp] theorem Out.bindS_val {α : Type} {a : α} {st : Store} {f : α → Store → SOut} : (Out.val a st).bindS f = f a st := rfl
@[simp] theorem Out.bindS_exc {α : Type} {e : Exc} {st : Store} {f : α → Store → SOut} : (Out.exc e st : Out α).bindS f = .exc e st := rfl
@[simp] theorem Out.bindS_bad {α : Type} {f : α → Store → SOut} : (Out.bad : Out α).bindS f = .bad := rfl
def SOut.seq (o : SOut) (f : Env → Store → SOut) : SOut := match o with
  | .next env st => f env st
  | .ret v st => .ret v st
  | .exc e st => .exc e st
  | .bad => .bad
@[simp] theorem SOut.seq_next {env : Env} {st : Store} {f : Env → Store → SOut} : (SOut.next env st).seq f = f env st := rfl
@[simp] theorem SOut.seq_ret {v : MV} {st : Store} {f : Env → Store → SOut} : (SOut.ret v st).seq f = .ret v st := rfl
@[simp] theorem SOut.seq_exc {e : Exc} {st : Store} {f : Env → Store → SOut} : (SOut.exc e st).seq f = .exc e st := rfl
@[simp] theorem SOut.seq_bad {f : Env → Store → SOut} : SOut.bad.seq f = .bad := rfl
def floop (lk : Locks) (tg : Tg) (b : Env → Store → SOut) : List MV → Env → Store → SOut
  | [], env, st => (chk (held lk st) (.val () st)).bindS fun _ st => .next env st
  | x :: xs, env, st => (chk (held lk st) (asgT tg x env st)).bindS fun env st => (b env st).seq fun env st => floop lk tg b xs env st
def wloop (c : Env → Store → Out Bool) (b : Env → Store → SOut) : Nat → Env → Store → SOut
  | 0, _, _ => .bad
  | n + 1, env, st => (c env st).bindS fun k st => match k with
    | true => (b env st).seq fun env st => wloop c b n env st
    | false => .next env st
def fuel : Nat := 1000000
mutual
def ex (Φ : Phi) : S → Env → Store → SOut
  | .asg tg e, env, st => (ev Φ e env st).bindS fun x st => (asgT tg x env st).bindS fun env st => .next env st
  | .set o i e, env, st => (ev Φ e env st).bindS fun x st => (ev Φ o env st).bindS fun p st => (ev Φ i env st).bindS fun y st => (setM p y x st).bindS fun _ st => .next env st
  | .seta c o f e, env, st => (ev Φ e env st).bindS fun x st => (ev Φ o env st).bindS fun p st => (setaM c p f x st).bindS fun _ st => .next env st
  | .aug i e, env, st => (ev Φ e env st).bindS fun y st => match env[i]?, y with
    | some (some (.int a)), .int b => .next (env.set i (some (.int (a + b)))) st
    | _, _ => .bad
  | .exp e, env, st => (ev Φ e env st).bindS fun _ st => .next env st
  | .ret e, env, st => (ev Φ e env st).bindS fun x st => .ret x st
  | .iff c a b, env, st => (ev Φ c env st).bindS fun x st => (boolOf x st).bindS fun k st => match k with
    | true => exs Φ a env st
    | false => exs Φ b env st
  | .for tg it b, env, st => (evi Φ it env st).bindS fun p st => floop p.1 tg (exs Φ b) p.2 env st
  | .whl c b, env, st => wloop (fun env st => (ev Φ c env st).bind fun x st => boolOf x st) (exs Φ b) fuel env st
  | .raise k, _, st => .exc (.cls k none) st
  | .pass, env, st => .next env st
def exs (Φ : Phi) : Ss → Env → Store → SOut
  | .nil, env, st => .next env st
  | .cons s r, env, st => (ex Φ s env st).seq fun env st => exs Φ r env st
end
/-! ### calls: what a def leaves of the store -/
def keepOk (n : Nat) (st st2 : Store) : Bool := decide (n ≤ st2.length) && (List.range n).all fun i => match st2[i]?, st[i]? with
  | some c, some d => Cell.beq c d || (match c with
    | .lst xs => belows n xs
    | .dct _ => true
    | .obj _ fs => belows n (fs.map (·.2)))
  | _, _ => false
def gcv (st st2 : Store) (v : MV) : Out MV := match keepOk st.length st st2 with
  | false => .val v st2
  | true => match v with
    | .ref a => (match Nat.blt a st.length with
      | true => .val v (st2.take st.length)
      | false => (match st2[a]? with
        | some (.lst xs) => (match belows st.length xs with
          | true => .val (.lst xs) (st2.take st.length)
          | false => .val v st2)
        | _ => .val v st2))
    | .lst xs => (match belows st.length xs with
      | true => .val v (st2.take st.length)
      | false => .val v st2)
    | v => (match below st.length v with
      | true => .val v (st2.take st.length)
      | false => .val v st2)
def gc (st : Store) : SOut → Out MV
  | .next _ st2 => gcv st st2 .non
  | .ret v st2 => gcv st st2 v
  | .exc e st2 => .exc e st2
  | .bad => .bad
def call (L : Nat → Option FDef) : Nat → Phi
  | 0 => fun _ _ _ => .bad
  | d + 1 => fun f vs st => match L f with
    | none => .bad
    | some fd => chk (decide (vs.length = fd.np)) (let r := allocs vs st; gc st (exs (call L d) fd.body (r.1.map some ++ List.replicate (fd.ns - fd.np) none) r.2))
end QR

set_option Elab.async false
set_option linter.all false
set_option maxRecDepth 100000
set_option maxHeartbeats 1000000
/-! QDct: dicts whose keys are tuples of ints that stand anywhere (tracked or written), each of the value True. -/
namespace QR
open PySem PySem.Spec PyProof.Rows L2

abbrev DE := List Int × Addr × Value
abbrev knI (P : Program) (w : World) : HeapKind P w (List Int) := tupleKind (PySem.intKind P w)
def DctP (a : Addr) (xs : List DE) (h : Heap) : Prop := (a == sysModules) = false ∧ xs.length ≤ sizeLine ∧ (xs.map (·.1)).Nodup ∧ ∃ o es ep, h.get? a = some o ∧ o.ExactDict ∧ o.data = .dict es ep ∧ ∃ (P : Program) (w : World), es.toList = xs.map (entryOfKey (knI P w))
def DctO (a : Addr) (xs : List DE) : HO := .ext (DctP a xs)
def KeysAt (K : PySem.W.Frag) (H : Hp) (xs : List DE) : Prop := ∀ x ∈ xs, SqT K H x.2.1 (x.1.map V.int) ∧ x.2.2 = .bool true
theorem DctP.stay {a : Addr} {xs : List DE} {h1 h2 : Heap} (p : DctP a xs h1) (st : ∀ o, h1.get? a = some o → h2.get? a = some o) : DctP a xs h2 := by
  obtain ⟨a1, a2, a3, o, es, ep, e1, e2⟩ := p
  exact ⟨a1, a2, a3, o, es, ep, st o e1, e2⟩
theorem DctP.ok {P : Program} {w : World} {H : Hp} {h : Heap} {a : Addr} {xs : List DE} (p : DctP a xs h) : ObjOk P w H h a (DctO a xs) :=
  ⟨p, by obtain ⟨_, _, _, o, _, _, e, _⟩ := p; exact ⟨o, e⟩, fun _ _ q st => q.stay st⟩
theorem entry_any {P P' : Program} {w w' : World} (x : DE) : entryOfKey (knI P w) x = entryOfKey (knI P' w') x := rfl
theorem DctP.of {P : Program} {w : World} {h : Heap} {a : Addr} {xs : List DE} (hd : (a == sysModules) = false) (hz : xs.length ≤ sizeLine) (d : h.DictOfH (knI P w) a xs) : DctP a xs h := by
  obtain ⟨o, es, ep, h1, h2, h3, h4, _, h6⟩ := d
  exact ⟨hd, hz, h6, o, es, ep, h1, h2, h3, P, w, h4⟩
theorem ints_are {P : Program} {w : World} : ∀ {ks : List Int} {us : List Value}, Vals (ks.map V.int) us → ItemsAre (PySem.intKind P w) ks us
  | [], _, r => by
    rw [List.map_nil] at r
    cases r
    exact .nil
  | k :: ks, _, r => by
    rw [List.map_cons] at r
    cases r with
    | cons h t =>
      obtain ⟨tk, rfl⟩ := h
      exact .cons (by show (k == k) = true; simp) (ints_are t)
section
variable {X : Cx} {pins : List (Addr × Obj)} {σ : L2.St} {H : Hp} {s : Shared} {a b : Addr} {xs : List DE} {k : List Int} {A : Around} {E : Value → Shared → Prop}
theorem key_sq (I : Inv X pins σ H s) (h : SqT X.K H b (k.map V.int)) : (knI X.prog X.w).is s.heap k b := by
  obtain ⟨its, r, ⟨o, h1, h2, n, h3⟩, _⟩ := I.tuple h
  exact ⟨o, its.toArray, n, h1, h2, h3, by simpa using ints_are r⟩
theorem dct_at (I : Inv X pins σ H s) (e : H a = some (DctO a xs)) (hk : KeysAt X.K H xs) : s.heap.DictOfH (knI X.prog X.w) a xs ∧ (a == sysModules) = false ∧ xs.length ≤ sizeLine := by
  obtain ⟨⟨a1, a2, a3, o, es, ep, e1, e2, e3, P, w, e4⟩, _, _⟩ := I.hok a _ e
  exact ⟨⟨o, es, ep, e1, e2, e3, e4, fun x hx => key_sq I (hk x hx).1, a3⟩, a1, a2⟩
theorem atKey_mem {xs : List DE} : (atKey xs k).isSome = decide (k ∈ xs.map (·.1)) := by
  induction xs with
  | nil => rfl
  | cons x xs ih =>
    unfold atKey at ih ⊢
    rw [List.find?_cons]
    by_cases h : x.1 = k
    · rw [decide_eq_true h]
      simp [h]
    · rw [decide_eq_false h]
      simp only []
      rw [ih]
      have : (k ∈ (x :: xs).map (·.1)) ↔ k ∈ xs.map (·.1) := by
        rw [List.map_cons, List.mem_cons]
        exact ⟨fun q => q.resolve_left fun z => h z.symm, .inr⟩
      exact decide_eq_decide.mpr this.symm
def rDct (K : PySem.W.Frag) (neg : Bool) : R2 := fun x y H Q => ∃ a b xs k, y = .ref a ∧ x = .ref b ∧ H a = some (DctO a xs) ∧ KeysAt K H xs ∧ SqT K H b (k.map V.int) ∧ Q (.bl (if neg then !decide (k ∈ xs.map (·.1)) else decide (k ∈ xs.map (·.1)))) H
theorem op_dctIn (hu : X.A.units + 1 < cLine) : OpR X (compareOp .In) (rDct X.K false) := by
  intro pins s σ H x y v u Q I rx ry h
  obtain ⟨a, b, xs, k, rfl, rfl, e, hk, hb, q⟩ := h
  cases rx
  cases ry
  obtain ⟨d, h1, h2⟩ := dct_at I e hk
  refine wpAny_in_heap (tupleKind_room_in1 hu) (key_sq I hb) h1 d ?_
  rw [atKey_mem]
  exact ⟨.bl _, H, I.tok _, rfl, q⟩
theorem op_dctNotIn (hu : X.A.units + 1 < cLine) : OpR X (compareOp .NotIn) (rDct X.K true) := by
  intro pins s σ H x y v u Q I rx ry h
  obtain ⟨a, b, xs, k, rfl, rfl, e, hk, hb, q⟩ := h
  cases rx
  cases ry
  obtain ⟨d, h1, h2⟩ := dct_at I e hk
  refine wpAny_notIn_heap (tupleKind_room_in1 hu) (key_sq I hb) h1 d ?_
  rw [atKey_mem]
  exact ⟨.bl _, H, I.tok _, rfl, q⟩
def putE (xs : List DE) (k : List Int) (b : Addr) : List DE := storedH xs k b (.bool true)
theorem putE_keys {xs : List DE} : (putE xs k b).map (·.1) = if k ∈ xs.map (·.1) then xs.map (·.1) else xs.map (·.1) ++ [k] := by
  unfold putE storedH
  rw [atKey_mem]
  by_cases h : k ∈ xs.map (·.1)
  · rw [if_pos (by simpa using h), if_pos h, List.map_map]
    refine List.map_congr_left fun x _ => ?_
    show (putAt k _ x).1 = x.1
    unfold putAt
    split <;> rfl
  · rw [if_neg (by simpa using h), if_neg h, List.map_append]
    rfl
theorem putE_at {K : PySem.W.Frag} {xs : List DE} (hk : KeysAt K H xs) (hb : SqT K H b (k.map V.int)) : KeysAt K H (putE xs k b) := by
  intro x hx
  unfold putE storedH at hx
  split at hx
  · obtain ⟨y, hy, rfl⟩ := List.mem_map.mp hx
    unfold putAt
    split
    · exact ⟨(hk y hy).1, rfl⟩
    · exact hk y hy
  · rcases List.mem_append.mp hx with z | z
    · exact hk x z
    · have e : x = (k, b, .bool true) := by simpa using z
      rw [e]
      exact ⟨hb, rfl⟩
def rSetD (K : PySem.W.Frag) : V → V → V → Hp → (Hp → Prop) → Prop := fun o i v H Q => ∃ a b xs k, o = .ref a ∧ i = .ref b ∧ v = .bl true ∧ H a = some (DctO a xs) ∧ KeysAt K H xs ∧ SqT K H b (k.map V.int) ∧ xs.length < sizeLine ∧ Q (upd H a (DctO a (putE xs k b)))
theorem set_dct (hu : X.A.units + 1 < cLine) : PSet X (rSetD X.K) := by
  intro pins s σ H o i v ov iv u Q I ro ri rv h
  obtain ⟨a, b, xs, k, rfl, rfl, rfl, e, hk, hb, hz, q⟩ := h
  cases ro
  cases ri
  cases rv
  obtain ⟨d, h1, h2⟩ := dct_at I e hk
  refine wpAny_setItem_heap (hsz := h2) (tupleKind_room_in1 hu) (key_sq I hb) d fun h' dd' hs => ⟨_, ?_, q⟩
  have hl : (putE xs k b).length ≤ sizeLine := by
    have := storedH_length xs k b (.bool true)
    show (storedH xs k b (.bool true)).length ≤ sizeLine
    omega
  have he : ∃ q, h'.get? a = some q := let ⟨q, _, _, hq, _⟩ := dd'; ⟨q, hq⟩
  exact d_write I (by rw [e]; exact True.intro) hs he (DctP.of h1 hl dd').ok
/-! ### {k: True} -/
theorem wpAny_Dict_one {prog : Program} {w : World} {s : Shared} {env : PySem.Env} {K : Type} [DecidableEq K] {knd : HeapKind prog w K} {keys : List (Option Expr)} {values : List Expr} {pos : Pos} {Q : Value → Shared → Prop} (hu : knd.room A)
    (hall : keys.all (·.isSome) = true) (hl : keys.length = values.length) (h0 : keys ≠ []) (hlen : keys.length ≤ 15)
    (h : wpAny (model prog w) A (evalPairs (pairTrees keys values env pos)) (fun vs s₁ => ∃ ps, CarriesH knd s₁.heap vs ps ∧ s₁.heap.DictOfH knd s.heap.objs.size [] ∧
      ∀ h' tk, h'.DictOfH knd s.heap.objs.size (storedAllH [] ps) → Heap.SameBut s.heap.objs.size s₁.heap h' → Q (.ref s.heap.objs.size) { s₁ with heap := h', toks := tk }) E
      { s with heap := s.heap.push { cls := .type "dict", data := .dict #[] } }) :
    wpAny (model prog w) A (eval (.Dict keys values pos) env) Q E s := by
  have hn := pairTrees_length keys values env pos hall hl
  have hp0 : pairTrees keys values env pos ≠ [] := by
    intro he
    rw [he] at hn
    exact h0 (List.length_eq_zero_iff.mp hn.symm)
  rw [arm_eval_Dict, zip_pairTrees keys values env pos hall hl, dictDisplay_pairs _ hp0 (by rw [hn]; omega)]
  exact wpAny_bind (wpAny_standAt (wpAny_bind (wpAny_subDictH (knd := knd) (Q := fun d s' => wpAny (model prog w) A (pure (Value.ref d)) Q E s') hu (by rw [hn]; exact hlen)
    (wpAny_mono h (fun vs s₁ ⟨ps, hc, hm, hq⟩ => ⟨ps, hc, hm, fun h' tk a b => wpAny_pure (hq h' tk a b)⟩) fun _ _ e => e))))
def tDct1 (K : PySem.W.Frag) (te tv : TE) : TE := fun σ H Q => ∀ p, H p = none → tPairs [(te, tv)] σ (upd H p (DctO p [])) fun ps H2 => ∃ y, ps = [y] ∧ y.2 = .bl true ∧ H2 p = some (DctO p []) ∧ ∃ b k, y.1 = .ref b ∧ SqT K H2 b (k.map V.int) ∧ Q (.ref p) (upd H2 p (DctO p [(k, b, .bool true)]))
theorem pe_dct1 {e v : Expr} {pos : Pos} {te tv : TE} (hu : X.A.units + 1 < cLine) (he : PE X e te) (hv : PE X v tv) : PE X (.Dict [some e] [v] pos) (tDct1 X.K te tv) := by
  refine ⟨fun pins s σ H Q I q => ?_⟩
  have hn := I.hok.fresh (Nat.le_refl s.heap.objs.size)
  have hsm : (s.heap.objs.size == sysModules) = false := beq_eq_false_iff_ne.mpr (Ne.symm (Nat.ne_of_lt I.big))
  have n0 : DctP s.heap.objs.size [] (s.heap.push { cls := .type "dict", data := .dict #[] }) := DctP.of (P := X.prog) (w := X.w) hsm (Nat.zero_le _) (Heap.DictOfH.new s.heap)
  have I1 := I.laid (a := s.heap.objs.size) (o := DctO s.heap.objs.size []) (h' := s.heap.push { cls := .type "dict", data := .dict #[] }) (t' := s.toks) (fun _ _ q => Heap.get?_push_of_some _ q) (Nat.le_refl _) n0.ok
  have q0 := q _ hn
  have hroom : (knI X.prog X.w).room X.A := Nat.lt_of_succ_lt hu
  have hq1 := (pps_cons (pos := pos) he hv pps_nil).run pins _ σ _ _ I1 q0
  refine wpAny_Dict_one (knd := knI X.prog X.w) hroom rfl rfl (by simp) (by simp) (thn hq1 fun ws s2 ⟨ps, H2, I2, rel, y, e1, e2, e3, b, k, e4, hb, q2⟩ => ?_)
  subst e1
  generalize s.heap.objs.size = p0 at *
  cases rel with
  | @cons _ u _ ws h t =>
    cases t
    obtain ⟨u, r⟩ := u
    obtain ⟨ru, rr⟩ := h
    rw [e4] at ru
    rw [e2] at rr
    have ru : u = Value.ref b := ru
    have rr : r = Value.bool true := rr
    subst ru rr
    obtain ⟨d, h1, h2⟩ := dct_at I2 e3 (fun _ z => nomatch z)
    have hz : ([(k, b, .bool true)] : List DE).length ≤ sizeLine := by rw [sizeLine_eq, List.length_singleton]; omega
    have hst : storedAllH ([] : List DE) [(k, b, .bool true)] = [(k, b, .bool true)] := rfl
    refine ⟨[(k, b, .bool true)], ⟨rfl, rfl, key_sq I2 hb, True.intro⟩, d, fun h' tk d2 sb => ?_⟩
    rw [hst] at d2
    have he : ∃ q, h'.get? p0 = some q := let ⟨q, _, _, hq, _⟩ := d2; ⟨q, hq⟩
    have W := d_write (t' := tk) I2 (by rw [e3]; exact True.intro) sb he (DctP.of h1 hz d2).ok
    exact ⟨.ref p0, _, W, rfl, q2⟩
end
end QR

set_option Elab.async false
set_option linter.all false
set_option maxRecDepth 100000
set_option maxHeartbeats 1000000
/-! QRel: how the small language's values and cells lie in the heap. -/
namespace QR
open PySem PySem.Spec PyProof.Rows L2

/-- a list of the written part, or one that is locked -/
def Rol (K : PySem.W.Frag) (H : Hp) (a : Addr) (vs : List V) : Prop :=
  (∃ o, H a = some (.frz o (.lst vs))) ∨
    ∃ (o : Obj) (its : Array Value) (n : Nat), K.lookup a = some o ∧ o.cls = .type "list" ∧ o.dict = none ∧ o.data = .seq its n ∧ its.size ≤ sizeLine ∧ Vals vs its.toList
theorem Rol.seq {K : PySem.W.Frag} {H : Hp} {a : Addr} {vs : List V} (h : Rol K H a vs) : SqL K H a vs := by
  rcases h with ⟨o, h⟩ | h
  · exact .inl (.inr ⟨o, h⟩)
  · exact .inr h

/-- a tuple, and nothing else: its one object is known -/
def SqX (H : Hp) (a : Addr) (vs : List V) : Prop := ∃ o, H a = some (.frz o (.tup vs)) ∧ o.cls = .type "tuple" ∧ o.dict = none
theorem SqX.tup {K : PySem.W.Frag} {H : Hp} {a : Addr} {vs : List V} (h : SqX H a vs) : SqT K H a vs := by
  obtain ⟨o, h, _⟩ := h
  exact .inl (.inr ⟨o, h⟩)

mutual
inductive Rep (K : PySem.W.Frag) (ρ : List Addr) (H : Hp) : V → MV → List Addr → Prop where
  | non : Rep K ρ H .non .non []
  | bl (b : Bool) : Rep K ρ H (.bl b) (.bl b) []
  | int (i : Int) : Rep K ρ H (.int i) (.int i) []
  | str (x : Str) (h : PyData.strOk x = true) : Rep K ρ H (.str x) (.str x) []
  | ref {i : Nat} {a : Addr} (h : ρ[i]? = some a) : Rep K ρ H (.ref a) (.ref i) []
  | tup {a : Addr} {vs : List V} {ms : List MV} {fp : List Addr} (h : SqT K H a vs) (r : Reps K ρ H vs ms fp) : Rep K ρ H (.ref a) (.tup ms) fp
  | lst {a : Addr} {vs : List V} {ms : List MV} {fp : List Addr} (h : H a = some (.lst vs)) (r : Reps K ρ H vs ms fp) : Rep K ρ H (.ref a) (.lst ms) (a :: fp)
  | rol {a : Addr} {ns : List Int} (h : Rol K H a (ns.map V.int)) : Rep K ρ H (.ref a) (.rol (ns.map MV.int)) []
  | xts {a : Addr} {zs : List Str} (h : SqX H a (zs.map V.str)) (hz : zs.all PyData.strOk = true) : Rep K ρ H (.ref a) (.xts zs) []
inductive Reps (K : PySem.W.Frag) (ρ : List Addr) (H : Hp) : List V → List MV → List Addr → Prop where
  | nil : Reps K ρ H [] [] []
  | cons {v : V} {m : MV} {f : List Addr} {vs : List V} {ms : List MV} {fs : List Addr} (h : Rep K ρ H v m f) (r : Reps K ρ H vs ms fs) : Reps K ρ H (v :: vs) (m :: ms) (f ++ fs)
end
inductive CellR (K : PySem.W.Frag) (ρ : List Addr) (H : Hp) : Addr → Cell → Prop where
  | lst {a : Addr} {vs : List V} {ms : List MV} (h : H a = some (.lst vs)) (r : Reps K ρ H vs ms []) : CellR K ρ H a (.lst ms)
  | dct {a : Addr} {xs : List DE} (h : H a = some (DctO a xs)) (r : KeysAt K H xs) : CellR K ρ H a (.dct (xs.map (·.1)))
  | obj {a dx : Addr} {c : Str} {gs : List (Str × V)} {fs : List (Str × MV)} (h : H a = some (.ins (He.ga K c) dx gs)) (e : gs.map (·.1) = fs.map (·.1)) (r : Reps K ρ H (gs.map (·.2)) (fs.map (·.2)) []) : CellR K ρ H a (.obj c fs)
structure Rl (K : PySem.W.Frag) (ρ : List Addr) (st : Store) (H : Hp) : Prop where
  len : ρ.length = st.length
  nd : ρ.Nodup
  cell : ∀ (i : Nat) (a : Addr) (c : Cell), ρ[i]? = some a → st[i]? = some c → CellR K ρ H a c
def EnvR (K : PySem.W.Frag) (ρ : List Addr) (H : Hp) (σ : L2.St) (env : Env) : Prop :=
  env.length = σ.length ∧ ∀ (i : Nat) (m : MV), env[i]? = some (some m) → ∃ v, σ[i]? = some (some v) ∧ Rep K ρ H v m []
/-- what may have happened from (ρ, H) on: new cells (new objects, or those at al), all else that is no cell kept -/
structure Aft (K : PySem.W.Frag) (ρ al : List Addr) (H : Hp) (st' : Store) (ρ' : List Addr) (H' : Hp) : Prop where
  pre : ∃ new, ρ' = ρ ++ new ∧ ∀ a ∈ new, H a = none ∨ a ∈ al
  fr : ∀ b o, H b = some o → b ∉ ρ → b ∉ al → H' b = some o
  rl : Rl K ρ' st' H'
/-- a value that has come, its new lists at fp -/
structure Res (K : PySem.W.Frag) (al : List Addr) (H : Hp) (ρ' : List Addr) (H' : Hp) (v : V) (m : MV) (fp : List Addr) : Prop where
  rep : Rep K ρ' H' v m fp
  nd : fp.Nodup
  new : ∀ a ∈ fp, (H a = none ∨ a ∈ al) ∧ a ∉ ρ'
structure Ress (K : PySem.W.Frag) (al : List Addr) (H : Hp) (ρ' : List Addr) (H' : Hp) (vs : List V) (ms : List MV) (fp : List Addr) : Prop where
  rep : Reps K ρ' H' vs ms fp
  nd : fp.Nodup
  new : ∀ a ∈ fp, (H a = none ∨ a ∈ al) ∧ a ∉ ρ'

section
variable {K : PySem.W.Frag} {ρ ρ' ρ1 ρ2 al bl fp new : List Addr} {H H' H1 H2 : Hp} {v : V} {vs : List V} {m : MV} {ms : List MV} {st st' st1 st2 : Store}

theorem get_app {α : Type} {l : List α} {i : Nat} {a : α} (h : l[i]? = some a) (r : List α) : (l ++ r)[i]? = some a := by
  have hi : i < l.length := (List.getElem?_eq_some_iff.mp h).1
  rw [List.getElem?_append_left hi]
  exact h

/-- what stands at a cell -/
theorem Rl.at_ (R : Rl K ρ st H) {i : Nat} {a : Addr} (h : ρ[i]? = some a) : ∃ c, st[i]? = some c ∧ CellR K ρ H a c := by
  have hi : i < ρ.length := (List.getElem?_eq_some_iff.mp h).1
  have hi2 : i < st.length := by rw [← R.len]; exact hi
  exact ⟨st[i], List.getElem?_eq_getElem hi2, R.cell i a _ h (List.getElem?_eq_getElem hi2)⟩
/-- what a cell may be in the heap -/
def WrO : HO → Prop
  | .lst _ => True
  | .ext _ => True
  | .ins _ _ _ => True
  | _ => False
def Wr (ρ : List Addr) (H : Hp) : Prop := ∀ a ∈ ρ, ∃ o, H a = some o ∧ WrO o
theorem Rl.wr (R : Rl K ρ st H) : Wr ρ H := fun a ha => by
  obtain ⟨i, hi⟩ := List.mem_iff_getElem?.mp ha
  obtain ⟨c, _, q⟩ := R.at_ hi
  cases q with
  | lst h r => exact ⟨_, h, True.intro⟩
  | dct h r => exact ⟨_, h, True.intro⟩
  | obj h e r => exact ⟨_, h, True.intro⟩
theorem Wr.ex (w : Wr ρ H) {a : Addr} (h : a ∈ ρ) : ∃ o, H a = some o := by
  obtain ⟨o, q, _⟩ := w a h
  exact ⟨o, q⟩
theorem Wr.notTup (w : Wr ρ H) {a : Addr} {xs : List V} (h : H a = some (.tup xs)) : a ∉ ρ := fun z => by
  obtain ⟨o, q, t⟩ := w a z
  rw [h] at q
  cases q
  exact t
theorem Wr.notFrz (w : Wr ρ H) {a : Addr} {o : Obj} {u : HO} (h : H a = some (.frz o u)) : a ∉ ρ := fun z => by
  obtain ⟨o, q, t⟩ := w a z
  rw [h] at q
  cases q
  exact t

/-- tuples and locked things stay -/
structure Keeps (H H' : Hp) : Prop where
  tup : ∀ a xs, H a = some (.tup xs) → H' a = some (.tup xs)
  frz : ∀ a o u, H a = some (.frz o u) → H' a = some (.frz o u)
theorem Keeps.refl : Keeps H H := ⟨fun _ _ h => h, fun _ _ _ h => h⟩
theorem Keeps.sqT (k : Keeps H H') {a : Addr} (h : SqT K H a vs) : SqT K H' a vs := by
  rcases h with (h | ⟨o, h⟩) | h
  · exact .inl (.inl (k.tup _ _ h))
  · exact .inl (.inr ⟨o, k.frz _ _ _ h⟩)
  · exact .inr h
theorem Keeps.rol (k : Keeps H H') {a : Addr} (h : Rol K H a vs) : Rol K H' a vs := by
  rcases h with ⟨o, h⟩ | h
  · exact .inl ⟨o, k.frz _ _ _ h⟩
  · exact .inr h

theorem Keeps.sqX (k : Keeps H H') {a : Addr} (h : SqX H a vs) : SqX H' a vs := by
  obtain ⟨o, h, q⟩ := h
  exact ⟨o, k.frz _ _ _ h, q⟩

mutual
theorem Rep.move (hk : Keeps H H') (hp : ∀ (i : Nat) (a : Addr), ρ[i]? = some a → ρ'[i]? = some a) : ∀ {v : V} {m : MV} {fp : List Addr}, Rep K ρ H v m fp → (∀ a ∈ fp, ∀ vs, H a = some (.lst vs) → H' a = some (.lst vs)) → Rep K ρ' H' v m fp
  | _, _, _, .non, _ => .non
  | _, _, _, .bl b, _ => .bl b
  | _, _, _, .int i, _ => .int i
  | _, _, _, .str x h, _ => .str x h
  | _, _, _, .ref h, _ => .ref (hp _ _ h)
  | _, _, _, .tup h r, hf => .tup (hk.sqT h) (Reps.move hk hp r hf)
  | _, _, _, .lst h r, hf => .lst (hf _ List.mem_cons_self _ h) (Reps.move hk hp r fun a ha => hf a (List.mem_cons_of_mem _ ha))
  | _, _, _, .rol h, _ => .rol (hk.rol h)
  | _, _, _, .xts h hz, _ => .xts (hk.sqX h) hz
theorem Reps.move (hk : Keeps H H') (hp : ∀ (i : Nat) (a : Addr), ρ[i]? = some a → ρ'[i]? = some a) : ∀ {vs : List V} {ms : List MV} {fp : List Addr}, Reps K ρ H vs ms fp → (∀ a ∈ fp, ∀ vs, H a = some (.lst vs) → H' a = some (.lst vs)) → Reps K ρ' H' vs ms fp
  | _, _, _, .nil, _ => .nil
  | _, _, _, .cons h r, hf => .cons (Rep.move hk hp h fun a ha => hf a (List.mem_append_left _ ha)) (Reps.move hk hp r fun a ha => hf a (List.mem_append_right _ ha))
end
mutual
theorem Rep.fpSome : ∀ {v : V} {m : MV} {fp : List Addr}, Rep K ρ H v m fp → ∀ a ∈ fp, ∃ vs, H a = some (.lst vs)
  | _, _, _, .non, _, z => nomatch z
  | _, _, _, .bl _, _, z => nomatch z
  | _, _, _, .int _, _, z => nomatch z
  | _, _, _, .str _ _, _, z => nomatch z
  | _, _, _, .ref _, _, z => nomatch z
  | _, _, _, .tup h r, a, z => Reps.fpSome r a z
  | _, _, _, .lst h r, a, z => by
    rcases List.mem_cons.mp z with e | z
    · exact ⟨_, e ▸ h⟩
    · exact Reps.fpSome r a z
  | _, _, _, .rol _, _, z => nomatch z
  | _, _, _, .xts _ _, _, z => nomatch z
theorem Reps.fpSome : ∀ {vs : List V} {ms : List MV} {fp : List Addr}, Reps K ρ H vs ms fp → ∀ a ∈ fp, ∃ vs, H a = some (.lst vs)
  | _, _, _, .nil, _, z => nomatch z
  | _, _, _, .cons h r, a, z => by
    rcases List.mem_append.mp z with z | z
    · exact Rep.fpSome h a z
    · exact Reps.fpSome r a z
end
theorem Reps.length : ∀ {vs : List V} {ms : List MV} {fp : List Addr}, Reps K ρ H vs ms fp → vs.length = ms.length
  | _, _, _, .nil => rfl
  | _, _, _, .cons h r => by
    show _ + 1 = _ + 1
    rw [Reps.length r]
theorem Reps.get : ∀ {vs : List V} {ms : List MV} {fp : List Addr} {i : Nat} {m : MV}, Reps K ρ H vs ms fp → ms[i]? = some m → ∃ v f, vs[i]? = some v ∧ Rep K ρ H v m f ∧ List.Sublist f fp
  | _, _, _, _, _, .nil, h => by simp at h
  | _, _, _, 0, m, .cons (v := v) (f := f) h r, e => by
    simp at e
    subst e
    exact ⟨v, f, rfl, h, List.sublist_append_left _ _⟩
  | _, _, _, i + 1, m, .cons (f := f) h r, e => by
    obtain ⟨v, g, h1, h2, h3⟩ := Reps.get (i := i) r (by simpa using e)
    exact ⟨v, g, by simpa using h1, h2, h3.trans (List.sublist_append_right _ _)⟩
theorem Reps.app : ∀ {vs ws : List V} {ms ns : List MV} {f g : List Addr}, Reps K ρ H vs ms f → Reps K ρ H ws ns g → Reps K ρ H (vs ++ ws) (ms ++ ns) (f ++ g)
  | _, _, _, _, _, _, .nil, r => r
  | _, _, _, _, _, _, .cons h t, r => by
    rw [List.append_assoc]
    exact .cons h (Reps.app t r)
/-- without new lists within: no new list's address -/
theorem Reps.fp_nil : ∀ {vs : List V} {ms : List MV} {fp : List Addr}, Reps K ρ H vs ms fp → fp = [] → ∀ (i : Nat) (v : V) (m : MV), vs[i]? = some v → ms[i]? = some m → Rep K ρ H v m []
  | _, _, _, .nil, _, i, v, m, h, _ => by simp at h
  | _, _, _, .cons (f := f) (fs := fs) h r, e, 0, v, m, h1, h2 => by
    simp at h1 h2
    subst h1 h2
    obtain ⟨e1, _⟩ := List.append_eq_nil_iff.mp e
    exact e1 ▸ h
  | _, _, _, .cons h r, e, i + 1, v, m, h1, h2 => Reps.fp_nil r (List.append_eq_nil_iff.mp e).2 i v m (by simpa using h1) (by simpa using h2)

theorem Aft.keeps (A : Aft K ρ al H st' ρ' H') (w : Wr ρ H) (hal : ∀ a ∈ al, ∃ vs, H a = some (.lst vs)) : Keeps H H' :=
  ⟨fun a xs h => A.fr a _ h (w.notTup h) (fun z => by obtain ⟨_, q⟩ := hal a z; rw [h] at q; cases q),
   fun a o u h => A.fr a _ h (w.notFrz h) (fun z => by obtain ⟨_, q⟩ := hal a z; rw [h] at q; cases q)⟩
theorem Aft.ix (A : Aft K ρ al H st' ρ' H') : ∀ (i : Nat) (a : Addr), ρ[i]? = some a → ρ'[i]? = some a := fun i a h => by
  obtain ⟨n, e, _⟩ := A.pre
  rw [e]
  exact get_app h n
theorem Aft.sub (A : Aft K ρ al H st' ρ' H') {a : Addr} (h : a ∈ ρ) : a ∈ ρ' := by
  obtain ⟨n, e, _⟩ := A.pre
  rw [e]
  exact List.mem_append_left _ h
theorem Aft.trans (A : Aft K ρ al H st1 ρ1 H1) (B : Aft K ρ1 bl H1 st2 ρ2 H2) (hb : ∀ a ∈ bl, H a = none ∨ a ∈ al) : Aft K ρ al H st2 ρ2 H2 := by
  obtain ⟨n1, e1, p1⟩ := A.pre
  obtain ⟨n2, e2, p2⟩ := B.pre
  refine ⟨⟨n1 ++ n2, by rw [e2, e1, List.append_assoc], fun a ha => ?_⟩, fun b o h hr hl => ?_, B.rl⟩
  · rcases List.mem_append.mp ha with ha | ha
    · exact p1 a ha
    · rcases p2 a ha with q | q
      · cases e : H a with
        | none => exact .inl rfl
        | some o =>
          by_cases hal : a ∈ al
          · exact .inr hal
          · by_cases hr : a ∈ ρ
            · obtain ⟨o', q'⟩ := A.rl.wr.ex (A.sub hr)
              rw [q] at q'
              cases q'
            · have := A.fr a o e hr hal
              rw [q] at this
              cases this
      · exact hb a q
  · refine B.fr b o (A.fr b o h hr hl) (fun z => ?_) (fun z => ?_)
    · rw [e1] at z
      rcases List.mem_append.mp z with z | z
      · exact hr z
      · rcases p1 b z with q | q
        · rw [h] at q; cases q
        · exact hl q
    · rcases hb b z with q | q
      · rw [h] at q; cases q
      · exact hl q
theorem Aft.refl (R : Rl K ρ st H) : Aft K ρ al H st ρ H := ⟨⟨[], by simp, fun _ z => nomatch z⟩, fun _ _ h _ _ => h, R⟩

/-- a value kept over what happens behind it -/
theorem Rep.after (A : Aft K ρ bl H st' ρ' H') (w : Wr ρ H) (hal : ∀ a ∈ bl, ∃ vs, H a = some (.lst vs)) (r : Rep K ρ H v m fp) (hd : ∀ a ∈ fp, a ∉ ρ ∧ a ∉ bl) : Rep K ρ' H' v m fp :=
  r.move (A.keeps w hal) A.ix fun a ha vs h => A.fr a _ h (hd a ha).1 (hd a ha).2
theorem Reps.after (A : Aft K ρ bl H st' ρ' H') (w : Wr ρ H) (hal : ∀ a ∈ bl, ∃ vs, H a = some (.lst vs)) (r : Reps K ρ H vs ms fp) (hd : ∀ a ∈ fp, a ∉ ρ ∧ a ∉ bl) : Reps K ρ' H' vs ms fp :=
  r.move (A.keeps w hal) A.ix fun a ha vs h => A.fr a _ h (hd a ha).1 (hd a ha).2
theorem EnvR.after {σ : L2.St} {env : Env} (A : Aft K ρ bl H st' ρ' H') (w : Wr ρ H) (hal : ∀ a ∈ bl, ∃ vs, H a = some (.lst vs)) (h : EnvR K ρ H σ env) : EnvR K ρ' H' σ env :=
  ⟨h.1, fun i m e => by
    obtain ⟨v, e1, r⟩ := h.2 i m e
    exact ⟨v, e1, r.after A w hal fun _ z => nomatch z⟩⟩
theorem noAl : ∀ a ∈ ([] : List Addr), ∃ vs, H a = some (HO.lst vs) := fun _ z => nomatch z
/-- the addresses of a value that is held are no cells behind the next thing that happens -/
theorem Aft.notNew (B : Aft K ρ1 bl H1 st2 ρ2 H2) {a : Addr} {o : HO} (h : H1 a = some o) (hr : a ∉ ρ1) (hb : a ∉ bl) : a ∉ ρ2 := by
  obtain ⟨n2, e2, p2⟩ := B.pre
  rw [e2]
  intro z
  rcases List.mem_append.mp z with z | z
  · exact hr z
  · rcases p2 a z with q | q
    · rw [h] at q; cases q
    · exact hb q
/-- a first value kept, with the second one: both together -/
theorem Res.keep {al bl : List Addr} (R : Res K al H ρ1 H1 v m fp) (A : Aft K ρ al H st1 ρ1 H1) (B : Aft K ρ1 [] H1 st2 ρ2 H2) : Res K al H ρ2 H2 v m fp :=
  ⟨R.rep.after B A.rl.wr noAl (fun a ha => ⟨(R.new a ha).2, fun z => nomatch z⟩), R.nd, fun a ha => ⟨(R.new a ha).1, by
    obtain ⟨vs, q⟩ := R.rep.fpSome a ha
    exact B.notNew q (R.new a ha).2 (fun z => nomatch z)⟩⟩
/-- behind the second evaluation: what is new there is new from the start, and apart from what was held -/
theorem Res.from {w : V} {n : MV} {g : List Addr} (A : Aft K ρ al H st1 ρ1 H1) (S : Res K [] H1 ρ2 H2 w n g) : Res K al H ρ2 H2 w n g :=
  ⟨S.rep, S.nd, fun a ha => ⟨by
    rcases (S.new a ha).1 with q | q
    · cases e : H a with
      | none => exact .inl rfl
      | some o =>
        by_cases hal : a ∈ al
        · exact .inr hal
        · by_cases hr : a ∈ ρ
          · obtain ⟨o', q'⟩ := A.rl.wr.ex (A.sub hr)
            rw [q] at q'; cases q'
          · have := A.fr a o e hr hal
            rw [q] at this; cases this
    · exact (nomatch q), (S.new a ha).2⟩⟩
theorem Res.apart {w : V} {n : MV} {g : List Addr} (R : Rep K ρ1 H1 v m fp) (S : Res K [] H1 ρ2 H2 w n g) : ∀ a ∈ fp, a ∉ g := fun a h1 h2 => by
  obtain ⟨vs, q⟩ := R.fpSome a h1
  rcases (S.new a h2).1 with z | z
  · rw [q] at z; cases z
  · exact nomatch z
theorem Ress.cons {w : List V} {n : List MV} {g : List Addr} (A : Aft K ρ al H st1 ρ1 H1) (B : Aft K ρ1 [] H1 st2 ρ2 H2) (R : Res K al H ρ1 H1 v m fp) (S : Ress K [] H1 ρ2 H2 w n g) : Ress K al H ρ2 H2 (v :: w) (m :: n) (fp ++ g) := by
  have R2 := R.keep (bl := []) A B
  refine ⟨.cons R2.rep S.rep, List.nodup_append.mpr ⟨R.nd, S.nd, fun a h1 b h2 e => ?_⟩, fun a ha => ?_⟩
  · subst e
    obtain ⟨vs, q⟩ := R.rep.fpSome a h1
    rcases (S.new a h2).1 with z | z
    · rw [q] at z; cases z
    · exact nomatch z
  · rcases List.mem_append.mp ha with ha | ha
    · exact R2.new a ha
    · have S1 : Res K [] H1 ρ2 H2 .non .non [] := ⟨.non, List.nodup_nil, fun _ z => nomatch z⟩
      refine ⟨?_, (S.new a ha).2⟩
      rcases (S.new a ha).1 with q | q
      · cases e : H a with
        | none => exact .inl rfl
        | some o =>
          by_cases hal : a ∈ al
          · exact .inr hal
          · by_cases hr : a ∈ ρ
            · obtain ⟨o', q'⟩ := A.rl.wr.ex (A.sub hr)
              rw [q] at q'; cases q'
            · have := A.fr a o e hr hal
              rw [q] at this; cases this
      · exact nomatch q
theorem Res.plain (r : Rep K ρ' H' v m []) : Res K al H ρ' H' v m [] := ⟨r, List.nodup_nil, fun _ z => nomatch z⟩

/-! ### below, alloc -/
mutual
theorem Rep.below_of : ∀ {v : V} {m : MV}, Rep K ρ H v m [] → below ρ.length m = true
  | _, _, .non => by simp [below]
  | _, _, .bl _ => by simp [below]
  | _, _, .int _ => by simp [below]
  | _, _, .str _ _ => by simp [below]
  | _, _, .ref h => by
    have hi := (List.getElem?_eq_some_iff.mp h).1
    simp only [below]
    exact Nat.ble_eq_true_of_le hi
  | _, _, .tup h r => by
    simp only [below]
    exact Reps.belows_of r
  | _, _, .rol h => by simp [below]
  | _, _, .xts _ _ => by simp [below]
theorem Reps.belows_of : ∀ {vs : List V} {ms : List MV}, Reps K ρ H vs ms [] → belows ρ.length ms = true := fun {vs ms} r => Reps.belows_aux r rfl
theorem Reps.belows_aux : ∀ {vs : List V} {ms : List MV} {f : List Addr}, Reps K ρ H vs ms f → f = [] → belows ρ.length ms = true
  | _, _, _, .nil, _ => by simp [belows]
  | _, _, _, .cons (f := f) (fs := fs) h r, e => by
    obtain ⟨e1, e2⟩ := List.append_eq_nil_iff.mp e
    subst e1
    simp only [belows, Bool.and_eq_true]
    exact ⟨Rep.below_of h, Reps.belows_aux r e2⟩
end
/-! cut back to the first cells -/
mutual
theorem Rep.cut {n : Nat} (hn : n ≤ ρ.length) : ∀ {v : V} {m : MV} {f : List Addr}, Rep K ρ H v m f → below n m = true → f = [] ∧ Rep K (ρ.take n) H v m []
  | _, _, _, .non, _ => ⟨rfl, .non⟩
  | _, _, _, .bl b, _ => ⟨rfl, .bl b⟩
  | _, _, _, .int i, _ => ⟨rfl, .int i⟩
  | _, _, _, .str x h, _ => ⟨rfl, .str x h⟩
  | _, _, _, .ref h, b => by
    simp only [below] at b
    have hi := Nat.le_of_ble_eq_true b
    refine ⟨rfl, .ref ?_⟩
    rw [List.getElem?_take_of_lt hi]
    exact h
  | _, _, _, .tup h r, b => by
    simp only [below] at b
    obtain ⟨e, q⟩ := Reps.cut hn r b
    subst e
    exact ⟨rfl, .tup h q⟩
  | _, _, _, .lst h r, b => by simp [below] at b
  | _, _, _, .rol h, _ => ⟨rfl, .rol h⟩
  | _, _, _, .xts h hz, _ => ⟨rfl, .xts h hz⟩
theorem Reps.cut {n : Nat} (hn : n ≤ ρ.length) : ∀ {vs : List V} {ms : List MV} {f : List Addr}, Reps K ρ H vs ms f → belows n ms = true → f = [] ∧ Reps K (ρ.take n) H vs ms []
  | _, _, _, .nil, _ => ⟨rfl, .nil⟩
  | _, _, _, .cons h r, b => by
    simp only [belows, Bool.and_eq_true] at b
    obtain ⟨e1, q1⟩ := Rep.cut hn h b.1
    obtain ⟨e2, q2⟩ := Reps.cut hn r b.2
    subst e1 e2
    exact ⟨rfl, .cons q1 q2⟩
end

theorem CellR.move {c : Cell} {a : Addr} (hk : Keeps H H') (hp : ∀ (i : Nat) (a : Addr), ρ[i]? = some a → ρ'[i]? = some a) (ha : ∀ o, H a = some o → H' a = some o) (h : CellR K ρ H a c) : CellR K ρ' H' a c := by
  cases h with
  | lst h r => exact .lst (ha _ h) (r.move hk hp fun _ z => nomatch z)
  | dct h r => exact .dct (ha _ h) fun x hx => ⟨hk.sqT (r x hx).1, (r x hx).2⟩
  | obj h e r => exact .obj (ha _ h) e (r.move hk hp fun _ z => nomatch z)
/-- a new cell -/
theorem Rl.snocC {a : Addr} {cc : Cell} (R : Rl K ρ st H) (ha : a ∉ ρ) (h : CellR K ρ H a cc) : Rl K (ρ ++ [a]) (st ++ [cc]) H := by
  refine ⟨by rw [List.length_append, List.length_append, R.len] <;> rfl, List.nodup_append.mpr ⟨R.nd, (by simp), fun x hx y hy e => ?_⟩, fun i b c h1 h2 => ?_⟩
  · have e2 : y = a := by simpa using hy
    subst e e2
    exact ha hx
  · have ix : ∀ (i : Nat) (b : Addr), ρ[i]? = some b → (ρ ++ [a])[i]? = some b := fun i b h => get_app h [a]
    by_cases hi : i < ρ.length
    · rw [List.getElem?_append_left hi] at h1
      rw [List.getElem?_append_left (by rw [← R.len]; exact hi)] at h2
      exact (R.cell i b c h1 h2).move Keeps.refl ix fun _ q => q
    · have hi' : ρ.length ≤ i := Nat.le_of_not_lt hi
      rw [List.getElem?_append_right hi'] at h1
      rw [List.getElem?_append_right (by rw [← R.len]; exact hi'), ← R.len] at h2
      cases e : i - ρ.length with
      | zero =>
        rw [e] at h1 h2
        simp at h1 h2
        subst h1 h2
        exact h.move Keeps.refl ix fun _ q => q
      | succ k =>
        rw [e] at h1
        simp at h1
/-- a new list becomes a cell -/
theorem Rl.snoc {a : Addr} (R : Rl K ρ st H) (ha : a ∉ ρ) (h : H a = some (.lst vs)) (r : Reps K ρ H vs ms []) : Rl K (ρ ++ [a]) (st ++ [.lst ms]) H := R.snocC ha (.lst h r)
/-- a new cell, of an object that was not there -/
theorem Aft.snocC {a : Addr} {cc : Cell} (A : Aft K ρ al H st' ρ' H') (h0 : H a = none ∨ a ∈ al) (ha : a ∉ ρ') (h : CellR K ρ' H' a cc) : Aft K ρ al H (st' ++ [cc]) (ρ' ++ [a]) H' := by
  obtain ⟨n, e, p⟩ := A.pre
  refine ⟨⟨n ++ [a], by rw [e, List.append_assoc], fun b hb => ?_⟩, A.fr, A.rl.snocC ha h⟩
  rcases List.mem_append.mp hb with z | z
  · exact p b z
  · have e2 : b = a := by simpa using z
    rw [e2]
    exact h0
mutual
theorem alloc_ok : ∀ {m : MV} {v : V} {fp : List Addr} {ρ : List Addr} {st : Store}, Rl K ρ st H → Rep K ρ H v m fp → fp.Nodup → (∀ a ∈ fp, a ∉ ρ) →
    ∃ new, (∀ a ∈ new, a ∈ fp) ∧ Rl K (ρ ++ new) (alloc m st).2 H ∧ Rep K (ρ ++ new) H v (alloc m st).1 []
  | .non, _, _, ρ, st, R, r, _, _ => by
    cases r
    exact ⟨[], (fun _ z => nomatch z), by simpa [alloc] using R, by simp only [alloc]; exact .non⟩
  | .bl b, _, _, ρ, st, R, r, _, _ => by
    cases r
    exact ⟨[], (fun _ z => nomatch z), by simpa [alloc] using R, by simp only [alloc]; exact .bl b⟩
  | .int b, _, _, ρ, st, R, r, _, _ => by
    cases r
    exact ⟨[], (fun _ z => nomatch z), by simpa [alloc] using R, by simp only [alloc]; exact .int b⟩
  | .str b, _, _, ρ, st, R, r, _, _ => by
    cases r with
    | str x h => exact ⟨[], (fun _ z => nomatch z), by simpa [alloc] using R, by simp only [alloc]; exact .str b h⟩
  | .rol b, _, _, ρ, st, R, r, _, _ => by
    cases r with
    | rol h => exact ⟨[], (fun _ z => nomatch z), by simpa [alloc] using R, by simp only [alloc]; exact .rol h⟩
  | .xts b, _, _, ρ, st, R, r, _, _ => by
    cases r with
    | xts h hz => exact ⟨[], (fun _ z => nomatch z), by simpa [alloc] using R, by simp only [alloc]; exact .xts h hz⟩
  | .ref b, _, _, ρ, st, R, r, _, _ => by
    cases r with
    | ref h => exact ⟨[], (fun _ z => nomatch z), by simpa [alloc] using R, by simp only [alloc]; exact .ref (by simpa using h)⟩
  | .tup xs, _, _, ρ, st, R, r, hn, hd => by
    cases r with
    | tup h r =>
      obtain ⟨new, h1, h2, h3⟩ := allocs_ok R r hn hd
      exact ⟨new, h1, by simpa [alloc] using h2, by simp only [alloc]; exact .tup h h3⟩
  | .lst xs, _, _, ρ, st, R, r, hn, hd => by
    cases r with
    | @lst a vs _ fp h r =>
      obtain ⟨hn1, hn2⟩ := List.nodup_cons.mp hn
      obtain ⟨new, h1, h2, h3⟩ := allocs_ok R r hn2 fun a ha => hd a (List.mem_cons_of_mem _ ha)
      have hna : a ∉ ρ ++ new := fun z => by
        rcases List.mem_append.mp z with z | z
        · exact hd a List.mem_cons_self z
        · exact hn1 (h1 a z)
      refine ⟨new ++ [a], fun b hb => ?_, ?_, ?_⟩
      · rcases List.mem_append.mp hb with hb | hb
        · exact List.mem_cons_of_mem _ (h1 b hb)
        · have e : b = a := by simpa using hb
          subst e
          exact List.mem_cons_self
      · rw [← List.append_assoc]
        simp only [alloc]
        exact h2.snoc hna h h3
      · simp only [alloc]
        refine .ref ?_
        rw [← List.append_assoc, ← h2.len, List.getElem?_append_right (Nat.le_refl _), Nat.sub_self]
        rfl
theorem allocs_ok : ∀ {ms : List MV} {vs : List V} {fp : List Addr} {ρ : List Addr} {st : Store}, Rl K ρ st H → Reps K ρ H vs ms fp → fp.Nodup → (∀ a ∈ fp, a ∉ ρ) →
    ∃ new, (∀ a ∈ new, a ∈ fp) ∧ Rl K (ρ ++ new) (allocs ms st).2 H ∧ Reps K (ρ ++ new) H vs (allocs ms st).1 []
  | [], _, _, ρ, st, R, r, _, _ => by
    cases r
    exact ⟨[], (fun _ z => nomatch z), by simpa [allocs] using R, by simp only [allocs]; exact .nil⟩
  | m :: ms, _, _, ρ, st, R, r, hn, hd => by
    cases r with
    | @cons v _ f vs _ fs h r =>
      obtain ⟨n1, n2, n3⟩ := List.nodup_append.mp hn
      obtain ⟨new, h1, h2, h3⟩ := alloc_ok R h n1 fun a ha => hd a (List.mem_append_left _ ha)
      have ix : ∀ (i : Nat) (b : Addr), ρ[i]? = some b → (ρ ++ new)[i]? = some b := fun i b h => get_app h new
      have r2 : Reps K (ρ ++ new) H vs ms fs := r.move Keeps.refl ix fun _ _ _ q => q
      obtain ⟨new2, k1, k2, k3⟩ := allocs_ok h2 r2 n2 fun a ha z => by
        rcases List.mem_append.mp z with z | z
        · exact hd a (List.mem_append_right _ ha) z
        · exact n3 a (h1 a z) a ha rfl
      have ix2 : ∀ (i : Nat) (b : Addr), (ρ ++ new)[i]? = some b → (ρ ++ new ++ new2)[i]? = some b := fun i b h => get_app h new2
      refine ⟨new ++ new2, fun a ha => ?_, ?_, ?_⟩
      · rcases List.mem_append.mp ha with ha | ha
        · exact List.mem_append_left _ (h1 a ha)
        · exact List.mem_append_right _ (k1 a ha)
      · rw [← List.append_assoc]
        simpa only [allocs] using k2
      · rw [← List.append_assoc]
        simp only [allocs]
        exact .cons (f := []) (h3.move Keeps.refl ix2 fun _ z => nomatch z) k3
end
/-- a value that has come is stored: what has happened then -/
theorem Res.stored (A : Aft K ρ al H st' ρ' H') (R : Res K al H ρ' H' v m fp) : ∃ ρ2, Aft K ρ al H (alloc m st').2 ρ2 H' ∧ Aft K ρ' fp H' (alloc m st').2 ρ2 H' ∧ Rep K ρ2 H' v (alloc m st').1 [] := by
  obtain ⟨new, h1, h2, h3⟩ := alloc_ok A.rl R.rep R.nd fun a ha => (R.new a ha).2
  have B : Aft K ρ' fp H' (alloc m st').2 (ρ' ++ new) H' := ⟨⟨new, rfl, fun a ha => .inr (h1 a ha)⟩, fun _ _ h _ _ => h, h2⟩
  exact ⟨ρ' ++ new, A.trans B fun a ha => (R.new a ha).1, B, h3⟩
theorem Ress.stored (A : Aft K ρ al H st' ρ' H') (R : Ress K al H ρ' H' vs ms fp) : ∃ ρ2, Aft K ρ al H (allocs ms st').2 ρ2 H' ∧ Aft K ρ' fp H' (allocs ms st').2 ρ2 H' ∧ Reps K ρ2 H' vs (allocs ms st').1 [] := by
  obtain ⟨new, h1, h2, h3⟩ := allocs_ok A.rl R.rep R.nd fun a ha => (R.new a ha).2
  have B : Aft K ρ' fp H' (allocs ms st').2 (ρ' ++ new) H' := ⟨⟨new, rfl, fun a ha => .inr (h1 a ha)⟩, fun _ _ h _ _ => h, h2⟩
  exact ⟨ρ' ++ new, A.trans B fun a ha => (R.new a ha).1, B, h3⟩
/-- a heap where other things have changed than the cells and what a value needs: one new object -/
theorem Aft.upd {a : Addr} {o : HO} (A : Aft K ρ al H st' ρ' H') (ha : H' a = none) : Aft K ρ al H st' ρ' (L2.upd H' a o) := by
  have same : ∀ b u, H' b = some u → L2.upd H' a o b = some u := fun b u h => by rw [upd_ne (ne_of_none h ha)]; exact h
  refine ⟨A.pre, fun b u h h1 h2 => same b u (A.fr b u h h1 h2), A.rl.len, A.rl.nd, fun i b c h1 h2 => (A.rl.cell i b c h1 h2).move ⟨fun _ _ q => same _ _ q, fun _ _ _ q => same _ _ q⟩ (fun _ _ q => q) fun _ q => same _ _ q⟩
theorem Rep.upd {a : Addr} {o : HO} (ha : H a = none) (r : Rep K ρ H v m fp) : Rep K ρ (L2.upd H a o) v m fp := by
  have same : ∀ b u, H b = some u → L2.upd H a o b = some u := fun b u h => by rw [upd_ne (ne_of_none h ha)]; exact h
  exact r.move ⟨fun _ _ q => same _ _ q, fun _ _ _ q => same _ _ q⟩ (fun _ _ q => q) fun _ _ _ q => same _ _ q
theorem Reps.upd {a : Addr} {o : HO} (ha : H a = none) (r : Reps K ρ H vs ms fp) : Reps K ρ (L2.upd H a o) vs ms fp := by
  have same : ∀ b u, H b = some u → L2.upd H a o b = some u := fun b u h => by rw [upd_ne (ne_of_none h ha)]; exact h
  exact r.move ⟨fun _ _ q => same _ _ q, fun _ _ _ q => same _ _ q⟩ (fun _ _ q => q) fun _ _ _ q => same _ _ q
/-- a cell is written -/
theorem Aft.write {i : Nat} {a : Addr} (A : Aft K ρ al H st' ρ' H') (hi : ρ'[i]? = some a) {o : HO} {c : Cell} (hm : WrO o)
    (hc : ∀ H2 : Hp, Keeps H' H2 → H2 a = some o → CellR K ρ' H2 a c) (hal : a ∈ ρ ∨ H a = none ∨ a ∈ al) : Aft K ρ al H (st'.set i c) ρ' (L2.upd H' a o) := by
  have w := A.rl.wr
  have ham : a ∈ ρ' := List.mem_of_getElem? hi
  have same : ∀ b u, b ≠ a → H' b = some u → L2.upd H' a o b = some u := fun b u e h => by rw [upd_ne e]; exact h
  have hk : Keeps H' (L2.upd H' a o) := ⟨fun b xs q => same b _ (fun e => w.notTup q (e ▸ ham)) q, fun b x u q => same b _ (fun e => w.notFrz q (e ▸ ham)) q⟩
  refine ⟨A.pre, fun b u h h1 h2 => ?_, by rw [List.length_set]; exact A.rl.len, A.rl.nd, fun j b d h1 h2 => ?_⟩
  · refine same b u (fun e => ?_) (A.fr b u h h1 h2)
    subst e
    rcases hal with q | q | q
    · exact h1 q
    · rw [h] at q; cases q
    · exact h2 q
  · by_cases e : j = i
    · subst e
      rw [hi] at h1
      cases h1
      have hlt : j < st'.length := by rw [← A.rl.len]; exact (List.getElem?_eq_some_iff.mp hi).1
      rw [List.getElem?_set_self hlt] at h2
      cases h2
      exact hc _ hk upd_same
    · rw [List.getElem?_set_ne (fun q => e q.symm)] at h2
      have hne : b ≠ a := fun q => by
        subst q
        exact e (((List.getElem?_inj (List.getElem?_eq_some_iff.mp h1).1 A.rl.nd).mp (h1.trans hi.symm)))
      exact (A.rl.cell j b d h1 h2).move hk (fun _ _ q => q) fun u q => same b u hne q
end
end QR

set_option Elab.async false
set_option linter.all false
set_option maxRecDepth 100000
/-! QComp: a def of the text turned into the small language. -/
namespace QR
open PySem

/-- what a name of the module is: a def, a constant, free (a built-in is meant), a class (its __init__); of a name with a point ahead: a method of a class (does it take a star?), an attribute of a class's instances -/
inductive GK where
  | fn (k : Nat) | cst (m : MV) | free | cls (k : Nat) | mth (c m : Str) (k : Nat) (star : Bool) | fld (c f : Str)
def gk (x : Str) (k : GK) : Str × GK := (x, k)
structure CEnv where
  N : List Str
  sc : Scope
  G : List (Str × GK)
  blk : Option Scope := none
def idx (x : Str) : List Str → Nat → Option Nat
  | [], _ => none
  | y :: ys, n => if x = y then some n else idx x ys (n + 1)
theorem idx_get {x : Str} : ∀ {N : List Str} {n i : Nat}, idx x N n = some i → n ≤ i ∧ N[i - n]? = some x
  | [], n, i, h => by cases h
  | y :: ys, n, i, h => by
    unfold idx at h
    by_cases e : x = y
    · rw [if_pos e] at h
      cases h
      refine ⟨Nat.le_refl _, ?_⟩
      rw [Nat.sub_self, e]
      rfl
    · rw [if_neg e] at h
      obtain ⟨h1, h2⟩ := idx_get h
      refine ⟨by omega, ?_⟩
      have e2 : i - n = (i - (n + 1)) + 1 := by omega
      rw [e2]
      simpa using h2
def badName (x : Str) : Bool := (x == ("__debug__" : Str)) || ((x == ("__classdict__" : Str)) || (x == ("__name__" : Str)))
/-- a name of the def, to be read -/
def visB (sc : Scope) (x : Str) : Bool := match sc.names.lookup x with
  | some .local => true
  | some .cell => true
  | some .free => true
  | _ => false
def locB (sc : Scope) (x : Str) : Bool := match sc.names.lookup x with
  | some .local => true
  | some .cell => true
  | _ => false
def gloB (sc : Scope) (x : Str) : Bool := match sc.names.lookup x with
  | some .globalImplicit => true
  | _ => false
def slot (ce : CEnv) (x : Str) : Option Nat := if !badName x && visB ce.sc x then idx x ce.N 0 else none
/-- in a comprehension's block its own names alone are stored -/
def blkOwn (ce : CEnv) (x : Str) : Bool := match ce.blk with
  | none => true
  | some s => locB s x
/-- a name that is stored -/
def slotS (ce : CEnv) (x : Str) : Option Nat := if !badName x && (locB ce.sc x && blkOwn ce x) then idx x ce.N 0 else none
def glob (ce : CEnv) (x : Str) : Option GK := if !badName x && gloB ce.sc x then ce.G.lookup x else none
/-- a name of a built-in -/
def isBlt (ce : CEnv) (x : Str) : Bool := match glob ce x with
  | some .free => true
  | _ => false
def bltOf (x : Str) : Option Blt :=
  if x = "len" then some .len else if x = "abs" then some .abs else if x = "min" then some .min else if x = "max" then some .max else
  if x = "int" then some .int else if x = "sum" then some .sum else if x = "all" then some .all else if x = "any" then some .any else
  if x = "sorted" then some .sorted else if x = "tuple" then some .tuple else if x = "list" then some .list else none
def tyOf (x : Str) : Option Ty :=
  if x = "int" then some .int else if x = "bool" then some .bool else if x = "str" then some .str else if x = "tuple" then some .tuple else if x = "list" then some .list else none
def mthOf (x : Str) : Option Mth := if x = "append" then some .append else if x = "pop" then some .pop else if x = "index" then some .index else none
def bopOf : Operator → Option Bop
  | .Add => some .add
  | .Sub => some .sub
  | .Mult => some .mul
  | .FloorDiv => some .fdiv
  | .Mod => some .mod
  | .Pow => some .pow
  | _ => none
def copOf : CmpOp → Cop
  | .Eq => .eq
  | .NotEq => .ne
  | .Lt => .lt
  | .LtE => .le
  | .Gt => .gt
  | .GtE => .ge
  | .Is => .is
  | .IsNot => .isn
  | .In => .mem
  | .NotIn => .nmem
def nmsOf (ce : CEnv) : List Expr → Option (List Nat)
  | [] => some []
  | .Name x _ :: r => (slotS ce x).bind fun i => (nmsOf ce r).map (i :: ·)
  | _ :: _ => none
def compTg (ce : CEnv) : Expr → Option Tg
  | .Name x _ => (slotS ce x).map .nm
  | .Tuple es _ _ => (nmsOf ce es).map .nms
  | _ => none
/-- the names of a target, with their places -/
def ownOf (N : List Str) : List Expr → List (Str × Nat)
  | [] => []
  | .Name x _ :: r => (match idx x N 0 with
    | some i => (x, i) :: ownOf N r
    | none => ownOf N r)
  | _ :: r => ownOf N r
def tgNames : Expr → List Expr
  | .Name x p => [.Name x p]
  | .Tuple es _ _ => es
  | _ => []
def tgIs : Tg → List Nat
  | .nm i => [i]
  | .nms is => is
/-- a class -/
def clsOf (ce : CEnv) (x : Str) : Option Nat := match glob ce x with
  | some (.cls k) => some k
  | _ => none
def dot (x : Str) : Str := "." ++ x
/-- a method's name -/
def mthG (ce : CEnv) (m : Str) : Option (Str × Nat × Bool) := match ce.G.lookup (dot m) with
  | some (.mth c m2 k star) => if m2 = m then some (c, k, star) else none
  | _ => none
/-- an attribute's name -/
def fldG (ce : CEnv) (f : Str) : Option Str := match ce.G.lookup (dot f) with
  | some (.fld c f2) => if f2 = f then some c else none
  | _ => none
/-- what may stand ahead of a point -/
def dotOk : Expr → Bool
  | .Name _ _ => true
  | .Attribute _ _ _ => true
  | .Subscript _ _ _ => true
  | .Call _ (_ :: _) _ _ => true
  | _ => false
/-- is it a call of such a name? -/
def callOf (ce : CEnv) (x : Str) (f : Str) : Bool := decide (f = x) && isBlt ce f
/-- is a target of enumerate, zip written as a tuple? -/
def tgOk (tg : Expr) : It → Bool
  | .zip _ _ => (match tg with
    | .Tuple _ _ _ => true
    | _ => false)
  | .enum _ => (match tg with
    | .Tuple _ _ _ => true
    | _ => false)
  | _ => true
/-- is it «!= [[..]] * k»? -/
def repOf : CmpOp → Expr → Option (Expr × Int)
  | .NotEq, .BinOp (.List [.List es p] _) .Mult (.Constant (.int k) _ _) _ => if decide (0 ≤ k) && decide (k ≤ 1000) then some (.List es p, k) else none
  | _, _ => none
/-- len(count), count an instance (by its name) -/
def lenOf (ce : CEnv) (f : Str) (es : List Expr) : Option (Str × Nat × Expr) := match es with
  | [.Name x p] => if f = "len" ∧ x = "count" then (match mthG ce "__len__" with
    | some (c, k, false) => some (c, k, .Name x p)
    | _ => none) else none
  | _ => none
mutual
def compE : Nat → CEnv → Expr → Option E
  | 0, _, _ => none
  | n + 1, ce, e => match e with
    | .Name x _ => (match slot ce x with
      | some i => some (.var i)
      | none => (match glob ce x with
        | some (.cst m) => some (.cst m)
        | _ => none))
    | .Constant (.int i) _ _ => some (.cst (.int i))
    | .Constant (.bool i) _ _ => some (.cst (.bl i))
    | .Constant .none _ _ => some (.cst .non)
    | .Constant (.str x) _ _ => if PyData.strOk x then some (.cst (.str x)) else none
    | .BinOp a op b _ => (bopOf op).bind fun o => (compE n ce a).bind fun x => (compE n ce b).map fun y => .bin o x y
    | .UnaryOp .Not a _ => (compE n ce a).map .not
    | .UnaryOp .USub a _ => (compE n ce a).map .neg
    | .BoolOp op (a :: r) p => (compE n ce a).bind fun x => (match r with
      | [] => some x
      | b :: r => (compE n ce (.BoolOp op (b :: r) p)).map fun y => (match op with
        | .And => .and x y
        | .Or => .or x y))
    | .Compare a [op] [b] _ => (compE n ce a).bind fun x => (match repOf op b with
      | some (e, k) => (compE n ce e).map fun y => .nerep x y k
      | none => (compE n ce b).map fun y => .cmp (copOf op) x y)
    | .Compare a [op, op'] [b, c] _ => (compE n ce a).bind fun x => (compE n ce b).bind fun y => (compE n ce c).map fun z => .chn (copOf op) (copOf op') x y z
    | .IfExp c a b _ => (compE n ce c).bind fun z => (compE n ce a).bind fun x => (compE n ce b).map fun y => .ite z x y
    | .Tuple es _ _ => if decide (es.length ≤ 1000) then (compEs n ce es).map .tup else none
    | .List es _ => if decide (es.length ≤ 1000) then (compEs n ce es).map .lst else none
    | .Subscript a (.Slice none (some b) none _) _ => (compE n ce a).bind fun x => (compE n ce b).map fun y => .sli .upto x y
    | .Subscript a (.Slice (some b) none none _) _ => (compE n ce a).bind fun x => (compE n ce b).map fun y => .sli .frm x y
    | .Subscript a (.Slice none none (some (.UnaryOp .USub (.Constant (.int 1) _ _) _)) _) _ => (compE n ce a).map fun x => .sli .rev x (.cst .non)
    | .Subscript a (.Slice _ _ _ _) _ => none
    | .Dict [some e] [.Constant (.bool true) _ _] _ => (compE n ce e).map .dct
    | .Attribute o f _ => if dotOk o then (fldG ce f).bind fun c => (compE n ce o).map fun x => .attr c x f else none
    | .Subscript (.Dict [some (.Constant (.str k1) _ _), some (.Constant (.str k2) _ _), some (.Constant (.str k3) _ _)] [a, b, c] _) i _ => if decide ([k1, k2, k3].Nodup) then
        (compE n ce a).bind fun x => (compE n ce b).bind fun y => (compE n ce c).bind fun z => (compE n ce i).map fun w => .pick [k1, k2, k3] (.cons x (.cons y (.cons z .nil))) w else none
    | .Subscript a b _ => (compE n ce a).bind fun x => (compE n ce b).map fun y => .sub x y
    | .Call (.Name f _) es [] _ => (match glob ce f with
      | some (.fn k) => (compEs n ce es).map fun xs => .call k xs
      | some (.cls k) => (match es with
        | [] => none
        | _ :: _ => (compEs n ce es).map fun xs => .mk f k xs)
      | some .free => if f = "isinstance" then (match es with
          | [a, .Name t _] => if isBlt ce t then (tyOf t).bind fun ty => (compE n ce a).map fun x => .blt (.isi ty) (.cons x .nil) else none
          | _ => none)
        else if f = "tuple" ∨ f = "list" then (match es with
          | [a] => (match a with
            | .Call (.Name g _) [b] [] _ => if callOf ce "range" g then (compE n ce b).map fun x => .rgl (decide (f = "tuple")) (.cst (.int 0)) x
              else (bltOf f).bind fun k => (compE n ce a).map fun x => .blt k (.cons x .nil)
            | .Call (.Name g _) [b, c] [] _ => if callOf ce "range" g then (compE n ce b).bind fun x => (compE n ce c).map fun y => .rgl (decide (f = "tuple")) x y
              else (bltOf f).bind fun k => (compE n ce a).map fun x => .blt k (.cons x .nil)
            | _ => (bltOf f).bind fun k => (compE n ce a).map fun x => .blt k (.cons x .nil))
          | _ => none)
        else (bltOf f).bind fun k => (match lenOf ce f es with
          | some (c, j, o) => (compE n ce o).map fun x => .lenO c j x
          | none => (match es with
            | [] => none
            | _ :: _ => (compEs n ce es).map fun xs => .blt k xs))
      | _ => none)
    | .Call (.Attribute o m apos) es [] pos => if dotOk o && ((apos.endLine == pos.line) && decide (es.length < 25)) then (match mthG ce m with
      | some (c, k, star) => (compE n ce o).bind fun x => (compEs n ce es).map fun xs => (match star with
        | true => .mcs c m k x xs
        | false => .mcl c m k x xs)
      | none => if m = "count" then (match es with
        | [b] => (compE n ce o).bind fun x => (compE n ce b).map fun y => .cnt x y
        | _ => none) else (mthOf m).bind fun k => (compE n ce o).bind fun x => (match k, es with
        | .append, [b] => (compE n ce b).map fun y => .mth k x (.cons y .nil)
        | .pop, [b] => (compE n ce b).map fun y => .mth k x (.cons y .nil)
        | .index, [b] => (compE n ce b).map fun y => .mth k x (.cons y .nil)
        | .pop, [] => some (.mth k x .nil)
        | _, _ => none)) else none
    | .ListComp elt [⟨tg, iter, ifs, a⟩] scope _ => if a = 0 then (compI n ce iter).bind fun it =>
        let own := ownOf ce.N (tgNames tg)
        let ce' : CEnv := ⟨ce.N, L2.relS scope ce.sc, ce.G, some scope⟩
        if L2.blkC ce.N ce.sc scope own && tgOk tg it then (compTg ce' tg).bind fun t => if decide (own.map (·.2) = tgIs t) && decide ((tgIs t).Nodup) then (compE n ce' elt).bind fun x => (match ifs with
          | [] => some (.comp x t it (.cst (.bl true)))
          | [c] => (compE n ce' c).map fun y => .comp x t it y
          | _ => none) else none else none else none
    | _ => none
def compEs : Nat → CEnv → List Expr → Option Es
  | 0, _, _ => none
  | _ + 1, _, [] => some .nil
  | n + 1, ce, e :: es => (compE n ce e).bind fun x => (compEs n ce es).map fun xs => .cons x xs
def compI : Nat → CEnv → Expr → Option It
  | 0, _, _ => none
  | n + 1, ce, e => match e with
    | .Call (.Name f _) [a] [] _ => if callOf ce "range" f then (compE n ce a).map fun x => .rng (.cst (.int 0)) x
      else if callOf ce "enumerate" f then (compE n ce a).map .enum
      else (compE n ce e).map .ex
    | .Call (.Name f _) [a, b] [] _ => if callOf ce "range" f then (compE n ce a).bind fun x => (compE n ce b).map fun y => .rng x y
      else if callOf ce "zip" f then (compE n ce a).bind fun x => (compE n ce b).map fun y => .zip x y
      else (compE n ce e).map .ex
    | _ => (compE n ce e).map .ex
end
/-- how a, b = x, y is stored: 0: by its tuple; 1: from the right; 2: not known -/
def swNames (sc : Scope) (ts : List Expr) : List Str := ts.filterMap fun
  | .Name id pos => if sc.names.lookup id == some .local && pos.line == (ts.head?.map (·.pos.line)).getD 0 then some id else none
  | _ => none
def isStar : Expr → Bool
  | .Starred .. => true
  | _ => false
def swKind (sc : Scope) (ts vs : List Expr) : Nat :=
  if !(ts.length == 2 || ts.length == 3) || vs.length != ts.length then 0 else if vs.any isStar then 0
  else if (swNames sc ts).length != ts.length || (swNames sc ts).eraseDups.length != (swNames sc ts).length then 0
  else if vs.all (foldedForSure 8) then 0 else if vs.all (constantsAlone 8) then 2 else 1
def swOk (sc : Scope) (tg e : Expr) : Bool := match tg, e with
  | .Tuple ts _ _, .Tuple vs _ _ => decide (swKind sc ts vs ≠ 2)
  | _, _ => true
def isComp : Expr → Bool
  | .ListComp .. => true
  | .SetComp .. => true
  | .DictComp .. => true
  | _ => false
/-- [()] -/
def unitIn : Expr → Bool
  | .List [.Tuple [] _ _] _ => true
  | _ => false
mutual
def compS : Nat → CEnv → Stmt → Option S
  | 0, _, _ => none
  | n + 1, ce, s => match s with
    | .Assign [tg] e _ => (match tg with
      | .Subscript a i _ => (match i with
        | .Slice .. => none
        | _ => if isComp e then none else (compE n ce e).bind fun x => (compE n ce a).bind fun y => (compE n ce i).map fun z => .set y z x)
      | .Attribute o f _ => if isComp e || !dotOk o then none else (fldG ce f).bind fun c => (if unitIn e then some (.lst (.cons .xte .nil)) else compE n ce e).bind fun x => (compE n ce o).map fun y => .seta c y f x
      | _ => if swOk ce.sc tg e then (compE n ce e).bind fun x => (compTg ce tg).map fun t => .asg t x else none)
    | .AugAssign (.Name x _) .Add e _ => (slotS ce x).bind fun i => (compE n ce e).map fun y => .aug i y
    | .Expr e _ => if isComp e then none else (compE n ce e).map .exp
    | .Return (some e) _ => (compE n ce e).map .ret
    | .If c a b _ => (compE n ce c).bind fun x => (compSs n ce a).bind fun y => (compSs n ce b).map fun z => .iff x y z
    | .For tg it b [] _ => (compI n ce it).bind fun i => if tgOk tg i then (compTg ce tg).bind fun t => (compSs n ce b).map fun y => .for t i y else none
    | .While c b [] _ => (compE n ce c).bind fun x => (compSs n ce b).map fun y => .whl x y
    | .Raise _ _ _ => some (.raise 0)
    | .Pass _ => some .pass
    | _ => none
def compSs : Nat → CEnv → List Stmt → Option Ss
  | 0, _, _ => none
  | _ + 1, _, [] => some .nil
  | n + 1, ce, s :: r => (compS n ce s).bind fun x => (compSs n ce r).map fun y => .cons x y
end
/-- the def's scope fits its names: the parameters first -/
def scopeB (N P : List Str) (sc : Scope) : Bool :=
  (match sc.kind with
  | .function => true
  | _ => false) && (!sc.isCoroutine && (!sc.isGenerator && (decide N.Nodup && (decide (N.take P.length = P) && ((P.all fun x => locB sc x) && sc.names.all fun y => decide (y.2 ≠ .free))))))
def compF (n : Nat) (G : List (Str × GK)) (N P : List Str) (st : Stmt) : Option FDef :=
  if scopeB N P (L2.defScope st) then (compSs n ⟨N, L2.defScope st, G, none⟩ (L2.defBody st)).map fun b => ⟨P.length, N.length, b⟩ else none
theorem repOf_inv {op : CmpOp} {b e : Expr} {k : Int} (h : repOf op b = some (e, k)) : ∃ es p1 p2 p3 p4 j, op = .NotEq ∧ b = .BinOp (.List [.List es p1] p2) .Mult (.Constant (.int k) j p3) p4 ∧ e = .List es p1 ∧ 0 ≤ k ∧ k ≤ 1000 := by
  unfold repOf at h
  split at h
  · split at h
    · rename_i hb
      simp only [Bool.and_eq_true, decide_eq_true_eq] at hb
      cases h
      exact ⟨_, _, _, _, _, _, rfl, rfl, rfl, hb.1, hb.2⟩
    · cases h
  · cases h
end QR

set_option Elab.async false
set_option linter.all false
set_option maxRecDepth 100000
/-! QBase: the defs that stand in more than one law, as terms (printed by gen.py). -/
namespace QR
open PySem
/-- is_between(value, low, high): names 0:value 1:low 2:high -/
def f_is_between : FDef := ⟨3, 3, .cons (.ret (.and (.blt (.isi .int) (.cons (.var 0) .nil)) (.and (.not (.blt (.isi .bool) (.cons (.var 0) .nil))) (.chn .le .le (.var 1) (.var 0) (.var 2))))) .nil⟩
/-- is_condition(value): names 0:value 1:kind 2:top 3:bottom 4:more -/
def f_is_condition : FDef := ⟨1, 5, .cons (.iff (.or (.not (.blt (.isi .tuple) (.cons (.var 0) .nil))) (.cmp .ne (.blt .len (.cons (.var 0) .nil)) (.cst (.int 4)))) (.cons (.ret (.cst (.bl false))) .nil) (.nil)) (.cons (.asg (.nms [1, 2, 3, 4]) (.var 0)) (.cons (.iff (.or (.not (.blt (.isi .str) (.cons (.var 1) .nil))) (.or (.cmp .nmem (.var 1) (.cst (.tup [.str "cast", .str "present", .str "all", .str "turnout"]))) (.not (.call 0 (.cons (.var 3) (.cons (.cst (.int 1)) (.cons (.cst (.int 20)) .nil))))))) (.cons (.ret (.cst (.bl false))) .nil) (.nil)) (.cons (.ret (.and (.call 0 (.cons (.var 2) (.cons (.cst (.int 0)) (.cons (.var 3) .nil)))) (.blt (.isi .bool) (.cons (.var 4) .nil)))) .nil)))⟩
/-- is_rule(value): names 0:value 1:condition -/
def f_is_rule : FDef := ⟨1, 2, .cons (.iff (.or (.not (.blt (.isi .tuple) (.cons (.var 0) .nil))) (.cmp .gt (.blt .len (.cons (.var 0) .nil)) (.cst (.int 4)))) (.cons (.ret (.cst (.bl false))) .nil) (.nil)) (.cons (.ret (.blt .all (.cons (.comp (.call 1 (.cons (.var 1) .nil)) (.nm 1) (.ex (.var 0)) (.cst (.bl true))) .nil))) .nil)⟩
/-- is_votes_of(members, value): names 0:members 1:value 2:count -/
def f_is_votes_of : FDef := ⟨2, 3, .cons (.iff (.or (.not (.blt (.isi .tuple) (.cons (.var 1) .nil))) (.cmp .ne (.blt .len (.cons (.var 1) .nil)) (.cst (.int 3)))) (.cons (.ret (.cst (.bl false))) .nil) (.nil)) (.cons (.ret (.and (.blt .all (.cons (.comp (.call 0 (.cons (.var 2) (.cons (.cst (.int 0)) (.cons (.var 0) .nil)))) (.nm 2) (.ex (.var 1)) (.cst (.bl true))) .nil)) (.cmp .le (.blt .sum (.cons (.var 1) .nil)) (.var 0)))) .nil)⟩
/-- need_members(members): names 0:members -/
def f_need_members : FDef := ⟨1, 1, .cons (.iff (.not (.call 0 (.cons (.var 0) (.cons (.cst (.int 1)) (.cons (.cst (.int 40)) .nil))))) (.cons (.raise 0) .nil) (.nil)) .nil⟩
/-- is_votes(members, value): names 0:members 1:value -/
def f_is_votes : FDef := ⟨2, 2, .cons (.exp (.call 4 (.cons (.var 0) .nil))) (.cons (.ret (.call 3 (.cons (.var 0) (.cons (.var 1) .nil)))) .nil)⟩
/-- _law_source(script, index): names 0:script 1:index 2:cell -/
def f_law_source : FDef := ⟨2, 3, .cons (.asg (.nm 2) (.cst (.int 0))) (.cons (.iff (.cmp .lt (.var 1) (.blt .len (.cons (.var 0) .nil))) (.cons (.asg (.nm 2) (.blt .abs (.cons (.sub (.var 0) (.var 1)) .nil))) .nil) (.nil)) (.cons (.iff (.cmp .lt (.var 2) (.bin .pow (.cst (.int 10)) (.cst (.int 18)))) (.cons (.ret (.lst (.cons (.cst (.int 0)) (.cons (.bin .add (.cst (.int 1)) (.bin .mod (.blt .int (.cons (.bin .add (.bin .mul (.var 2) (.cst (.int 7919))) (.bin .mul (.cst (.int 104729)) (.var 1))) .nil)) (.cst (.int 2147483646)))) .nil)))) .nil) (.nil)) (.cons (.ret (.lst (.cons (.var 2) (.cons (.bin .add (.cst (.int 1)) (.bin .mod (.blt .int (.cons (.bin .add (.var 2) (.var 1)) .nil)) (.cst (.int 2147483646)))) .nil)))) .nil)))⟩
/-- _law_draw(source, size): names 0:source 1:size 2:drawn -/
def f_law_draw : FDef := ⟨2, 3, .cons (.iff (.cmp .gt (.sub (.var 0) (.cst (.int 0))) (.cst (.int 0))) (.cons (.asg (.nm 2) (.bin .mod (.blt .int (.cons (.sub (.var 0) (.cst (.int 0))) .nil)) (.var 1))) (.cons (.set (.var 0) (.cst (.int 0)) (.bin .fdiv (.sub (.var 0) (.cst (.int 0))) (.var 1))) (.cons (.ret (.var 2)) .nil))) (.nil)) (.cons (.set (.var 0) (.cst (.int 1)) (.bin .mod (.blt .int (.cons (.bin .mul (.sub (.var 0) (.cst (.int 1))) (.cst (.int 48271))) .nil)) (.cst (.int 2147483647)))) (.cons (.ret (.bin .mod (.blt .int (.cons (.bin .fdiv (.bin .mod (.blt .int (.cons (.bin .mul (.sub (.var 0) (.cst (.int 1))) (.sub (.var 0) (.cst (.int 1)))) .nil)) (.cst (.int 2147483629))) (.cst (.int 64))) .nil)) (.var 1))) .nil))⟩
/-- _law_choice(source, items): names 0:source 1:items -/
def f_law_choice : FDef := ⟨2, 2, .cons (.ret (.sub (.var 1) (.call 7 (.cons (.var 0) (.cons (.blt .len (.cons (.var 1) .nil)) .nil))))) .nil⟩
/-- _law_is_between(value, low, high): names 0:value 1:low 2:high -/
def f_law_is_between : FDef := ⟨3, 3, .cons (.ret (.and (.blt (.isi .int) (.cons (.var 0) .nil)) (.and (.not (.blt (.isi .bool) (.cons (.var 0) .nil))) (.chn .le .le (.var 1) (.var 0) (.var 2))))) .nil⟩
/-- _law_condition(source, kinds): names 0:source 1:kinds 2:bottom 3:top -/
def f_law_condition : FDef := ⟨2, 4, .cons (.asg (.nm 2) (.call 8 (.cons (.var 0) (.cons (.lst (.cons (.cst (.int 2)) (.cons (.cst (.int 2)) (.cons (.cst (.int 3)) (.cons (.cst (.int 4)) (.cons (.cst (.int 5)) (.cons (.cst (.int 10)) (.cons (.bin .add (.cst (.int 1)) (.call 7 (.cons (.var 0) (.cons (.cst (.int 20)) .nil)))) .nil)))))))) .nil)))) (.cons (.asg (.nm 3) (.call 8 (.cons (.var 0) (.cons (.lst (.cons (.call 7 (.cons (.var 0) (.cons (.bin .add (.var 2) (.cst (.int 1))) .nil))) (.cons (.bin .fdiv (.var 2) (.cst (.int 2))) (.cons (.bin .fdiv (.bin .add (.var 2) (.cst (.int 1))) (.cst (.int 2))) (.cons (.bin .fdiv (.bin .mul (.cst (.int 2)) (.var 2)) (.cst (.int 3))) .nil))))) .nil)))) (.cons (.ret (.tup (.cons (.call 8 (.cons (.var 0) (.cons (.var 1) .nil))) (.cons (.var 3) (.cons (.var 2) (.cons (.cmp .eq (.call 7 (.cons (.var 0) (.cons (.cst (.int 2)) .nil))) (.cst (.int 0))) .nil)))))) .nil))⟩
/-- _law_rule(source, most): names 0:source 1:most 2:kinds 3:turn -/
def f_law_rule : FDef := ⟨2, 4, .cons (.asg (.nm 2) (.lst (.cons (.cst (.str "cast")) (.cons (.cst (.str "present")) (.cons (.cst (.str "all")) (.cons (.cst (.str "turnout")) (.cons (.cst (.str "turnout")) (.cons (.cst (.str "cast")) .nil)))))))) (.cons (.ret (.blt .tuple (.cons (.comp (.call 10 (.cons (.var 0) (.cons (.var 2) .nil))) (.nm 3) (.rng (.cst (.int 0)) (.call 7 (.cons (.var 0) (.cons (.bin .add (.var 1) (.cst (.int 1))) .nil)))) (.cst (.bl true))) .nil))) .nil)⟩
/-- _law_votes(source, members): names 0:source 1:members 2:yes 3:no -/
def f_law_votes : FDef := ⟨2, 4, .cons (.asg (.nm 2) (.call 7 (.cons (.var 0) (.cons (.bin .add (.var 1) (.cst (.int 1))) .nil)))) (.cons (.asg (.nm 3) (.call 7 (.cons (.var 0) (.cons (.bin .add (.bin .sub (.var 1) (.var 2)) (.cst (.int 1))) .nil)))) (.cons (.ret (.tup (.cons (.var 2) (.cons (.var 3) (.cons (.call 8 (.cons (.var 0) (.cons (.lst (.cons (.cst (.int 0)) (.cons (.call 7 (.cons (.var 0) (.cons (.bin .add (.bin .sub (.bin .sub (.var 1) (.var 2)) (.var 3)) (.cst (.int 1))) .nil))) .nil))) .nil))) .nil))))) .nil))⟩
/-- need_rule(rule): names 0:rule -/
def f_need_rule : FDef := ⟨1, 1, .cons (.iff (.not (.call 2 (.cons (.var 0) .nil))) (.cons (.raise 0) .nil) (.nil)) .nil⟩
/-- need_votes(members, votes): names 0:members 1:votes -/
def f_need_votes : FDef := ⟨2, 2, .cons (.iff (.not (.call 3 (.cons (.var 0) (.cons (.var 1) .nil)))) (.cons (.raise 0) .nil) (.nil)) .nil⟩
/-- part_and_whole(kind, members, votes): names 0:kind 1:members 2:votes 3:yes 4:no 5:blank -/
def f_part_and_whole : FDef := ⟨3, 6, .cons (.asg (.nms [3, 4, 5]) (.var 2)) (.cons (.iff (.cmp .eq (.var 0) (.cst (.str "cast"))) (.cons (.ret (.tup (.cons (.var 3) (.cons (.bin .add (.var 3) (.var 4)) .nil)))) .nil) (.nil)) (.cons (.iff (.cmp .eq (.var 0) (.cst (.str "present"))) (.cons (.ret (.tup (.cons (.var 3) (.cons (.bin .add (.bin .add (.var 3) (.var 4)) (.var 5)) .nil)))) .nil) (.nil)) (.cons (.iff (.cmp .eq (.var 0) (.cst (.str "all"))) (.cons (.ret (.tup (.cons (.var 3) (.cons (.var 1) .nil)))) .nil) (.nil)) (.cons (.ret (.tup (.cons (.bin .add (.bin .add (.var 3) (.var 4)) (.var 5)) (.cons (.var 1) .nil)))) .nil))))⟩
/-- holds(condition, members, votes): names 0:condition 1:members 2:votes 3:kind 4:top 5:bottom 6:more 7:part 8:whole -/
def f_holds : FDef := ⟨3, 9, .cons (.asg (.nms [3, 4, 5, 6]) (.var 0)) (.cons (.asg (.nms [7, 8]) (.call 15 (.cons (.var 3) (.cons (.var 1) (.cons (.var 2) .nil))))) (.cons (.ret (.ite (.var 6) (.cmp .gt (.bin .mul (.var 7) (.var 5)) (.bin .mul (.var 8) (.var 4))) (.cmp .ge (.bin .mul (.var 7) (.var 5)) (.bin .mul (.var 8) (.var 4))))) .nil))⟩
/-- is_passed(rule, members, votes): names 0:rule 1:members 2:votes 3:condition -/
def f_is_passed : FDef := ⟨3, 4, .cons (.ret (.blt .all (.cons (.comp (.call 16 (.cons (.var 3) (.cons (.var 1) (.cons (.var 2) .nil)))) (.nm 3) (.ex (.var 0)) (.cst (.bl true))) .nil))) .nil⟩
/-- passes(rule, members, votes): names 0:rule 1:members 2:votes -/
def f_passes : FDef := ⟨3, 3, .cons (.exp (.call 13 (.cons (.var 0) .nil))) (.cons (.exp (.call 4 (.cons (.var 1) .nil))) (.cons (.exp (.call 14 (.cons (.var 1) (.cons (.var 2) .nil)))) (.cons (.ret (.call 17 (.cons (.var 0) (.cons (.var 1) (.cons (.var 2) .nil))))) .nil)))⟩
/-- failed(rule, members, votes): names 0:rule 1:members 2:votes 3:index 4:condition -/
def f_failed : FDef := ⟨3, 5, .cons (.exp (.call 13 (.cons (.var 0) .nil))) (.cons (.exp (.call 4 (.cons (.var 1) .nil))) (.cons (.exp (.call 14 (.cons (.var 1) (.cons (.var 2) .nil)))) (.cons (.ret (.comp (.var 3) (.nms [3, 4]) (.enum (.var 0)) (.not (.call 16 (.cons (.var 4) (.cons (.var 1) (.cons (.var 2) .nil))))))) .nil)))⟩
/-- _law_holds(condition, members, votes): names 0:condition 1:members 2:votes 3:kind 4:top 5:bottom 6:more 7:yes 8:no 9:blank 10:part 11:whole -/
def f_law_holds : FDef := ⟨3, 12, .cons (.asg (.nms [3, 4, 5, 6]) (.var 0)) (.cons (.asg (.nms [7, 8, 9]) (.var 2)) (.cons (.asg (.nms [10, 11]) (.tup (.cons (.var 7) (.cons (.var 1) .nil)))) (.cons (.iff (.cmp .eq (.var 3) (.cst (.str "cast"))) (.cons (.asg (.nm 11) (.bin .add (.var 7) (.var 8))) .nil) (.nil)) (.cons (.iff (.cmp .eq (.var 3) (.cst (.str "present"))) (.cons (.asg (.nm 11) (.bin .add (.bin .add (.var 7) (.var 8)) (.var 9))) .nil) (.nil)) (.cons (.iff (.cmp .eq (.var 3) (.cst (.str "turnout"))) (.cons (.asg (.nm 10) (.bin .add (.bin .add (.var 7) (.var 8)) (.var 9))) .nil) (.nil)) (.cons (.iff (.var 6) (.cons (.ret (.cmp .gt (.bin .mul (.var 10) (.var 5)) (.bin .mul (.var 11) (.var 4)))) .nil) (.nil)) (.cons (.ret (.cmp .ge (.bin .mul (.var 10) (.var 5)) (.bin .mul (.var 11) (.var 4)))) .nil)))))))⟩
/-- need_numbers(members, numbers): names 0:members 1:numbers 2:left 3:number -/
def b1_need_numbers : Ss := .cons (.iff (.not (.call 0 (.cons (.var 3) (.cons (.cst (.int 0)) (.cons (.var 2) .nil))))) (.cons (.raise 0) .nil) (.nil)) (.cons (.asg (.nm 2) (.bin .sub (.var 2) (.var 3))) .nil)
def f_need_numbers : FDef := ⟨2, 4, .cons (.asg (.nm 2) (.var 0)) (.cons (.for (.nm 3) (.ex (.var 1)) (b1_need_numbers)) .nil)⟩
/-- ends_of(numbers): names 0:numbers -/
def f_ends_of : FDef := ⟨1, 1, .cons (.ret (.ite (.cmp .ne (.var 0) (.lst (.nil))) (.tup (.cons (.sub (.var 0) (.cst (.int 0))) (.cons (.sub (.var 0) (.neg (.cst (.int 1)))) .nil))) (.cst (.non)))) .nil⟩
/-- no_range(rule, members, yes, blank): names 0:rule 1:members 2:yes 3:blank 4:found 5:no -/
def b1_no_range : Ss := .cons (.iff (.call 17 (.cons (.var 0) (.cons (.var 1) (.cons (.tup (.cons (.var 2) (.cons (.var 5) (.cons (.var 3) .nil)))) .nil)))) (.cons (.exp (.mth .append (.var 4) (.cons (.var 5) .nil))) .nil) (.nil)) .nil
def f_no_range : FDef := ⟨4, 6, .cons (.exp (.call 13 (.cons (.var 0) .nil))) (.cons (.exp (.call 4 (.cons (.var 1) .nil))) (.cons (.exp (.call 21 (.cons (.var 1) (.cons (.tup (.cons (.var 2) (.cons (.var 3) .nil))) .nil)))) (.cons (.asg (.nm 4) (.lst (.nil))) (.cons (.for (.nm 5) (.rng (.cst (.int 0)) (.bin .add (.bin .sub (.bin .sub (.var 1) (.var 2)) (.var 3)) (.cst (.int 1)))) (b1_no_range)) (.cons (.ret (.call 22 (.cons (.var 4) .nil))) .nil)))))⟩
/-- blank_range(rule, members, yes, no): names 0:rule 1:members 2:yes 3:no 4:found 5:blank -/
def b1_blank_range : Ss := .cons (.iff (.call 17 (.cons (.var 0) (.cons (.var 1) (.cons (.tup (.cons (.var 2) (.cons (.var 3) (.cons (.var 5) .nil)))) .nil)))) (.cons (.exp (.mth .append (.var 4) (.cons (.var 5) .nil))) .nil) (.nil)) .nil
def f_blank_range : FDef := ⟨4, 6, .cons (.exp (.call 13 (.cons (.var 0) .nil))) (.cons (.exp (.call 4 (.cons (.var 1) .nil))) (.cons (.exp (.call 21 (.cons (.var 1) (.cons (.tup (.cons (.var 2) (.cons (.var 3) .nil))) .nil)))) (.cons (.asg (.nm 4) (.lst (.nil))) (.cons (.for (.nm 5) (.rng (.cst (.int 0)) (.bin .add (.bin .sub (.bin .sub (.var 1) (.var 2)) (.var 3)) (.cst (.int 1)))) (b1_blank_range)) (.cons (.ret (.call 22 (.cons (.var 4) .nil))) .nil)))))⟩
/-- fewest_yes(rule, members, no, blank): names 0:rule 1:members 2:no 3:blank 4:yes -/
def b1_fewest_yes : Ss := .cons (.iff (.call 17 (.cons (.var 0) (.cons (.var 1) (.cons (.tup (.cons (.var 4) (.cons (.var 2) (.cons (.var 3) .nil)))) .nil)))) (.cons (.ret (.var 4)) .nil) (.nil)) .nil
def f_fewest_yes : FDef := ⟨4, 5, .cons (.exp (.call 13 (.cons (.var 0) .nil))) (.cons (.exp (.call 4 (.cons (.var 1) .nil))) (.cons (.exp (.call 21 (.cons (.var 1) (.cons (.tup (.cons (.var 2) (.cons (.var 3) .nil))) .nil)))) (.cons (.for (.nm 4) (.rng (.cst (.int 0)) (.bin .add (.bin .sub (.bin .sub (.var 1) (.var 2)) (.var 3)) (.cst (.int 1)))) (b1_fewest_yes)) (.cons (.ret (.cst (.non))) .nil))))⟩
/-- _law_passes(rule, members, votes): names 0:rule 1:members 2:votes 3:condition -/
def f_law_passes : FDef := ⟨3, 4, .cons (.ret (.cmp .eq (.comp (.cst (.int 1)) (.nm 3) (.ex (.var 0)) (.not (.call 20 (.cons (.var 3) (.cons (.var 1) (.cons (.var 2) .nil)))))) (.lst (.nil)))) .nil⟩
/-- defeat_of(rule, members, yes, free): names 0:rule 1:members 2:yes 3:free 4:no -/
def b1_defeat_of : Ss := .cons (.iff (.not (.call 17 (.cons (.var 0) (.cons (.var 1) (.cons (.tup (.cons (.var 2) (.cons (.var 4) (.cons (.cst (.int 0)) .nil)))) .nil))))) (.cons (.ret (.tup (.cons (.var 4) (.cons (.cst (.int 0)) .nil)))) .nil) (.nil)) .nil
def f_defeat_of : FDef := ⟨4, 5, .cons (.for (.nm 4) (.ex (.tup (.cons (.var 3) (.cons (.cst (.int 0)) .nil)))) (b1_defeat_of)) (.cons (.ret (.cst (.non))) .nil)⟩
/-- passes_surely(rule, members, yes, free): names 0:rule 1:members 2:yes 3:free -/
def f_passes_surely : FDef := ⟨4, 4, .cons (.exp (.call 13 (.cons (.var 0) .nil))) (.cons (.exp (.call 4 (.cons (.var 1) .nil))) (.cons (.exp (.call 21 (.cons (.var 1) (.cons (.tup (.cons (.var 2) (.cons (.var 3) .nil))) .nil)))) (.cons (.ret (.cmp .is (.call 27 (.cons (.var 0) (.cons (.var 1) (.cons (.var 2) (.cons (.var 3) .nil))))) (.cst (.non)))) .nil)))⟩
/-- can_pass(rule, members, yes, free): names 0:rule 1:members 2:yes 3:free 4:blank -/
def b1_can_pass : Ss := .cons (.iff (.call 17 (.cons (.var 0) (.cons (.var 1) (.cons (.tup (.cons (.var 2) (.cons (.cst (.int 0)) (.cons (.var 4) .nil)))) .nil)))) (.cons (.ret (.cst (.bl true))) .nil) (.nil)) .nil
def f_can_pass : FDef := ⟨4, 5, .cons (.exp (.call 13 (.cons (.var 0) .nil))) (.cons (.exp (.call 4 (.cons (.var 1) .nil))) (.cons (.exp (.call 21 (.cons (.var 1) (.cons (.tup (.cons (.var 2) (.cons (.var 3) .nil))) .nil)))) (.cons (.for (.nm 4) (.rng (.cst (.int 0)) (.bin .add (.var 3) (.cst (.int 1)))) (b1_can_pass)) (.cons (.ret (.cst (.bl false))) .nil))))⟩
/-- defeat(rule, members, yes, free): names 0:rule 1:members 2:yes 3:free -/
def f_defeat : FDef := ⟨4, 4, .cons (.exp (.call 13 (.cons (.var 0) .nil))) (.cons (.exp (.call 4 (.cons (.var 1) .nil))) (.cons (.exp (.call 21 (.cons (.var 1) (.cons (.tup (.cons (.var 2) (.cons (.var 3) .nil))) .nil)))) (.cons (.ret (.call 27 (.cons (.var 0) (.cons (.var 1) (.cons (.var 2) (.cons (.var 3) .nil)))))) .nil)))⟩
/-- fewest_sure(rule, members): names 0:rule 1:members 2:yes -/
def b1_fewest_sure : Ss := .cons (.iff (.cmp .is (.call 27 (.cons (.var 0) (.cons (.var 1) (.cons (.var 2) (.cons (.bin .sub (.var 1) (.var 2)) .nil))))) (.cst (.non))) (.cons (.ret (.var 2)) .nil) (.nil)) .nil
def f_fewest_sure : FDef := ⟨2, 3, .cons (.exp (.call 13 (.cons (.var 0) .nil))) (.cons (.exp (.call 4 (.cons (.var 1) .nil))) (.cons (.for (.nm 2) (.rng (.cst (.int 0)) (.bin .add (.var 1) (.cst (.int 1)))) (b1_fewest_sure)) (.cons (.ret (.cst (.non))) .nil)))⟩
/-- all_votes(members): names 0:members 1:found 2:yes 3:no 4:blank -/
def b1_all_votes : Ss := .cons (.exp (.mth .append (.var 1) (.cons (.tup (.cons (.var 2) (.cons (.var 3) (.cons (.var 4) .nil)))) .nil))) .nil
def b2_all_votes : Ss := .cons (.for (.nm 4) (.rng (.cst (.int 0)) (.bin .add (.bin .sub (.bin .sub (.var 0) (.var 2)) (.var 3)) (.cst (.int 1)))) (b1_all_votes)) .nil
def b3_all_votes : Ss := .cons (.for (.nm 3) (.rng (.cst (.int 0)) (.bin .add (.bin .sub (.var 0) (.var 2)) (.cst (.int 1)))) (b2_all_votes)) .nil
def f_all_votes : FDef := ⟨1, 5, .cons (.asg (.nm 1) (.lst (.nil))) (.cons (.for (.nm 2) (.rng (.cst (.int 0)) (.bin .add (.var 0) (.cst (.int 1)))) (b3_all_votes)) (.cons (.ret (.var 1)) .nil))⟩
/-- helped(rule, members): names 0:rule 1:members 2:found 3:yes 4:no 5:blank -/
def b1_helped : Ss := .cons (.iff (.and (.cmp .lt (.bin .add (.bin .add (.var 3) (.var 4)) (.var 5)) (.var 1)) (.not (.call 17 (.cons (.var 0) (.cons (.var 1) (.cons (.tup (.cons (.var 3) (.cons (.var 4) (.cons (.var 5) .nil)))) .nil)))))) (.cons (.iff (.call 17 (.cons (.var 0) (.cons (.var 1) (.cons (.tup (.cons (.var 3) (.cons (.bin .add (.var 4) (.cst (.int 1))) (.cons (.var 5) .nil)))) .nil)))) (.cons (.exp (.mth .append (.var 2) (.cons (.tup (.cons (.var 3) (.cons (.var 4) (.cons (.var 5) .nil)))) .nil))) .nil) (.nil)) .nil) (.nil)) .nil
def f_helped : FDef := ⟨2, 6, .cons (.asg (.nm 2) (.lst (.nil))) (.cons (.for (.nms [3, 4, 5]) (.ex (.call 32 (.cons (.var 1) .nil))) (b1_helped)) (.cons (.ret (.var 2)) .nil))⟩
/-- helpful_no(rule, members): names 0:rule 1:members -/
def f_helpful_no : FDef := ⟨2, 2, .cons (.exp (.call 13 (.cons (.var 0) .nil))) (.cons (.exp (.call 4 (.cons (.var 1) .nil))) (.cons (.ret (.call 33 (.cons (.var 0) (.cons (.var 1) .nil)))) .nil))⟩
/-- is_fair(rule, members): names 0:rule 1:members -/
def f_is_fair : FDef := ⟨2, 2, .cons (.exp (.call 13 (.cons (.var 0) .nil))) (.cons (.exp (.call 4 (.cons (.var 1) .nil))) (.cons (.ret (.cmp .eq (.call 33 (.cons (.var 0) (.cons (.var 1) .nil))) (.lst (.nil)))) .nil))⟩
/-- no_numbers(rule, members, yes, free): names 0:rule 1:members 2:yes 3:free 4:no -/
def f_no_numbers : FDef := ⟨4, 5, .cons (.exp (.call 13 (.cons (.var 0) .nil))) (.cons (.exp (.call 4 (.cons (.var 1) .nil))) (.cons (.exp (.call 21 (.cons (.var 1) (.cons (.tup (.cons (.var 2) (.cons (.var 3) .nil))) .nil)))) (.cons (.ret (.comp (.var 4) (.nm 4) (.rng (.cst (.int 0)) (.bin .add (.var 3) (.cst (.int 1)))) (.not (.call 17 (.cons (.var 0) (.cons (.var 1) (.cons (.tup (.cons (.var 2) (.cons (.var 4) (.cons (.cst (.int 0)) .nil)))) .nil))))))) .nil)))⟩
/-- _law_all(members): names 0:members 1:found 2:yes 3:no 4:blank -/
def b1_law_all : Ss := .cons (.exp (.mth .append (.var 1) (.cons (.tup (.cons (.var 2) (.cons (.var 3) (.cons (.var 4) .nil)))) .nil))) .nil
def b2_law_all : Ss := .cons (.for (.nm 4) (.rng (.cst (.int 0)) (.bin .add (.bin .sub (.bin .sub (.var 0) (.var 2)) (.var 3)) (.cst (.int 1)))) (b1_law_all)) .nil
def b3_law_all : Ss := .cons (.for (.nm 3) (.rng (.cst (.int 0)) (.bin .add (.bin .sub (.var 0) (.var 2)) (.cst (.int 1)))) (b2_law_all)) .nil
def f_law_all : FDef := ⟨1, 5, .cons (.asg (.nm 1) (.lst (.nil))) (.cons (.for (.nm 2) (.rng (.cst (.int 0)) (.bin .add (.var 0) (.cst (.int 1)))) (b3_law_all)) (.cons (.ret (.var 1)) .nil))⟩
/-- told_by(rule, other, members): names 0:rule 1:other 2:members 3:votes -/
def b1_told_by : Ss := .cons (.iff (.and (.call 17 (.cons (.var 0) (.cons (.var 2) (.cons (.var 3) .nil)))) (.not (.call 17 (.cons (.var 1) (.cons (.var 2) (.cons (.var 3) .nil)))))) (.cons (.ret (.var 3)) .nil) (.nil)) .nil
def f_told_by : FDef := ⟨3, 4, .cons (.for (.nm 3) (.ex (.call 32 (.cons (.var 2) .nil))) (b1_told_by)) (.cons (.ret (.cst (.non))) .nil)⟩
/-- telling_votes(rule, other, members): names 0:rule 1:other 2:members -/
def f_telling_votes : FDef := ⟨3, 3, .cons (.exp (.call 13 (.cons (.var 0) .nil))) (.cons (.exp (.call 13 (.cons (.var 1) .nil))) (.cons (.exp (.call 4 (.cons (.var 2) .nil))) (.cons (.ret (.call 38 (.cons (.var 0) (.cons (.var 1) (.cons (.var 2) .nil))))) .nil)))⟩
/-- implies(rule, other, members): names 0:rule 1:other 2:members -/
def f_implies : FDef := ⟨3, 3, .cons (.ret (.cmp .is (.call 39 (.cons (.var 0) (.cons (.var 1) (.cons (.var 2) .nil)))) (.cst (.non)))) .nil⟩
/-- same(rule, other, members): names 0:rule 1:other 2:members -/
def f_same : FDef := ⟨3, 3, .cons (.ret (.and (.cmp .is (.call 39 (.cons (.var 0) (.cons (.var 1) (.cons (.var 2) .nil)))) (.cst (.non))) (.cmp .is (.call 38 (.cons (.var 1) (.cons (.var 0) (.cons (.var 2) .nil)))) (.cst (.non))))) .nil⟩
/-- _law_similar(source, rule): names 0:source 1:rule 2:way 3:at 4:kind 5:top 6:bottom 7:more 8:new -/
def f_law_similar : FDef := ⟨2, 9, .cons (.asg (.nm 2) (.call 7 (.cons (.var 0) (.cons (.cst (.int 4)) .nil)))) (.cons (.iff (.or (.cmp .eq (.var 1) (.tup (.nil))) (.cmp .eq (.var 2) (.cst (.int 0)))) (.cons (.ret (.sli .upto (.bin .add (.var 1) (.tup (.cons (.call 10 (.cons (.var 0) (.cons (.lst (.cons (.cst (.str "cast")) (.cons (.cst (.str "present")) (.cons (.cst (.str "all")) (.cons (.cst (.str "turnout")) .nil))))) .nil))) .nil))) (.cst (.int 4)))) .nil) (.nil)) (.cons (.asg (.nm 3) (.call 7 (.cons (.var 0) (.cons (.blt .len (.cons (.var 1) .nil)) .nil)))) (.cons (.iff (.cmp .eq (.var 2) (.cst (.int 1))) (.cons (.ret (.bin .add (.sli .upto (.var 1) (.var 3)) (.sli .frm (.var 1) (.bin .add (.var 3) (.cst (.int 1)))))) .nil) (.nil)) (.cons (.asg (.nms [4, 5, 6, 7]) (.sub (.var 1) (.var 3))) (.cons (.asg (.nm 8) (.tup (.cons (.var 4) (.cons (.var 5) (.cons (.var 6) (.cons (.not (.var 7)) .nil)))))) (.cons (.iff (.cmp .eq (.var 2) (.cst (.int 2))) (.cons (.asg (.nm 8) (.tup (.cons (.call 8 (.cons (.var 0) (.cons (.lst (.cons (.cst (.str "cast")) (.cons (.cst (.str "present")) (.cons (.cst (.str "all")) .nil)))) .nil))) (.cons (.var 5) (.cons (.var 6) (.cons (.var 7) .nil)))))) .nil) (.nil)) (.cons (.ret (.bin .add (.bin .add (.sli .upto (.var 1) (.var 3)) (.tup (.cons (.var 8) .nil))) (.sli .frm (.var 1) (.bin .add (.var 3) (.cst (.int 1)))))) .nil)))))))⟩
/-- without(rule, index): names 0:rule 1:index -/
def f_without_compare : FDef := ⟨2, 2, .cons (.ret (.bin .add (.sli .upto (.var 0) (.var 1)) (.sli .frm (.var 0) (.bin .add (.var 1) (.cst (.int 1)))))) .nil⟩
/-- needless(rule, members): names 0:rule 1:members 2:index -/
def f_needless : FDef := ⟨2, 3, .cons (.exp (.call 13 (.cons (.var 0) .nil))) (.cons (.exp (.call 4 (.cons (.var 1) .nil))) (.cons (.ret (.comp (.var 2) (.nm 2) (.rng (.cst (.int 0)) (.blt .len (.cons (.var 0) .nil))) (.cmp .is (.call 38 (.cons (.call 43 (.cons (.var 0) (.cons (.var 2) .nil))) (.cons (.var 0) (.cons (.var 1) .nil)))) (.cst (.non))))) .nil))⟩
/-- form_of(condition): names 0:condition 1:kind 2:top 3:bottom 4:more -/
def f_form_of : FDef := ⟨1, 5, .cons (.asg (.nms [1, 2, 3, 4]) (.var 0)) (.cons (.iff (.cmp .eq (.var 1) (.cst (.str "cast"))) (.cons (.ret (.tup (.cons (.tup (.cons (.bin .sub (.var 3) (.var 2)) (.cons (.bin .sub (.cst (.int 0)) (.var 2)) (.cons (.cst (.int 0)) (.cons (.cst (.int 0)) .nil))))) (.cons (.var 4) .nil)))) .nil) (.nil)) (.cons (.iff (.cmp .eq (.var 1) (.cst (.str "present"))) (.cons (.ret (.tup (.cons (.tup (.cons (.bin .sub (.var 3) (.var 2)) (.cons (.bin .sub (.cst (.int 0)) (.var 2)) (.cons (.bin .sub (.cst (.int 0)) (.var 2)) (.cons (.cst (.int 0)) .nil))))) (.cons (.var 4) .nil)))) .nil) (.nil)) (.cons (.iff (.cmp .eq (.var 1) (.cst (.str "turnout"))) (.cons (.ret (.tup (.cons (.tup (.cons (.var 3) (.cons (.var 3) (.cons (.var 3) (.cons (.bin .sub (.cst (.int 0)) (.var 2)) .nil))))) (.cons (.var 4) .nil)))) .nil) (.nil)) (.cons (.ret (.tup (.cons (.tup (.cons (.var 3) (.cons (.cst (.int 0)) (.cons (.cst (.int 0)) (.cons (.bin .sub (.cst (.int 0)) (.var 2)) .nil))))) (.cons (.var 4) .nil)))) .nil))))⟩
/-- turned(form): names 0:form 1:factors 2:strict 3:factor -/
def f_turned : FDef := ⟨1, 4, .cons (.asg (.nms [1, 2]) (.var 0)) (.cons (.ret (.tup (.cons (.blt .tuple (.cons (.comp (.bin .sub (.cst (.int 0)) (.var 3)) (.nm 3) (.ex (.var 1)) (.cst (.bl true))) .nil)) (.cons (.not (.var 2)) .nil)))) .nil)⟩
/-- value_at(factors, point): names 0:factors 1:point 2:factor 3:part -/
def f_value_at : FDef := ⟨2, 4, .cons (.ret (.blt .sum (.cons (.comp (.bin .mul (.var 2) (.var 3)) (.nms [2, 3]) (.zip (.var 0) (.var 1)) (.cst (.bl true))) .nil))) .nil⟩
/-- greatest_divisor(numbers): names 0:numbers 1:found 2:number 3:one 4:other -/
def b1_greatest_divisor : Ss := .cons (.asg (.nms [3, 4]) (.tup (.cons (.var 4) (.cons (.bin .mod (.var 3) (.var 4)) .nil)))) .nil
def b2_greatest_divisor : Ss := .cons (.asg (.nms [3, 4]) (.tup (.cons (.var 1) (.cons (.blt .abs (.cons (.var 2) .nil)) .nil)))) (.cons (.whl (.cmp .gt (.var 4) (.cst (.int 0))) (b1_greatest_divisor)) (.cons (.asg (.nm 1) (.var 3)) .nil))
def f_greatest_divisor : FDef := ⟨1, 5, .cons (.asg (.nm 1) (.cst (.int 0))) (.cons (.for (.nm 2) (.ex (.var 0)) (b2_greatest_divisor)) (.cons (.ret (.var 1)) .nil))⟩
/-- minor(rows, columns): names 0:rows 1:columns 2:a 3:b 4:c 5:one 6:two 7:three 8:found -/
def f_minor : FDef := ⟨2, 9, .cons (.asg (.nms [2, 3, 4]) (.var 1)) (.cons (.asg (.nms [5, 6, 7]) (.var 0)) (.cons (.asg (.nm 8) (.bin .mul (.sub (.var 5) (.var 2)) (.bin .sub (.bin .mul (.sub (.var 6) (.var 3)) (.sub (.var 7) (.var 4))) (.bin .mul (.sub (.var 6) (.var 4)) (.sub (.var 7) (.var 3)))))) (.cons (.asg (.nm 8) (.bin .sub (.var 8) (.bin .mul (.sub (.var 5) (.var 3)) (.bin .sub (.bin .mul (.sub (.var 6) (.var 2)) (.sub (.var 7) (.var 4))) (.bin .mul (.sub (.var 6) (.var 4)) (.sub (.var 7) (.var 2))))))) (.cons (.ret (.bin .add (.var 8) (.bin .mul (.sub (.var 5) (.var 4)) (.bin .sub (.bin .mul (.sub (.var 6) (.var 2)) (.sub (.var 7) (.var 3))) (.bin .mul (.sub (.var 6) (.var 3)) (.sub (.var 7) (.var 2))))))) .nil))))⟩
/-- crossing(rows): names 0:rows 1:point 2:divisor 3:sign 4:part -/
def f_crossing : FDef := ⟨1, 5, .cons (.asg (.nm 1) (.lst (.cons (.call 49 (.cons (.var 0) (.cons (.tup (.cons (.cst (.int 1)) (.cons (.cst (.int 2)) (.cons (.cst (.int 3)) .nil)))) .nil))) (.cons (.bin .sub (.cst (.int 0)) (.call 49 (.cons (.var 0) (.cons (.tup (.cons (.cst (.int 0)) (.cons (.cst (.int 2)) (.cons (.cst (.int 3)) .nil)))) .nil)))) (.cons (.call 49 (.cons (.var 0) (.cons (.tup (.cons (.cst (.int 0)) (.cons (.cst (.int 1)) (.cons (.cst (.int 3)) .nil)))) .nil))) (.cons (.bin .sub (.cst (.int 0)) (.call 49 (.cons (.var 0) (.cons (.tup (.cons (.cst (.int 0)) (.cons (.cst (.int 1)) (.cons (.cst (.int 2)) .nil)))) .nil)))) .nil)))))) (.cons (.asg (.nm 2) (.call 48 (.cons (.var 1) .nil))) (.cons (.iff (.cmp .eq (.sub (.var 1) (.cst (.int 3))) (.cst (.int 0))) (.cons (.ret (.cst (.non))) .nil) (.nil)) (.cons (.asg (.nm 3) (.ite (.cmp .gt (.sub (.var 1) (.cst (.int 3))) (.cst (.int 0))) (.cst (.int 1)) (.neg (.cst (.int 1))))) (.cons (.ret (.blt .tuple (.cons (.comp (.bin .fdiv (.bin .mul (.var 3) (.var 4)) (.var 2)) (.nm 4) (.ex (.var 1)) (.cst (.bl true))) .nil))) .nil))))⟩
-- corners: Dict
/-- case_of(forms): names 0:forms 1:points 2:chosen 3:factors 4:strict 5:good 6:sums 7:divisor 8:point 9:index 10:number -/
def b1_case_of : Ss := .cons (.asg (.nm 5) (.comp (.var 8) (.nm 8) (.ex (.var 1)) (.cmp .gt (.call 47 (.cons (.var 3) (.cons (.var 8) .nil))) (.cst (.int 0))))) (.cons (.iff (.and (.var 4) (.cmp .eq (.var 5) (.lst (.nil)))) (.cons (.ret (.cst (.non))) .nil) (.nil)) (.cons (.iff (.var 4) (.cons (.exp (.mth .append (.var 2) (.cons (.sub (.var 5) (.cst (.int 0))) .nil))) .nil) (.nil)) .nil))
def f_case_of : FDef := ⟨1, 11, .cons (.asg (.nm 1) (.call 51 (.cons (.var 0) .nil))) (.cons (.iff (.cmp .eq (.var 1) (.lst (.nil))) (.cons (.ret (.cst (.non))) .nil) (.nil)) (.cons (.asg (.nm 2) (.lst (.cons (.sub (.var 1) (.cst (.int 0))) .nil))) (.cons (.for (.nms [3, 4]) (.ex (.var 0)) (b1_case_of)) (.cons (.asg (.nm 6) (.comp (.blt .sum (.cons (.comp (.sub (.var 8) (.var 9)) (.nm 8) (.ex (.var 2)) (.cst (.bl true))) .nil)) (.nm 9) (.rng (.cst (.int 0)) (.cst (.int 4))) (.cst (.bl true)))) (.cons (.asg (.nm 7) (.call 48 (.cons (.var 6) .nil))) (.cons (.ret (.blt .tuple (.cons (.comp (.bin .fdiv (.var 10) (.var 7)) (.nm 10) (.ex (.var 6)) (.cst (.bl true))) .nil))) .nil))))))⟩
/-- case_between(rule, other): names 0:rule 1:other 2:forms 3:condition 4:found -/
def b1_case_between : Ss := .cons (.asg (.nm 4) (.call 52 (.cons (.bin .add (.var 2) (.lst (.cons (.call 46 (.cons (.call 45 (.cons (.var 3) .nil)) .nil)) .nil))) .nil))) (.cons (.iff (.cmp .isn (.var 4) (.cst (.non))) (.cons (.ret (.var 4)) .nil) (.nil)) .nil)
def f_case_between : FDef := ⟨2, 5, .cons (.asg (.nm 2) (.bin .add (.blt .list (.cons (.cst (.tup [.tup [.tup [.int 1, .int 0, .int 0, .int 0], .bl false], .tup [.tup [.int 0, .int 1, .int 0, .int 0], .bl false], .tup [.tup [.int 0, .int 0, .int 1, .int 0], .bl false], .tup [.tup [.int (-1), .int (-1), .int (-1), .int 1], .bl false]])) .nil)) (.comp (.call 45 (.cons (.var 3) .nil)) (.nm 3) (.ex (.var 0)) (.cst (.bl true))))) (.cons (.for (.nm 3) (.ex (.var 1)) (b1_case_between)) (.cons (.ret (.cst (.non))) .nil))⟩
/-- telling_case(rule, other): names 0:rule 1:other 2:found -/
def f_telling_case : FDef := ⟨2, 3, .cons (.exp (.call 13 (.cons (.var 0) .nil))) (.cons (.exp (.call 13 (.cons (.var 1) .nil))) (.cons (.asg (.nm 2) (.call 53 (.cons (.var 0) (.cons (.var 1) .nil)))) (.cons (.ret (.ite (.cmp .isn (.var 2) (.cst (.non))) (.tup (.cons (.sub (.var 2) (.cst (.int 3))) (.cons (.sli .upto (.var 2) (.cst (.int 3))) .nil))) (.cst (.non)))) .nil)))⟩
/-- implies_always(rule, other): names 0:rule 1:other -/
def f_implies_always : FDef := ⟨2, 2, .cons (.ret (.cmp .is (.call 54 (.cons (.var 0) (.cons (.var 1) .nil))) (.cst (.non)))) .nil⟩
/-- same_always(rule, other): names 0:rule 1:other -/
def f_same_always : FDef := ⟨2, 2, .cons (.ret (.and (.cmp .is (.call 54 (.cons (.var 0) (.cons (.var 1) .nil))) (.cst (.non))) (.cmp .is (.call 53 (.cons (.var 1) (.cons (.var 0) .nil))) (.cst (.non))))) .nil⟩
/-- needless_always(rule): names 0:rule 1:index -/
def f_needless_always : FDef := ⟨1, 2, .cons (.exp (.call 13 (.cons (.var 0) .nil))) (.cons (.ret (.comp (.var 1) (.nm 1) (.rng (.cst (.int 0)) (.blt .len (.cons (.var 0) .nil))) (.cmp .is (.call 53 (.cons (.call 43 (.cons (.var 0) (.cons (.var 1) .nil))) (.cons (.var 0) .nil))) (.cst (.non))))) .nil)⟩
/-- passing(rule, members): names 0:rule 1:members 2:votes -/
def f_passing : FDef := ⟨2, 3, .cons (.ret (.comp (.var 2) (.nm 2) (.ex (.call 32 (.cons (.var 1) .nil))) (.call 17 (.cons (.var 0) (.cons (.var 1) (.cons (.var 2) .nil)))))) .nil⟩
/-- choose(many, few): names 0:many 1:few 2:found 3:turn -/
def b1_choose : Ss := .cons (.asg (.nm 2) (.bin .fdiv (.bin .mul (.var 2) (.bin .sub (.var 0) (.var 3))) (.bin .add (.var 3) (.cst (.int 1))))) .nil
def f_choose : FDef := ⟨2, 4, .cons (.asg (.nm 2) (.cst (.int 1))) (.cons (.for (.nm 3) (.rng (.cst (.int 0)) (.var 1)) (b1_choose)) (.cons (.ret (.var 2)) .nil))⟩
/-- count_votes(rule, members): names 0:rule 1:members -/
def f_count_votes : FDef := ⟨2, 2, .cons (.exp (.call 13 (.cons (.var 0) .nil))) (.cons (.exp (.call 4 (.cons (.var 1) .nil))) (.cons (.ret (.blt .len (.cons (.call 58 (.cons (.var 0) (.cons (.var 1) .nil))) .nil))) .nil))⟩
/-- count_ballots(rule, members): names 0:rule 1:members 2:found 3:yes 4:no 5:blank -/
def b1_count_ballots : Ss := .cons (.aug 2 (.bin .mul (.bin .mul (.call 59 (.cons (.var 1) (.cons (.var 3) .nil))) (.call 59 (.cons (.bin .sub (.var 1) (.var 3)) (.cons (.var 4) .nil)))) (.call 59 (.cons (.bin .sub (.bin .sub (.var 1) (.var 3)) (.var 4)) (.cons (.var 5) .nil))))) .nil
def f_count_ballots : FDef := ⟨2, 6, .cons (.exp (.call 13 (.cons (.var 0) .nil))) (.cons (.exp (.call 4 (.cons (.var 1) .nil))) (.cons (.asg (.nm 2) (.cst (.int 0))) (.cons (.for (.nms [3, 4, 5]) (.ex (.call 58 (.cons (.var 0) (.cons (.var 1) .nil)))) (b1_count_ballots)) (.cons (.ret (.var 2)) .nil))))⟩
/-- votes_at(rule, members, place): names 0:rule 1:members 2:place 3:found -/
def f_votes_at : FDef := ⟨3, 4, .cons (.exp (.call 13 (.cons (.var 0) .nil))) (.cons (.exp (.call 4 (.cons (.var 1) .nil))) (.cons (.asg (.nm 3) (.call 58 (.cons (.var 0) (.cons (.var 1) .nil)))) (.cons (.iff (.not (.call 0 (.cons (.var 2) (.cons (.cst (.int 0)) (.cons (.bin .sub (.blt .len (.cons (.var 3) .nil)) (.cst (.int 1))) .nil))))) (.cons (.raise 0) .nil) (.nil)) (.cons (.ret (.sub (.var 3) (.var 2))) .nil))))⟩
/-- agrees(seen, votes): names 0:seen 1:votes 2:one 3:other -/
def f_agrees : FDef := ⟨2, 4, .cons (.ret (.blt .all (.cons (.comp (.or (.cmp .is (.var 2) (.cst (.non))) (.cmp .eq (.var 2) (.var 3))) (.nms [2, 3]) (.zip (.var 0) (.var 1)) (.cst (.bl true))) .nil))) .nil⟩
/-- count_seen(rule, members, seen, passed): names 0:rule 1:members 2:seen 3:passed 4:found 5:count 6:votes -/
def f_count_seen : FDef := ⟨4, 7, .cons (.exp (.call 13 (.cons (.var 0) .nil))) (.cons (.exp (.call 4 (.cons (.var 1) .nil))) (.cons (.iff (.or (.not (.blt (.isi .tuple) (.cons (.var 2) .nil))) (.cmp .ne (.blt .len (.cons (.var 2) .nil)) (.cst (.int 3)))) (.cons (.raise 0) .nil) (.nil)) (.cons (.iff (.not (.blt .all (.cons (.comp (.or (.cmp .is (.var 5) (.cst (.non))) (.call 0 (.cons (.var 5) (.cons (.cst (.int 0)) (.cons (.cst (.int 40)) .nil))))) (.nm 5) (.ex (.var 2)) (.cst (.bl true))) .nil))) (.cons (.raise 0) .nil) (.nil)) (.cons (.iff (.not (.blt (.isi .bool) (.cons (.var 3) .nil))) (.cons (.raise 0) .nil) (.nil)) (.cons (.asg (.nm 4) (.comp (.var 6) (.nm 6) (.ex (.call 32 (.cons (.var 1) .nil))) (.call 63 (.cons (.var 2) (.cons (.var 6) .nil))))) (.cons (.ret (.blt .len (.cons (.comp (.var 6) (.nm 6) (.ex (.var 4)) (.cmp .eq (.call 17 (.cons (.var 0) (.cons (.var 1) (.cons (.var 6) .nil)))) (.var 3))) .nil))) .nil))))))⟩
/-- changes(members, votes, other): names 0:members 1:votes 2:other 3:found 4:one 5:two -/
def b1_changes : Ss := .cons (.asg (.nm 3) (.bin .add (.var 3) (.blt .max (.cons (.cst (.int 0)) (.cons (.bin .sub (.var 4) (.var 5)) .nil))))) .nil
def f_changes : FDef := ⟨3, 6, .cons (.asg (.nm 3) (.blt .max (.cons (.cst (.int 0)) (.cons (.bin .sub (.blt .sum (.cons (.var 2) .nil)) (.blt .sum (.cons (.var 1) .nil))) .nil)))) (.cons (.for (.nms [4, 5]) (.zip (.var 1) (.var 2)) (b1_changes)) (.cons (.ret (.var 3)) .nil))⟩
/-- fewest_changes(rule, members, votes): names 0:rule 1:members 2:votes 3:found 4:passed 5:other 6:many -/
def b1_fewest_changes : Ss := .cons (.iff (.cmp .ne (.call 17 (.cons (.var 0) (.cons (.var 1) (.cons (.var 5) .nil)))) (.var 4)) (.cons (.asg (.nm 6) (.call 65 (.cons (.var 1) (.cons (.var 2) (.cons (.var 5) .nil))))) (.cons (.asg (.nm 3) (.ite (.cmp .is (.var 3) (.cst (.non))) (.var 6) (.blt .min (.cons (.var 3) (.cons (.var 6) .nil))))) .nil)) (.nil)) .nil
def f_fewest_changes : FDef := ⟨3, 7, .cons (.exp (.call 13 (.cons (.var 0) .nil))) (.cons (.exp (.call 4 (.cons (.var 1) .nil))) (.cons (.exp (.call 14 (.cons (.var 1) (.cons (.var 2) .nil)))) (.cons (.asg (.nms [3, 4]) (.tup (.cons (.cst (.non)) (.cons (.call 17 (.cons (.var 0) (.cons (.var 1) (.cons (.var 2) .nil)))) .nil)))) (.cons (.for (.nm 5) (.ex (.call 32 (.cons (.var 1) .nil))) (b1_fewest_changes)) (.cons (.ret (.var 3)) .nil)))))⟩
/-- is_results(members, value): names 0:members 1:value 2:pair -/
def b1_is_results : Ss := .cons (.iff (.or (.not (.blt (.isi .tuple) (.cons (.var 2) .nil))) (.or (.cmp .ne (.blt .len (.cons (.var 2) .nil)) (.cst (.int 2))) (.not (.blt (.isi .bool) (.cons (.sub (.var 2) (.cst (.int 1))) .nil))))) (.cons (.ret (.cst (.bl false))) .nil) (.nil)) (.cons (.iff (.not (.call 3 (.cons (.var 0) (.cons (.sub (.var 2) (.cst (.int 0))) .nil)))) (.cons (.ret (.cst (.bl false))) .nil) (.nil)) .nil)
def f_is_results : FDef := ⟨2, 3, .cons (.iff (.or (.not (.blt (.isi .tuple) (.cons (.var 1) .nil))) (.cmp .gt (.blt .len (.cons (.var 1) .nil)) (.cst (.int 20)))) (.cons (.ret (.cst (.bl false))) .nil) (.nil)) (.cons (.for (.nm 2) (.ex (.var 1)) (b1_is_results)) (.cons (.ret (.cst (.bl true))) .nil))⟩
/-- possible_tops(kind, bottom, more, members, results): names 0:kind 1:bottom 2:more 3:members 4:results 5:found 6:top 7:rule 8:votes 9:passed -/
def b1_possible_tops : Ss := .cons (.asg (.nm 7) (.tup (.cons (.tup (.cons (.var 0) (.cons (.var 6) (.cons (.var 1) (.cons (.var 2) .nil))))) .nil))) (.cons (.iff (.blt .all (.cons (.comp (.cmp .eq (.call 17 (.cons (.var 7) (.cons (.var 3) (.cons (.var 8) .nil)))) (.var 9)) (.nms [8, 9]) (.ex (.var 4)) (.cst (.bl true))) .nil)) (.cons (.exp (.mth .append (.var 5) (.cons (.var 6) .nil))) .nil) (.nil)) .nil)
def f_possible_tops : FDef := ⟨5, 10, .cons (.iff (.or (.not (.blt (.isi .str) (.cons (.var 0) .nil))) (.cmp .nmem (.var 0) (.cst (.tup [.str "cast", .str "present", .str "all", .str "turnout"])))) (.cons (.raise 0) .nil) (.nil)) (.cons (.iff (.not (.call 0 (.cons (.var 1) (.cons (.cst (.int 1)) (.cons (.cst (.int 20)) .nil))))) (.cons (.raise 0) .nil) (.nil)) (.cons (.iff (.not (.blt (.isi .bool) (.cons (.var 2) .nil))) (.cons (.raise 0) .nil) (.nil)) (.cons (.exp (.call 4 (.cons (.var 3) .nil))) (.cons (.iff (.not (.call 67 (.cons (.var 3) (.cons (.var 4) .nil)))) (.cons (.raise 0) .nil) (.nil)) (.cons (.asg (.nm 5) (.lst (.nil))) (.cons (.for (.nm 6) (.rng (.cst (.int 0)) (.bin .add (.var 1) (.cst (.int 1)))) (b1_possible_tops)) (.cons (.ret (.ite (.cmp .ne (.var 5) (.lst (.nil))) (.tup (.cons (.sub (.var 5) (.cst (.int 0))) (.cons (.sub (.var 5) (.neg (.cst (.int 1)))) .nil))) (.cst (.non)))) .nil)))))))⟩
/-- _wall(k): names 0:k -/
def b1_wall : Ss := .cons (.pass) .nil
def f_wall : FDef := ⟨1, 1, .cons (.whl (.cst (.bl true)) (b1_wall)) .nil⟩
/-- need_game(rule, sizes, rest): names 0:rule 1:sizes 2:rest 3:size -/
def f_need_game : FDef := ⟨3, 4, .cons (.exp (.call 13 (.cons (.var 0) .nil))) (.cons (.iff (.or (.not (.blt (.isi .tuple) (.cons (.var 1) .nil))) (.not (.chn .le .le (.cst (.int 1)) (.blt .len (.cons (.var 1) .nil)) (.cst (.int 7))))) (.cons (.raise 0) .nil) (.nil)) (.cons (.iff (.or (.not (.blt .all (.cons (.comp (.call 0 (.cons (.var 3) (.cons (.cst (.int 1)) (.cons (.cst (.int 40)) .nil)))) (.nm 3) (.ex (.var 1)) (.cst (.bl true))) .nil))) (.cmp .gt (.blt .sum (.cons (.var 1) .nil)) (.cst (.int 40)))) (.cons (.raise 0) .nil) (.nil)) (.cons (.iff (.or (.not (.blt (.isi .str) (.cons (.var 2) .nil))) (.cmp .nmem (.var 2) (.cst (.tup [.str "no", .str "blank", .str "away"])))) (.cons (.raise 0) .nil) (.nil)) .nil)))⟩
/-- does_win(rule, sizes, rest, coalition): names 0:rule 1:sizes 2:rest 3:coalition 4:yes 5:left 6:votes 7:index -/
def f_does_win : FDef := ⟨4, 8, .cons (.asg (.nm 4) (.blt .sum (.cons (.comp (.sub (.var 1) (.var 7)) (.nm 7) (.ex (.var 3)) (.cst (.bl true))) .nil))) (.cons (.asg (.nm 5) (.bin .sub (.blt .sum (.cons (.var 1) .nil)) (.var 4))) (.cons (.asg (.nm 6) (.tup (.cons (.var 4) (.cons (.ite (.cmp .eq (.var 2) (.cst (.str "no"))) (.var 5) (.cst (.int 0))) (.cons (.ite (.cmp .eq (.var 2) (.cst (.str "blank"))) (.var 5) (.cst (.int 0))) .nil))))) (.cons (.ret (.call 17 (.cons (.var 0) (.cons (.blt .sum (.cons (.var 1) .nil)) (.cons (.var 6) .nil))))) .nil)))⟩
/-- wins(rule, sizes, rest, coalition): names 0:rule 1:sizes 2:rest 3:coalition 4:index 5:one 6:other -/
def f_wins : FDef := ⟨4, 7, .cons (.exp (.call 70 (.cons (.var 0) (.cons (.var 1) (.cons (.var 2) .nil))))) (.cons (.iff (.or (.not (.blt (.isi .tuple) (.cons (.var 3) .nil))) (.not (.blt .all (.cons (.comp (.call 0 (.cons (.var 4) (.cons (.cst (.int 0)) (.cons (.bin .sub (.blt .len (.cons (.var 1) .nil)) (.cst (.int 1))) .nil)))) (.nm 4) (.ex (.var 3)) (.cst (.bl true))) .nil)))) (.cons (.raise 0) .nil) (.nil)) (.cons (.iff (.not (.blt .all (.cons (.comp (.cmp .lt (.var 5) (.var 6)) (.nms [5, 6]) (.zip (.var 3) (.sli .frm (.var 3) (.cst (.int 1)))) (.cst (.bl true))) .nil))) (.cons (.raise 0) .nil) (.nil)) (.cons (.ret (.call 71 (.cons (.var 0) (.cons (.var 1) (.cons (.var 2) (.cons (.var 3) .nil)))))) .nil)))⟩
/-- _law_groups(source, most, wide): names 0:source 1:most 2:wide 3:found 4:group_so -/
def b1_law_groups : Ss := .cons (.asg (.nm 3) (.bin .add (.var 3) (.tup (.cons (.bin .add (.cst (.int 1)) (.call 7 (.cons (.var 0) (.cons (.var 2) .nil)))) .nil)))) .nil
def f_law_groups : FDef := ⟨3, 5, .cons (.asg (.nm 3) (.tup (.nil))) (.cons (.for (.nm 4) (.rng (.cst (.int 0)) (.bin .add (.cst (.int 1)) (.call 7 (.cons (.var 0) (.cons (.var 1) .nil))))) (b1_law_groups)) (.cons (.ret (.var 3)) .nil))⟩
/-- _law_coalitions(many): names 0:many 1:found 2:index 3:one -/
def b1_law_coalitions : Ss := .cons (.asg (.nm 1) (.bin .add (.var 1) (.comp (.bin .add (.var 3) (.tup (.cons (.var 2) .nil))) (.nm 3) (.ex (.var 1)) (.cst (.bl true))))) .nil
def f_law_coalitions : FDef := ⟨1, 4, .cons (.asg (.nm 1) (.lst (.cons (.tup (.nil)) .nil))) (.cons (.for (.nm 2) (.rng (.cst (.int 0)) (.var 0)) (b1_law_coalitions)) (.cons (.ret (.blt .sorted (.cons (.var 1) .nil))) .nil))⟩
/-- _law_yes(rule, groups, others, some): names 0:rule 1:groups 2:others 3:some 4:yes 5:members 6:left 7:index -/
def f_law_yes : FDef := ⟨4, 8, .cons (.asg (.nms [4, 5]) (.tup (.cons (.blt .sum (.cons (.comp (.sub (.var 1) (.var 7)) (.nm 7) (.ex (.var 3)) (.cst (.bl true))) .nil)) (.cons (.blt .sum (.cons (.var 1) .nil)) .nil)))) (.cons (.asg (.nm 6) (.bin .sub (.var 5) (.var 4))) (.cons (.ret (.call 26 (.cons (.var 0) (.cons (.var 5) (.cons (.tup (.cons (.var 4) (.cons (.bin .mul (.var 6) (.blt .int (.cons (.cmp .eq (.var 2) (.cst (.str "no"))) .nil))) (.cons (.bin .mul (.var 6) (.blt .int (.cons (.cmp .eq (.var 2) (.cst (.str "blank"))) .nil))) .nil)))) .nil))))) .nil))⟩
/-- all_coalitions(sizes): names 0:sizes 1:found 2:index 3:coalition -/
def b1_all_coalitions : Ss := .cons (.asg (.nm 1) (.bin .add (.var 1) (.comp (.bin .add (.var 3) (.tup (.cons (.var 2) .nil))) (.nm 3) (.ex (.var 1)) (.cst (.bl true))))) .nil
def f_all_coalitions : FDef := ⟨1, 4, .cons (.asg (.nm 1) (.lst (.cons (.tup (.nil)) .nil))) (.cons (.for (.nm 2) (.rng (.cst (.int 0)) (.blt .len (.cons (.var 0) .nil))) (b1_all_coalitions)) (.cons (.ret (.blt .sorted (.cons (.var 1) .nil))) .nil))⟩
/-- winning(rule, sizes, rest): names 0:rule 1:sizes 2:rest 3:coalition -/
def f_winning : FDef := ⟨3, 4, .cons (.ret (.comp (.var 3) (.nm 3) (.ex (.call 76 (.cons (.var 1) .nil))) (.call 71 (.cons (.var 0) (.cons (.var 1) (.cons (.var 2) (.cons (.var 3) .nil))))))) .nil⟩
/-- without(coalition, index): names 0:coalition 1:index 2:other -/
def f_without_blocs : FDef := ⟨2, 3, .cons (.ret (.blt .tuple (.cons (.comp (.var 2) (.nm 2) (.ex (.var 0)) (.cmp .ne (.var 2) (.var 1))) .nil))) .nil⟩
/-- least_coalitions(rule, sizes, rest): names 0:rule 1:sizes 2:rest 3:some 4:coalition 5:index -/
def f_least_coalitions : FDef := ⟨3, 6, .cons (.exp (.call 70 (.cons (.var 0) (.cons (.var 1) (.cons (.var 2) .nil))))) (.cons (.asg (.nm 3) (.call 77 (.cons (.var 0) (.cons (.var 1) (.cons (.var 2) .nil))))) (.cons (.ret (.comp (.var 4) (.nm 4) (.ex (.var 3)) (.not (.blt .any (.cons (.comp (.cmp .mem (.call 78 (.cons (.var 4) (.cons (.var 5) .nil))) (.var 3)) (.nm 5) (.ex (.var 4)) (.cst (.bl true))) .nil))))) .nil))⟩
/-- _law_won(rule, groups, others): names 0:rule 1:groups 2:others 3:some -/
def f_law_won : FDef := ⟨3, 4, .cons (.ret (.comp (.var 3) (.nm 3) (.ex (.call 74 (.cons (.blt .len (.cons (.var 1) .nil)) .nil))) (.call 75 (.cons (.var 0) (.cons (.var 1) (.cons (.var 2) (.cons (.var 3) .nil))))))) .nil⟩
/-- _law_less(some, index): names 0:some 1:index 2:one -/
def f_law_less : FDef := ⟨2, 3, .cons (.ret (.blt .tuple (.cons (.comp (.var 2) (.nm 2) (.ex (.var 0)) (.cmp .ne (.var 2) (.var 1))) .nil))) .nil⟩
/-- swings_of(rule, sizes, rest, index): names 0:rule 1:sizes 2:rest 3:index 4:some 5:coalition -/
def f_swings_of : FDef := ⟨4, 6, .cons (.asg (.nm 4) (.call 77 (.cons (.var 0) (.cons (.var 1) (.cons (.var 2) .nil))))) (.cons (.ret (.comp (.blt .len (.cons (.var 5) .nil)) (.nm 5) (.ex (.var 4)) (.and (.cmp .mem (.var 3) (.var 5)) (.cmp .nmem (.call 78 (.cons (.var 5) (.cons (.var 3) .nil))) (.var 4))))) .nil)⟩
/-- swings(rule, sizes, rest): names 0:rule 1:sizes 2:rest 3:index -/
def f_swings : FDef := ⟨3, 4, .cons (.exp (.call 70 (.cons (.var 0) (.cons (.var 1) (.cons (.var 2) .nil))))) (.cons (.ret (.comp (.blt .len (.cons (.call 82 (.cons (.var 0) (.cons (.var 1) (.cons (.var 2) (.cons (.var 3) .nil))))) .nil)) (.nm 3) (.rng (.cst (.int 0)) (.blt .len (.cons (.var 1) .nil))) (.cst (.bl true)))) .nil)⟩
/-- vetoes(rule, sizes, rest): names 0:rule 1:sizes 2:rest 3:every 4:index -/
def f_vetoes : FDef := ⟨3, 5, .cons (.exp (.call 70 (.cons (.var 0) (.cons (.var 1) (.cons (.var 2) .nil))))) (.cons (.asg (.nm 3) (.rgl true (.cst (.int 0)) (.blt .len (.cons (.var 1) .nil)))) (.cons (.ret (.comp (.var 4) (.nm 4) (.ex (.var 3)) (.not (.call 71 (.cons (.var 0) (.cons (.var 1) (.cons (.var 2) (.cons (.call 78 (.cons (.var 3) (.cons (.var 4) .nil))) .nil)))))))) .nil))⟩
/-- factorial(number): names 0:number 1:found 2:factor -/
def b1_factorial : Ss := .cons (.asg (.nm 1) (.bin .mul (.var 1) (.var 2))) .nil
def f_factorial : FDef := ⟨1, 3, .cons (.asg (.nm 1) (.cst (.int 1))) (.cons (.for (.nm 2) (.rng (.cst (.int 1)) (.bin .add (.var 0) (.cst (.int 1)))) (b1_factorial)) (.cons (.ret (.var 1)) .nil))⟩
/-- turn_shares(rule, sizes, rest): names 0:rule 1:sizes 2:rest 3:found 4:many 5:index 6:top 7:size 8:one 9:other -/
def b1_turn_shares : Ss := .cons (.asg (.nm 6) (.bin .add (.var 6) (.bin .mul (.call 85 (.cons (.bin .sub (.var 7) (.cst (.int 1))) .nil)) (.call 85 (.cons (.bin .sub (.var 4) (.var 7)) .nil))))) .nil
def b2_turn_shares : Ss := .cons (.asg (.nms [8, 9]) (.tup (.cons (.var 9) (.cons (.bin .mod (.var 8) (.var 9)) .nil)))) .nil
def b3_turn_shares : Ss := .cons (.asg (.nm 6) (.cst (.int 0))) (.cons (.for (.nm 7) (.ex (.call 82 (.cons (.var 0) (.cons (.var 1) (.cons (.var 2) (.cons (.var 5) .nil)))))) (b1_turn_shares)) (.cons (.asg (.nms [8, 9]) (.tup (.cons (.var 6) (.cons (.call 85 (.cons (.var 4) .nil)) .nil)))) (.cons (.whl (.cmp .gt (.var 9) (.cst (.int 0))) (b2_turn_shares)) (.cons (.exp (.mth .append (.var 3) (.cons (.tup (.cons (.bin .fdiv (.var 6) (.var 8)) (.cons (.bin .fdiv (.call 85 (.cons (.var 4) .nil)) (.var 8)) .nil))) .nil))) .nil))))
def f_turn_shares : FDef := ⟨3, 10, .cons (.exp (.call 70 (.cons (.var 0) (.cons (.var 1) (.cons (.var 2) .nil))))) (.cons (.asg (.nms [3, 4]) (.tup (.cons (.lst (.nil)) (.cons (.blt .len (.cons (.var 1) .nil)) .nil)))) (.cons (.for (.nm 5) (.rng (.cst (.int 0)) (.var 4)) (b3_turn_shares)) (.cons (.ret (.var 3)) .nil)))⟩
/-- fewest_groups(rule, sizes, rest): names 0:rule 1:sizes 2:rest 3:some 4:coalition -/
def f_fewest_groups : FDef := ⟨3, 5, .cons (.exp (.call 70 (.cons (.var 0) (.cons (.var 1) (.cons (.var 2) .nil))))) (.cons (.asg (.nm 3) (.call 77 (.cons (.var 0) (.cons (.var 1) (.cons (.var 2) .nil))))) (.cons (.ret (.ite (.cmp .ne (.var 3) (.lst (.nil))) (.sub (.blt .min (.cons (.comp (.tup (.cons (.blt .len (.cons (.var 4) .nil)) (.cons (.var 4) .nil))) (.nm 4) (.ex (.var 3)) (.cst (.bl true))) .nil)) (.cst (.int 1))) (.cst (.non)))) .nil))⟩
/-- cheapest(rule, sizes, rest, costs): names 0:rule 1:sizes 2:rest 3:costs 4:rows 5:coalition 6:cost 7:index -/
def b1_cheapest : Ss := .cons (.exp (.mth .append (.var 4) (.cons (.tup (.cons (.blt .sum (.cons (.comp (.sub (.var 3) (.var 7)) (.nm 7) (.ex (.var 5)) (.cst (.bl true))) .nil)) (.cons (.var 5) .nil))) .nil))) .nil
def f_cheapest : FDef := ⟨4, 8, .cons (.exp (.call 70 (.cons (.var 0) (.cons (.var 1) (.cons (.var 2) .nil))))) (.cons (.iff (.or (.not (.blt (.isi .tuple) (.cons (.var 3) .nil))) (.cmp .ne (.blt .len (.cons (.var 3) .nil)) (.blt .len (.cons (.var 1) .nil)))) (.cons (.raise 0) .nil) (.nil)) (.cons (.iff (.not (.blt .all (.cons (.comp (.call 0 (.cons (.var 6) (.cons (.cst (.int 0)) (.cons (.cst (.int 1000)) .nil)))) (.nm 6) (.ex (.var 3)) (.cst (.bl true))) .nil))) (.cons (.raise 0) .nil) (.nil)) (.cons (.asg (.nm 4) (.lst (.nil))) (.cons (.for (.nm 5) (.ex (.call 77 (.cons (.var 0) (.cons (.var 1) (.cons (.var 2) .nil))))) (b1_cheapest)) (.cons (.ret (.ite (.cmp .ne (.var 4) (.lst (.nil))) (.blt .min (.cons (.var 4) .nil)) (.cst (.non)))) .nil)))))⟩
def base : List (Option FDef) := [some f_is_between, some f_is_condition, some f_is_rule, some f_is_votes_of, some f_need_members, some f_is_votes, some f_law_source, some f_law_draw, some f_law_choice, some f_law_is_between, some f_law_condition, some f_law_rule, some f_law_votes, some f_need_rule, some f_need_votes, some f_part_and_whole, some f_holds, some f_is_passed, some f_passes, some f_failed, some f_law_holds, some f_need_numbers, some f_ends_of, some f_no_range, some f_blank_range, some f_fewest_yes, some f_law_passes, some f_defeat_of, some f_passes_surely, some f_can_pass, some f_defeat, some f_fewest_sure, some f_all_votes, some f_helped, some f_helpful_no, some f_is_fair, some f_no_numbers, some f_law_all, some f_told_by, some f_telling_votes, some f_implies, some f_same, some f_law_similar, some f_without_compare, some f_needless, some f_form_of, some f_turned, some f_value_at, some f_greatest_divisor, some f_minor, some f_crossing, none, some f_case_of, some f_case_between, some f_telling_case, some f_implies_always, some f_same_always, some f_needless_always, some f_passing, some f_choose, some f_count_votes, some f_count_ballots, some f_votes_at, some f_agrees, some f_count_seen, some f_changes, some f_fewest_changes, some f_is_results, some f_possible_tops, some f_wall, some f_need_game, some f_does_win, some f_wins, some f_law_groups, some f_law_coalitions, some f_law_yes, some f_all_coalitions, some f_winning, some f_without_blocs, some f_least_coalitions, some f_law_won, some f_law_less, some f_swings_of, some f_swings, some f_vetoes, some f_factorial, some f_turn_shares, some f_fewest_groups, some f_cheapest]
def lib (X : Nat → Option FDef) (n : Nat) : Option FDef := match Nat.blt n 1000 with
  | true => (base[n]?).join
  | false => X n
theorem lib_is_between {X : Nat → Option FDef} : lib X 0 = some f_is_between := rfl
theorem lib_is_condition {X : Nat → Option FDef} : lib X 1 = some f_is_condition := rfl
theorem lib_is_rule {X : Nat → Option FDef} : lib X 2 = some f_is_rule := rfl
theorem lib_is_votes_of {X : Nat → Option FDef} : lib X 3 = some f_is_votes_of := rfl
theorem lib_need_members {X : Nat → Option FDef} : lib X 4 = some f_need_members := rfl
theorem lib_is_votes {X : Nat → Option FDef} : lib X 5 = some f_is_votes := rfl
theorem lib_law_source {X : Nat → Option FDef} : lib X 6 = some f_law_source := rfl
theorem lib_law_draw {X : Nat → Option FDef} : lib X 7 = some f_law_draw := rfl
theorem lib_law_choice {X : Nat → Option FDef} : lib X 8 = some f_law_choice := rfl
theorem lib_law_is_between {X : Nat → Option FDef} : lib X 9 = some f_law_is_between := rfl
theorem lib_law_condition {X : Nat → Option FDef} : lib X 10 = some f_law_condition := rfl
theorem lib_law_rule {X : Nat → Option FDef} : lib X 11 = some f_law_rule := rfl
theorem lib_law_votes {X : Nat → Option FDef} : lib X 12 = some f_law_votes := rfl
theorem lib_need_rule {X : Nat → Option FDef} : lib X 13 = some f_need_rule := rfl
theorem lib_need_votes {X : Nat → Option FDef} : lib X 14 = some f_need_votes := rfl
theorem lib_part_and_whole {X : Nat → Option FDef} : lib X 15 = some f_part_and_whole := rfl
theorem lib_holds {X : Nat → Option FDef} : lib X 16 = some f_holds := rfl
theorem lib_is_passed {X : Nat → Option FDef} : lib X 17 = some f_is_passed := rfl
theorem lib_passes {X : Nat → Option FDef} : lib X 18 = some f_passes := rfl
theorem lib_failed {X : Nat → Option FDef} : lib X 19 = some f_failed := rfl
theorem lib_law_holds {X : Nat → Option FDef} : lib X 20 = some f_law_holds := rfl
theorem lib_need_numbers {X : Nat → Option FDef} : lib X 21 = some f_need_numbers := rfl
theorem lib_ends_of {X : Nat → Option FDef} : lib X 22 = some f_ends_of := rfl
theorem lib_no_range {X : Nat → Option FDef} : lib X 23 = some f_no_range := rfl
theorem lib_blank_range {X : Nat → Option FDef} : lib X 24 = some f_blank_range := rfl
theorem lib_fewest_yes {X : Nat → Option FDef} : lib X 25 = some f_fewest_yes := rfl
theorem lib_law_passes {X : Nat → Option FDef} : lib X 26 = some f_law_passes := rfl
theorem lib_defeat_of {X : Nat → Option FDef} : lib X 27 = some f_defeat_of := rfl
theorem lib_passes_surely {X : Nat → Option FDef} : lib X 28 = some f_passes_surely := rfl
theorem lib_can_pass {X : Nat → Option FDef} : lib X 29 = some f_can_pass := rfl
theorem lib_defeat {X : Nat → Option FDef} : lib X 30 = some f_defeat := rfl
theorem lib_fewest_sure {X : Nat → Option FDef} : lib X 31 = some f_fewest_sure := rfl
theorem lib_all_votes {X : Nat → Option FDef} : lib X 32 = some f_all_votes := rfl
theorem lib_helped {X : Nat → Option FDef} : lib X 33 = some f_helped := rfl
theorem lib_helpful_no {X : Nat → Option FDef} : lib X 34 = some f_helpful_no := rfl
theorem lib_is_fair {X : Nat → Option FDef} : lib X 35 = some f_is_fair := rfl
theorem lib_no_numbers {X : Nat → Option FDef} : lib X 36 = some f_no_numbers := rfl
theorem lib_law_all {X : Nat → Option FDef} : lib X 37 = some f_law_all := rfl
theorem lib_told_by {X : Nat → Option FDef} : lib X 38 = some f_told_by := rfl
theorem lib_telling_votes {X : Nat → Option FDef} : lib X 39 = some f_telling_votes := rfl
theorem lib_implies {X : Nat → Option FDef} : lib X 40 = some f_implies := rfl
theorem lib_same {X : Nat → Option FDef} : lib X 41 = some f_same := rfl
theorem lib_law_similar {X : Nat → Option FDef} : lib X 42 = some f_law_similar := rfl
theorem lib_without_compare {X : Nat → Option FDef} : lib X 43 = some f_without_compare := rfl
theorem lib_needless {X : Nat → Option FDef} : lib X 44 = some f_needless := rfl
theorem lib_form_of {X : Nat → Option FDef} : lib X 45 = some f_form_of := rfl
theorem lib_turned {X : Nat → Option FDef} : lib X 46 = some f_turned := rfl
theorem lib_value_at {X : Nat → Option FDef} : lib X 47 = some f_value_at := rfl
theorem lib_greatest_divisor {X : Nat → Option FDef} : lib X 48 = some f_greatest_divisor := rfl
theorem lib_minor {X : Nat → Option FDef} : lib X 49 = some f_minor := rfl
theorem lib_crossing {X : Nat → Option FDef} : lib X 50 = some f_crossing := rfl
theorem lib_case_of {X : Nat → Option FDef} : lib X 52 = some f_case_of := rfl
theorem lib_case_between {X : Nat → Option FDef} : lib X 53 = some f_case_between := rfl
theorem lib_telling_case {X : Nat → Option FDef} : lib X 54 = some f_telling_case := rfl
theorem lib_implies_always {X : Nat → Option FDef} : lib X 55 = some f_implies_always := rfl
theorem lib_same_always {X : Nat → Option FDef} : lib X 56 = some f_same_always := rfl
theorem lib_needless_always {X : Nat → Option FDef} : lib X 57 = some f_needless_always := rfl
theorem lib_passing {X : Nat → Option FDef} : lib X 58 = some f_passing := rfl
theorem lib_choose {X : Nat → Option FDef} : lib X 59 = some f_choose := rfl
theorem lib_count_votes {X : Nat → Option FDef} : lib X 60 = some f_count_votes := rfl
theorem lib_count_ballots {X : Nat → Option FDef} : lib X 61 = some f_count_ballots := rfl
theorem lib_votes_at {X : Nat → Option FDef} : lib X 62 = some f_votes_at := rfl
theorem lib_agrees {X : Nat → Option FDef} : lib X 63 = some f_agrees := rfl
theorem lib_count_seen {X : Nat → Option FDef} : lib X 64 = some f_count_seen := rfl
theorem lib_changes {X : Nat → Option FDef} : lib X 65 = some f_changes := rfl
theorem lib_fewest_changes {X : Nat → Option FDef} : lib X 66 = some f_fewest_changes := rfl
theorem lib_is_results {X : Nat → Option FDef} : lib X 67 = some f_is_results := rfl
theorem lib_possible_tops {X : Nat → Option FDef} : lib X 68 = some f_possible_tops := rfl
theorem lib_wall {X : Nat → Option FDef} : lib X 69 = some f_wall := rfl
theorem lib_need_game {X : Nat → Option FDef} : lib X 70 = some f_need_game := rfl
theorem lib_does_win {X : Nat → Option FDef} : lib X 71 = some f_does_win := rfl
theorem lib_wins {X : Nat → Option FDef} : lib X 72 = some f_wins := rfl
theorem lib_law_groups {X : Nat → Option FDef} : lib X 73 = some f_law_groups := rfl
theorem lib_law_coalitions {X : Nat → Option FDef} : lib X 74 = some f_law_coalitions := rfl
theorem lib_law_yes {X : Nat → Option FDef} : lib X 75 = some f_law_yes := rfl
theorem lib_all_coalitions {X : Nat → Option FDef} : lib X 76 = some f_all_coalitions := rfl
theorem lib_winning {X : Nat → Option FDef} : lib X 77 = some f_winning := rfl
theorem lib_without_blocs {X : Nat → Option FDef} : lib X 78 = some f_without_blocs := rfl
theorem lib_least_coalitions {X : Nat → Option FDef} : lib X 79 = some f_least_coalitions := rfl
theorem lib_law_won {X : Nat → Option FDef} : lib X 80 = some f_law_won := rfl
theorem lib_law_less {X : Nat → Option FDef} : lib X 81 = some f_law_less := rfl
theorem lib_swings_of {X : Nat → Option FDef} : lib X 82 = some f_swings_of := rfl
theorem lib_swings {X : Nat → Option FDef} : lib X 83 = some f_swings := rfl
theorem lib_vetoes {X : Nat → Option FDef} : lib X 84 = some f_vetoes := rfl
theorem lib_factorial {X : Nat → Option FDef} : lib X 85 = some f_factorial := rfl
theorem lib_turn_shares {X : Nat → Option FDef} : lib X 86 = some f_turn_shares := rfl
theorem lib_fewest_groups {X : Nat → Option FDef} : lib X 87 = some f_fewest_groups := rfl
theorem lib_cheapest {X : Nat → Option FDef} : lib X 88 = some f_cheapest := rfl
end QR

set_option Elab.async false
set_option linter.all false
set_option maxRecDepth 100000
set_option maxHeartbeats 1000000
/-! QSort: rows of ints sorted, the empty row first among them. -/
namespace QR
open PySem PySem.Spec PyProof.Rows L2 SeqAt Ob SrtO
section
variable {prog : Program} {w : World} {A : Around} {E : Value → Shared → Prop} {s : Shared}
theorem oneLt_rows {l b : Addr} {items items2 : Array Value} {e r : Nat → Bool} {Q : Bool → Shared → Prop} (hl : s.heap.IsTuple l items) (hb : s.heap.IsTuple b items2) (hu : A.units < cLine)
    (he : ∀ j (h1 : j < items.size) (h2 : j < items2.size), EqAt A.in1 s items[j] items2[j] (e j))
    (hr : ∀ j (h1 : j < items.size) (h2 : j < items2.size), e j = false → Ob.RcOp .Lt A.in1 s items[j] items2[j] (r j))
    (h : Q (Ob.lexAt e r (decide (items.size < items2.size)) 0 (min items.size items2.size)) s) : wpAny (model prog w) A (keyLt' oneType' (.ref l) (.ref b)) Q E s := by
  rw [keyLt'_oneType, oneLt'_eq]
  simp only [if_true]
  obtain ⟨⟨cls, dd, data, sl⟩, ho, hc, n, hd⟩ := id hl
  obtain ⟨⟨cls2, dd2, data2, sl2⟩, ho2, hc2, n2, hd2⟩ := id hb
  simp only at hc hd hc2 hd2
  subst hc hd hc2 hd2
  refine wpAny_bind (wpAny_cRoomFor hu ?_)
  refine wpAny_bind (wpAny_callSpecialIfBound?_slot ⟨_, ho, rfl⟩ F.slot_tuple_lt (call_meets F.slot_tuple_lt ⟨_, ho, rfl⟩ F.entry_tuple_lt (F.args_tuple_lt_2 _ _) (Ob.tuple_ltAt l b items items2 n n2 dd dd2 sl sl2 e r) ⟨ho, ho2, ?_, ?_, ?_⟩))
  · exact he
  · exact hr
  · exact wpAny_truthy_bool h
/-- a row of ints -/
def rowLt : List Int → List Int → Bool
  | [], [] => false
  | [], _ :: _ => true
  | _ :: _, [] => false
  | x :: xs, y :: ys => if x = y then rowLt xs ys else decide (x < y)
theorem lexAt_row : ∀ (xs ys pre pre2 : List Int), pre.length = pre2.length → Ob.lexAt (fun j => decide ((pre ++ xs)[j]? = (pre2 ++ ys)[j]?)) (fun j => match (pre ++ xs)[j]?, (pre2 ++ ys)[j]? with
    | some a, some b => decide (a < b)
    | _, _ => false) (decide ((pre ++ xs).length < (pre2 ++ ys).length)) pre.length (min xs.length ys.length) = rowLt xs ys
  | [], [], pre, pre2, h => by simp [lexAt_zero, rowLt, h]
  | [], y :: ys, pre, pre2, h => by simp [lexAt_zero, rowLt, h]
  | x :: xs, [], pre, pre2, h => by simp [lexAt_zero, rowLt, h]
  | x :: xs, y :: ys, pre, pre2, h => by
    have e1 : (pre ++ x :: xs)[pre.length]? = some x := by simp
    have e2 : (pre2 ++ y :: ys)[pre.length]? = some y := by rw [h]; simp
    have em : min (x :: xs).length (y :: ys).length = min xs.length ys.length + 1 := by simp only [List.length_cons]; omega
    rw [em, lexAt_succ]
    simp only [e1, e2, Option.some.injEq, decide_eq_true_eq]
    unfold rowLt
    by_cases hxy : x = y
    · rw [if_pos hxy, if_pos hxy]
      have ih := lexAt_row xs ys (pre ++ [x]) (pre2 ++ [y]) (by simp [h])
      simpa using ih
    · rw [if_neg hxy, if_neg hxy]
/-- tuples, with their first items where they have any -/
def TupsO (h : Heap) : List Value → List (Option Value) → Prop
  | [], [] => True
  | v :: vs, f :: fs => (∃ a o xs n, v = .ref a ∧ h.get? a = some o ∧ o.cls = .type "tuple" ∧ o.data = .seq xs n ∧ xs[0]? = f) ∧ TupsO h vs fs
  | _, _ => False
theorem firsts_rows {M : Model} : ∀ (vs : List Value) (fs : List (Option Value)) {Q : List (Option Value) → Shared → Prop}, TupsO s.heap vs fs → Q fs s → wpAny M A (vs.mapM firstOfTuple') Q E s
  | [], [], _, _, h => by rw [List.mapM_nil]; exact wpAny_pure h
  | [], _ :: _, _, t, _ => t.elim
  | _ :: _, [], _, t, _ => t.elim
  | v :: vs, f :: fs, Q, t, h => by
    obtain ⟨⟨a, o, xs, n, rfl, ho, hc, hd, hf⟩, t⟩ := t
    rw [List.mapM_cons]
    refine wpAny_bind ?_
    rw [PySem.W.kas_first_eq]
    refine wpAny_bind (PySem.W.Looks.here (show PySem.W.Looks M s.heap (typeOf (.ref a)) o.cls from (PySem.W.Looks.ld ho).andThen .now) ?_)
    rw [hc, if_neg (by first | decide | simp)]
    refine wpAny_bind (listItems_at ho hd (wpAny_pure ?_))
    rw [hf]
    exact wpAny_bind (firsts_rows vs fs (Q := fun bs s' => wpAny M A (pure (f :: bs)) Q E s') t (wpAny_pure h))
theorem TupsO.typ {M : Model} {h : Heap} : ∀ {vs : List Value} {fs : List (Option Value)}, TupsO h vs fs → ∀ v ∈ vs, PySem.W.Looks M h (typeOf v) (.type "tuple")
  | v :: vs, f :: fs, ⟨⟨a, o, xs, n, e, ho, hc, hd, hf⟩, t⟩, u, hu => by
    rcases List.mem_cons.mp hu with q | q
    · rw [q, e, ← hc]
      exact (PySem.W.Looks.ld ho).andThen .now
    · exact TupsO.typ t u q
theorem kind_rows {M : Model} {v : Value} {vs : List Value} {fs : List (Option Value)} {Q : SortKind → Shared → Prop} (t : TupsO s.heap (v :: vs) (none :: fs)) (h : Q oneType' s) : wpAny M A (keyKind' (v :: vs).toArray) Q E s := by
  rw [kat_kind_eq, List.mapM_toArray, map_eq_pure_bind]
  refine wpAny_bind (wpAny_bind (firsts_rows _ _ t (wpAny_pure ?_)))
  have hall : ((none :: fs).toArray.all fun x => x.isSome) = false := by simp
  rw [if_neg (by rw [hall]; decide)]
  have h0 : (((none : Option Value) :: fs).toArray[0]?.bind id).isSome = false := by simp
  rw [if_neg (by rw [h0]; decide)]
  rw [oneTypeOnly'_eq, List.mapM_toArray, map_eq_pure_bind]
  refine wpAny_bind (wpAny_bind (wpAny_bind (PySem.W.kas_mapM (r := .type "tuple") _ (fun u hu Q' hq => (t.typ u hu).here hq) (wpAny_pure ?_))))
  have hall2 : ((List.map (fun _ => Value.type "tuple") (v :: vs)).toArray.all fun x => x == Value.type "tuple") = true := by
    simp only [List.all_toArray, List.all_map, List.all_eq_true]
    intro _ _
    rfl
  have h1 : (List.map (fun _ => Value.type "tuple") (v :: vs)).toArray[0]? = some (Value.type "tuple") := by simp
  rw [h1]
  simp only [hall2, if_true]
  exact wpAny_pure (wpAny_pure h)
def IsRow (h : Heap) (v : Value) (ns : List Int) : Prop := ∃ (a : Addr) (items : Array Value), v = .ref a ∧ h.IsTuple a items ∧ items.size = ns.length ∧ ∀ j (h1 : j < items.size) (h2 : j < ns.length), ∃ t, items[j] = .int ns[j] t
theorem row_lt {A : Around} {v u : Value} {ns ms : List Int} {Q : Bool → Shared → Prop} (hv : IsRow s.heap v ns) (hu : IsRow s.heap u ms) (hun : A.units < cLine) (h : Q (rowLt ns ms) s) : wpAny (model prog w) A (keyLt' oneType' v u) Q E s := by
  obtain ⟨a, xs, rfl, ha, hsz, hx⟩ := hv
  obtain ⟨b, ys, rfl, hb, hsz2, hy⟩ := hu
  refine oneLt_rows (e := fun j => decide (([] ++ ns)[j]? = ([] ++ ms)[j]?)) (r := fun j => match ([] ++ ns)[j]?, ([] ++ ms)[j]? with
    | some a, some b => decide (a < b)
    | _, _ => false) ha hb hun (fun j h1 h2 => ?_) (fun j h1 h2 he => ?_) ?_
  · obtain ⟨t, e⟩ := hx j h1 (by omega)
    obtain ⟨t', e'⟩ := hy j h2 (by omega)
    rw [e, e']
    have q := SeqAt.EqAt.int_int (A := A.in1) (s := s) (ns[j]'(by omega)) t (ms[j]'(by omega)) t'
    have e3 : decide (([] ++ ns)[j]? = ([] ++ ms)[j]?) = ((ns[j]'(by omega)) == (ms[j]'(by omega))) := by
      rw [List.nil_append, List.nil_append, List.getElem?_eq_getElem (by omega), List.getElem?_eq_getElem (by omega)]
      by_cases hh : ns[j]'(by omega) = ms[j]'(by omega) <;> simp [hh]
    show EqAt A.in1 s _ _ (decide (([] ++ ns)[j]? = ([] ++ ms)[j]?))
    rw [e3]
    exact q
  · obtain ⟨t, e⟩ := hx j h1 (by omega)
    obtain ⟨t', e'⟩ := hy j h2 (by omega)
    rw [e, e']
    have q := Ob.RcOp.lt_int (A := A.in1) (s := s) (ns[j]'(by omega)) (ms[j]'(by omega)) t t'
    have e3 : (match ([] ++ ns)[j]?, ([] ++ ms)[j]? with
      | some a, some b => decide (a < b)
      | _, _ => false) = decide ((ns[j]'(by omega)) < (ms[j]'(by omega))) := by
      rw [List.nil_append, List.nil_append, List.getElem?_eq_getElem (by omega), List.getElem?_eq_getElem (by omega)]
    show Ob.RcOp .Lt A.in1 s _ _ (match ([] ++ ns)[j]?, ([] ++ ms)[j]? with
      | some a, some b => decide (a < b)
      | _, _ => false)
    rw [e3]
    exact q
  · have e := lexAt_row ns ms [] [] rfl
    rw [hsz, hsz2]
    simp only [List.nil_append, List.length_nil] at e ⊢
    rw [e]
    exact h
theorem rowLt_asym : ∀ (xs ys : List Int), rowLt xs ys = true → rowLt ys xs = false
  | [], [], h => by simp [rowLt] at h
  | [], _ :: _, _ => by simp [rowLt]
  | _ :: _, [], h => by simp [rowLt] at h
  | x :: xs, y :: ys, h => by
    unfold rowLt at h ⊢
    by_cases e : x = y
    · rw [if_pos e] at h
      rw [if_pos e.symm]
      exact rowLt_asym xs ys h
    · rw [if_neg e] at h
      rw [if_neg (Ne.symm e)]
      simp at h ⊢
      omega
theorem rowLt_tr : ∀ (xs ys zs : List Int), rowLt ys xs = false → rowLt zs ys = false → rowLt zs xs = false
  | [], [], [], _, _ => by simp [rowLt]
  | [], _ :: _, [], _, h2 => by simp [rowLt] at h2
  | _ :: _, [], _, h1, _ => by simp [rowLt] at h1
  | x :: xs, y :: ys, [], _, h2 => by simp [rowLt] at h2
  | [], [], _ :: _, _, _ => by simp [rowLt]
  | [], _ :: _, _ :: _, _, _ => by simp [rowLt]
  | x :: xs, y :: ys, z :: zs, h1, h2 => by
    unfold rowLt at h1 h2 ⊢
    by_cases e1 : y = x
    · rw [if_pos e1] at h1
      by_cases e2 : z = y
      · rw [if_pos e2] at h2
        rw [if_pos (e2.trans e1)]
        exact rowLt_tr xs ys zs h1 h2
      · rw [if_neg e2] at h2
        rw [if_neg (by omega)]
        simp at h2 ⊢
        omega
    · rw [if_neg e1] at h1
      by_cases e2 : z = y
      · rw [if_neg (by omega)]
        simp at h1 ⊢
        omega
      · rw [if_neg e2] at h2
        simp at h1 h2
        rw [if_neg (by omega)]
        simp
        omega
theorem swo_row {α : Type} (k : α → List Int) : SrtO.Swo fun v u => rowLt (k v) (k u) := ⟨fun x y h => rowLt_asym _ _ h, fun x y z h1 h2 => rowLt_tr _ _ _ h1 h2⟩
theorem IsRow.keeps {h h' : Heap} {v : Value} {ns : List Int} (p : IsRow h v ns) (k : ∀ b o, h.get? b = some o → o.cls = .type "tuple" → h'.get? b = some o) : IsRow h' v ns := by
  obtain ⟨a, items, e, ⟨o, ho, hc, hd⟩, h1, h2⟩ := p
  exact ⟨a, items, e, ⟨o, k _ _ ho hc, hc, hd⟩, h1, h2⟩
theorem row_cmp {vs : List Value} {k : Value → List Int} (hu : A.units < cLine) (hp : ∀ v ∈ vs, IsRow s.heap v (k v)) : SrtO.Cmp prog w A s oneType' (fun p => p.1 ∈ vs) (SrtO.lt2 fun v u => rowLt (k v) (k u)) := by
  intro p q hm hm'
  exact row_lt (hp _ hm) (hp _ hm') hu ⟨rfl, rfl⟩
theorem tupsO_of {h : Heap} {k : Value → List Int} : ∀ {vs : List Value}, (∀ v ∈ vs, IsRow h v (k v)) → ∃ fs, TupsO h vs fs ∧ ∀ v r, vs = v :: r → k v = [] → ∃ fr, fs = none :: fr
  | [], _ => ⟨[], trivial, fun _ _ e => by cases e⟩
  | v :: vs, hp => by
    obtain ⟨a, items, e, ⟨o, ho, hc, n, hd⟩, h1, h2⟩ := hp v List.mem_cons_self
    obtain ⟨fs, t, _⟩ := tupsO_of fun u hu => hp u (List.mem_cons_of_mem _ hu)
    refine ⟨items[0]? :: fs, ⟨⟨a, o, items, n, e, ho, hc, hd, rfl⟩, t⟩, fun v' r ev hk => ?_⟩
    cases ev
    rw [hk] at h1
    have h1 : items.size = 0 := h1
    exact ⟨fs, by rw [Array.getElem?_eq_none (by omega)]⟩
theorem rows_sortableO {a : Addr} {v : Value} {vs : List Value} {k : Value → List Int} (hu : A.units < cLine) (h0 : k v = []) (hp : ∀ u ∈ v :: vs, IsRow s.heap u (k u)) (ha : ∀ o, s.heap.get? a = some o → o.cls ≠ .type "tuple") : SrtO.SortableO prog w A s a (v :: vs) fun v u => rowLt (k v) (k u) := by
  intro h' keep
  have hp' : ∀ u ∈ v :: vs, IsRow h' u (k u) := fun u hm => (hp u hm).keeps fun b o e c => keep b o (fun z => by subst z; exact ha o e c) e
  obtain ⟨fs, t, hf⟩ := tupsO_of hp'
  obtain ⟨fr, rfl⟩ := hf v vs rfl h0
  exact ⟨oneType', fun Q E hq => kind_rows (s := { s with heap := h' }) t hq, row_cmp hu hp'⟩
/-- sorted(l) of rows of ints, the empty row first -/
theorem sorted_rows {l : Addr} {v : Value} {vs : List Value} {k : Value → List Int} {Q : Value → Shared → Prop} (hu : A.units + 2 < cLine) (hl : s.heap.IsList l (v :: vs).toArray) (hz : (v :: vs).length ≤ sizeLine) (h0 : k v = []) (hp : ∀ u ∈ v :: vs, IsRow s.heap u (k u))
    (h : ∀ (h' : Heap) (d : Addr) (out : List Value), SrtO.Srtd (fun v u => rowLt (k v) (k u)) out → SrtO.Stb (fun v u => rowLt (k v) (k u)) out (v :: vs) → (∀ b o, s.heap.get? b = some o → h'.get? b = some o) → s.heap.objs.size ≤ d → (∃ n, h'.get? d = some (seqObj "list" out.toArray n)) → Q (.ref d) { s with heap := h' }) :
    wpAny (model prog w) A (PySem.call (.builtin "sorted") [.ref l]) Q E s := by
  refine SrtO.sorted_ord (swo_row k) hl hz (fun h2 h₁ a ha kk => ?_) fun out hs hb => ?_
  · refine rows_sortableO (s := { s with heap := h₁ }) (by show A.units + 1 + 1 < cLine; omega) h0 (fun u hm => (hp u hm).keeps fun b o e _ => (kk b o e).2) fun o e => ?_
    have e' : some o = some (seqObj "list" (v :: vs).toArray 0) := e.symm.trans ha
    cases e'
    intro c
    exact absurd (Value.type.inj c) (by decide)
  · exact h _ _ out hs hb (fun b o e => sortedAll_old e) (Nat.le_succ _) (sortedAll_at s.heap (v :: vs) out.toArray)
end
/-- the row that stands at a value in the heap -/
def rowAt (h : Heap) (u : Value) : List Int := match u with
  | .ref a => (match h.get? a with
    | some o => (match o.data with
      | .seq its _ => its.toList.map numOf
      | _ => [])
    | none => [])
  | _ => []
theorem rowAt_of {h : Heap} {a : Addr} {items : List Value} {ns : List Int} (ht : IsTup h a items.toArray) (r : Vals (ns.map V.int) items) : rowAt h (.ref a) = ns := by
  obtain ⟨o, ho, hc, n, hd⟩ := ht
  unfold rowAt
  simp only [ho, hd]
  clear ho hd hc
  induction ns generalizing items with
  | nil => cases r; rfl
  | cons k ns ih =>
    cases r with
    | cons p q =>
      obtain ⟨t, rfl⟩ := p
      have := ih q
      simp only [List.map_cons] at this ⊢
      rw [this]
      rfl

/-! ### the order of rows, three times -/
theorem listLt_row : ∀ xs ys : List Int, PySem.W.listLt xs ys = rowLt xs ys
  | [], [] => rfl
  | [], _ :: _ => rfl
  | _ :: _, [] => rfl
  | x :: xs, y :: ys => by
    unfold PySem.W.listLt rowLt
    by_cases h : x = y
    · rw [if_pos h, if_pos h, listLt_row xs ys]
    · rw [if_neg h, if_neg h]
      rfl
theorem lexLe_row : ∀ xs ys : List Int, lexLe xs ys = !rowLt ys xs
  | [], [] => rfl
  | [], _ :: _ => rfl
  | _ :: _, [] => rfl
  | x :: xs, y :: ys => by
    unfold lexLe rowLt
    by_cases h : x = y
    · rw [if_pos h, if_pos h.symm, lexLe_row xs ys]
    · rw [if_neg h, if_neg (Ne.symm h)]
      by_cases h2 : x < y
      · have h3 : ¬ y < x := by omega
        simp [h2, h3]
      · have h3 : y < x := by omega
        simp [h2, h3]
def rowD (r : List Int) : PyData := .tuple (r.map .int)
theorem dataLt_row (xs ys : List Int) : PySem.W.dataLt (rowD xs) (rowD ys) = rowLt xs ys := by
  rw [← listLt_row]
  exact PySem.W.DatumOrd.lt_eq (α := PySem.W.Tup Int) ⟨xs⟩ ⟨ys⟩
theorem lexLe_tr {x y z : List Int} (h1 : lexLe x y = true) (h2 : lexLe y z = true) : lexLe x z = true := by
  rw [lexLe_row, Bool.not_eq_true'] at *
  exact rowLt_tr _ _ _ h1 h2
theorem lexLe_tot (x y : List Int) : (lexLe x y || lexLe y x) = true := by
  rw [lexLe_row, lexLe_row]
  cases h : rowLt y x with
  | false => rfl
  | true => rw [rowLt_asym _ _ h]; rfl
theorem lexLe_anti : ∀ {x y : List Int}, lexLe x y = true → lexLe y x = true → x = y
  | [], [], _, _ => rfl
  | [], _ :: _, _, h => by simp [lexLe] at h
  | _ :: _, [], h, _ => by simp [lexLe] at h
  | x :: xs, y :: ys, h1, h2 => by
    unfold lexLe at h1 h2
    by_cases e : x = y
    · rw [if_pos e] at h1
      rw [if_pos e.symm] at h2
      rw [e, lexLe_anti h1 h2]
    · rw [if_neg e] at h1
      rw [if_neg (Ne.symm e)] at h2
      simp at h1 h2
      omega
theorem insR_perm {α : Type} (le : α → α → Bool) (x : α) : ∀ l : List α, (ins le x l).Perm (x :: l)
  | [] => List.Perm.refl _
  | y :: ys => by
    unfold ins
    split
    · exact List.Perm.refl _
    · exact ((insR_perm le x ys).cons y).trans (List.Perm.swap x y ys)
theorem isortR_perm {α : Type} (le : α → α → Bool) : ∀ l : List α, (isort le l).Perm l
  | [] => List.Perm.refl _
  | x :: xs => (insR_perm le x _).trans ((isortR_perm le xs).cons x)
theorem insR_sorted {x : List Int} : ∀ {l : List (List Int)}, l.Pairwise (fun a b => lexLe a b = true) → (ins lexLe x l).Pairwise (fun a b => lexLe a b = true)
  | [], _ => by simp [ins]
  | y :: ys, h => by
    obtain ⟨h1, h2⟩ := List.pairwise_cons.mp h
    unfold ins
    by_cases e : lexLe x y = true
    · rw [if_pos e]
      refine List.pairwise_cons.mpr ⟨fun z hz => ?_, h⟩
      rcases List.mem_cons.mp hz with q | q
      · rw [q]; exact e
      · exact lexLe_tr e (h1 z q)
    · rw [if_neg e]
      refine List.pairwise_cons.mpr ⟨fun z hz => ?_, insR_sorted h2⟩
      rcases List.mem_cons.mp ((insR_perm _ x ys).subset hz) with q | q
      · rw [q]
        have := lexLe_tot x y
        simp only [Bool.or_eq_true] at this
        exact this.resolve_left e
      · exact h1 z q
theorem isortR_sorted : ∀ l : List (List Int), (isort lexLe l).Pairwise (fun a b => lexLe a b = true)
  | [] => List.Pairwise.nil
  | x :: xs => insR_sorted (isortR_sorted xs)
/-- one list of rows in order -/
theorem rows_same {l m : List (List Int)} (h : l.Perm m) (h1 : l.Pairwise (fun a b => lexLe a b = true)) (h2 : m.Pairwise (fun a b => lexLe a b = true)) : l = m :=
  List.Perm.eq_of_pairwise (fun a b _ _ p q => lexLe_anti p q) h1 h2 h
/-! ### the calls -/
/-- sorted(xs) of rows of ints: the first one empty, or none of them -/
def rSortRows (K : PySem.W.Frag) : List V → Hp → VK → Prop := fun vs H Q => ∃ (a : Addr) (bs : List (V × List Int)), vs = [V.ref a] ∧ SqL K H a (bs.map (·.1)) ∧ (∀ b ∈ bs, ∃ t, b.1 = V.ref t ∧ SqT K H t (b.2.map V.int)) ∧ rowsOk (bs.map (·.2)) = true ∧
  ∀ (bs' : List (V × List Int)) p, bs'.Perm bs → (bs'.map (·.2)).Pairwise (fun a b => lexLe a b = true) → H p = none → Q (.ref p) (upd H p (.lst (bs'.map (·.1))))
def rSortIT (K : PySem.W.Frag) : List V → Hp → VK → Prop := fun vs H Q => ∃ (a : Addr) (ns : List Int), vs = [V.ref a] ∧ SqT K H a (ns.map V.int) ∧
  ∀ (ns' : List Int) (p : Addr), ns'.Perm ns → ns'.Pairwise (· ≤ ·) → H p = none → Q (.ref p) (upd H p (.lst (ns'.map V.int)))
/-- rows with what stands for them -/
inductive RowsV (h : Heap) : List (V × List Int) → List Value → Prop where
  | nil : RowsV h [] []
  | cons {b : V × List Int} {bs : List (V × List Int)} {u : Value} {us : List Value} : RelV b.1 u → IsRow h u b.2 → (∃ as, Reads h u (rowD b.2) as) → rowAt h u = b.2 → RowsV h bs us → RowsV h (b :: bs) (u :: us)
theorem ints_dp {K : PySem.W.Frag} {H : Hp} : ∀ (ns : List Int), DpAll K H (ns.map V.int) (ns.map PyData.int)
  | [] => .nil
  | n :: ns => .cons (.int n) (ints_dp ns)
section
variable {X : Cx} {pins : List (Addr × Obj)} {σ : L2.St} {H : Hp} {s : Shared}
theorem rowsV_of (I : Inv X pins σ H s) : ∀ {bs : List (V × List Int)} {us : List Value}, (∀ b ∈ bs, ∃ t, b.1 = V.ref t ∧ SqT X.K H t (b.2.map V.int)) → Vals (bs.map (·.1)) us → RowsV s.heap bs us
  | [], us, _, r => by
    cases r
    exact .nil
  | b :: bs, us, h, r => by
    cases r with
    | cons r1 r2 =>
      rename_i u us
      have r1' : RelV b.1 u := r1
      obtain ⟨t, e, ht⟩ := h b List.mem_cons_self
      rw [e] at r1'
      obtain rfl : u = Value.ref t := r1'
      obtain ⟨its, rv, hT, hz⟩ := I.tuple ht
      refine .cons r1 ?_ ?_ ?_ (rowsV_of I (fun c hc => h c (List.mem_cons_of_mem _ hc)) r2)
      · have hlen := rv.length
        rw [List.length_map] at hlen
        refine ⟨t, its.toArray, rfl, hT, by rw [List.size_toArray]; exact hlen.symm, fun j h1 h2 => ?_⟩
        have hj : (b.2.map V.int)[j]? = some (V.int (b.2[j]'h2)) := by rw [List.getElem?_map, List.getElem?_eq_getElem h2]; rfl
        obtain ⟨u', eu, ru'⟩ := rv.get hj
        obtain ⟨tk, rfl⟩ := ru'
        refine ⟨tk, ?_⟩
        have := (List.getElem?_eq_some_iff.mp eu).2
        simpa using this
      · exact Dp.reads I (rowD b.2) (V.ref t) (.ref t) (.tup ht (ints_dp b.2)) rfl
      · exact rowAt_of hT rv
theorem RowsV.vals : ∀ {h : Heap} {bs : List (V × List Int)} {us : List Value}, RowsV h bs us → Vals (bs.map (·.1)) us
  | _, _, _, .nil => .nil
  | _, _, _, .cons h1 _ _ _ r => .cons h1 r.vals
theorem RowsV.each : ∀ {h : Heap} {bs : List (V × List Int)} {us : List Value}, RowsV h bs us → PySem.W.EachIs (fun u b => RelV b.1 u) us bs
  | _, _, _, .nil => .nil
  | _, _, _, .cons h1 _ _ _ r => .cons h1 r.each
theorem RowsV.reads : ∀ {h : Heap} {bs : List (V × List Int)} {us : List Value}, RowsV h bs us → PySem.W.EachIs (fun u b => ∃ as, Reads h u (rowD b.2) as) us bs
  | _, _, _, .nil => .nil
  | _, _, _, .cons _ _ h1 _ r => .cons h1 r.reads
theorem RowsV.row : ∀ {h : Heap} {bs : List (V × List Int)} {us : List Value}, RowsV h bs us → ∀ u ∈ us, IsRow h u (rowAt h u)
  | _, _, _, .nil, u, hu => nomatch hu
  | _, _, _, .cons _ h1 _ h2 r, u, hu => by
    rcases List.mem_cons.mp hu with e | e
    · rw [e, h2]; exact h1
    · exact r.row u e
theorem RowsV.length : ∀ {h : Heap} {bs : List (V × List Int)} {us : List Value}, RowsV h bs us → us.length = bs.length
  | _, _, _, .nil => rfl
  | _, _, _, .cons _ _ _ _ r => congrArg (· + 1) r.length
/-- what stands behind a rearranged list of values -/
theorem RowsV.perm {h : Heap} {bs : List (V × List Int)} {us us' : List Value} (p : us'.Perm us) (r : RowsV h bs us) : ∃ bs', bs'.Perm bs ∧ RowsV h bs' us' := by
  induction p generalizing bs with
  | nil =>
    cases r
    exact ⟨[], List.Perm.refl _, .nil⟩
  | cons x _ ih =>
    cases r with
    | cons h1 h2 h3 h4 r =>
      obtain ⟨bs', q, r'⟩ := ih r
      exact ⟨_ :: bs', q.cons _, .cons h1 h2 h3 h4 r'⟩
  | swap x y l =>
    cases r with
    | cons h1 h2 h3 h4 r =>
      cases r with
      | cons g1 g2 g3 g4 r => exact ⟨_, List.Perm.swap _ _ _, .cons g1 g2 g3 g4 (.cons h1 h2 h3 h4 r)⟩
  | trans _ _ ih1 ih2 =>
    obtain ⟨bs2, q2, r2⟩ := ih2 r
    obtain ⟨bs1, q1, r1⟩ := ih1 r2
    exact ⟨bs1, q1.trans q2, r1⟩
theorem RowsV.rows : ∀ {h : Heap} {bs : List (V × List Int)} {us : List Value}, RowsV h bs us → bs.map (·.2) = us.map (rowAt h)
  | _, _, _, .nil => rfl
  | _, _, _, .cons _ _ _ h r => by rw [List.map_cons, List.map_cons, h, r.rows]
theorem each_vals : ∀ {us : List Value} {bs : List (V × List Int)}, PySem.W.EachIs (fun u b => RelV b.1 u) us bs → Vals (bs.map (·.1)) us
  | _, _, .nil => .nil
  | _, _, .cons h r => .cons h (each_vals r)
theorem cr_sortRows (hu : X.A.units + 3 < cLine) : CallR X (.builtin "sorted") (rSortRows X.K) := by
  intro pins s σ H vs us Q I r h
  obtain ⟨a, bs, rfl, hs, hb, hok, q⟩ := h
  obtain ⟨its, rv, hl, hz⟩ := I.list hs
  obtain ⟨u, rfl, ru⟩ := vals1 r
  obtain rfl : u = Value.ref a := ru
  have R := rowsV_of I hb rv
  have hlen := R.length
  have hz2 : its.length ≤ sizeLine := by rw [hlen]; rw [List.length_map] at hz; exact hz
  cases bs with
  | nil => cases hok
  | cons b bs =>
  cases its with
  | nil => cases rv
  | cons v its =>
  have e0 := R.rows
  by_cases h0 : b.2 = []
  · have hv0 : rowAt s.heap v = [] := by
      have := (List.cons.inj e0).1
      rw [← this]; exact h0
    refine sorted_rows (k := rowAt s.heap) (by omega) hl.isList hz2 hv0 (fun v' hv => R.row v' hv) fun h' d out h1 h2 kp hd hn => ?_
    obtain ⟨bs', p1, R'⟩ := R.perm h2.perm
    obtain ⟨n, hn⟩ := hn
    refine ⟨.ref d, upd H d (.lst (bs'.map (·.1))), I.laid (t' := s.toks) kp hd ⟨?_, out, n, R'.vals, hn⟩, rfl, q bs' d p1 ?_ (I.hok.fresh hd)⟩
    · rw [List.length_map, p1.length_eq, ← hlen]
      exact hz2
    · rw [R'.rows, List.pairwise_map]
      refine h1.imp fun {x y} hxy => ?_
      have hxy : rowLt (rowAt s.heap y) (rowAt s.heap x) = false := hxy
      rw [lexLe_row, hxy]
      rfl
  · have hne : ∀ c ∈ b :: bs, c.2 ≠ [] := by
      have hok : rowsOk (b.2 :: bs.map (·.2)) = true := hok
      cases hb2 : b.2 with
      | nil => exact absurd hb2 h0
      | cons x xs =>
        rw [hb2] at hok
        simp only [rowsOk, List.all_eq_true] at hok
        intro c hc e
        have hm : c.2 ∈ (x :: xs) :: bs.map (·.2) := by
          rcases List.mem_cons.mp hc with z | z
          · rw [z, hb2]; exact List.mem_cons_self
          · exact List.mem_cons_of_mem _ (List.mem_map.mpr ⟨c, z, rfl⟩)
        have := hok _ hm
        rw [e] at this
        cases this
    refine PySem.W.sorted_data (vs := v :: its) (bs := b :: bs) (enc := fun c => rowD c.2) (R := fun u c => RelV c.1 u) hl.isList R.each R.reads (PySem.W.AllAlike.of fun c c' => ?_) (.inl fun d hd => ?_) (by rw [← hlen]; exact hz2) (fun c hc => ?_) fun out hout e => ?_
    · show PySem.W.alike (.tuple _) (.tuple _) = true
      simp only [PySem.W.alike]
      exact PySem.W.alike_ints _ _
    · obtain ⟨c, hc, rfl⟩ := List.mem_map.mp hd
      have := hne c hc
      cases hc2 : c.2 with
      | nil => exact absurd hc2 this
      | cons x xs => exact ⟨.int x, xs.map .int, by simp [rowD]⟩
    · have : (rowD c.2).depth = 1 := by simp [rowD, PyData.depth, PySem.W.depth_ints]
      rw [this]
      omega
    · have hp := List.mergeSort_perm (b :: bs) (PySem.W.dataLe false fun c : V × List Int => rowD c.2)
      obtain ⟨ep, he'⟩ := PyProof.Rows.sortedAll_at s.heap (v :: its) out.toArray
      have hll : (((b :: bs).mergeSort (PySem.W.dataLe false fun c : V × List Int => rowD c.2)).map (·.1)).length ≤ sizeLine := by
        rw [List.length_map, hp.length_eq, ← hlen]
        exact hz2
      refine ⟨.ref _, upd H (s.heap.objs.size + 1) (.lst _), I.laid (t' := s.toks) (fun _ _ => PyProof.Rows.sortedAll_old) (Nat.le_succ _) ⟨hll, out, ep, each_vals e, he'⟩, rfl, q _ _ hp ?_ (I.hok.fresh (Nat.le_succ _))⟩
      have hle : ∀ c c' : V × List Int, PySem.W.dataLe false (fun c : V × List Int => rowD c.2) c c' = lexLe c.2 c'.2 := fun c c' => by
        rw [PySem.W.dataLe_eq]
        show (!PySem.W.dataLt (rowD c'.2) (rowD c.2)) = _
        rw [dataLt_row, lexLe_row]
      rw [List.pairwise_map]
      have := List.pairwise_mergeSort (le := PySem.W.dataLe false fun c : V × List Int => rowD c.2) (fun x y z h1 h2 => by rw [hle] at *; exact lexLe_tr h1 h2) (fun x y => by rw [hle, hle]; exact lexLe_tot _ _) (b :: bs)
      exact this.imp fun {x y} hxy => by rw [← hle]; exact hxy
end
/-! ### sorted(t), t a tuple of ints -/
section
variable {prog : Program} {w : World} {A : Around} {E : Value → Shared → Prop} {s : Shared}
theorem collect_tup {l : Addr} {vs : List Value} {Q : List Value → Shared → Prop} (hl : s.heap.IsTuple l vs.toArray)
    (h : Q vs { s with heap := (s.heap.push (seqObj "list" #[] 0)).update s.heap.objs.size (Obj.mapSeq (· ++ vs.toArray)) }) (hsz : vs.length ≤ sizeLine) :
    wpAny (model prog w) A (collect (.ref l)) Q E s := by
  obtain ⟨o, ho, hc, n, hd⟩ := id hl
  unfold collect
  refine wpAny_bind (wpAny_runValue (codeAny_builtin entry_proto_collect' ?_))
  show wpAny _ _ (do PySem.again (.builtin "list.__iadd__" ⟨[← newList [], .ref l], []⟩)) _ _ s
  refine wpAny_bind (wpAny_newList (wpAny_pure ⟨Code.quiet_builtin _ (by decide +kernel), codeAny_builtin entry_list_iadd' ?_⟩))
  show wpAny _ _ (Builtin.List.listExtendWith (.ref s.heap.objs.size) (.ref l) (.ref s.heap.objs.size)) _ _ { s with heap := s.heap.push (seqObj "list" #[] 0) }
  unfold Builtin.List.listExtendWith
  have ho' : (s.heap.push (seqObj "list" #[] 0)).get? l = some o := Heap.get?_push_of_some _ ho
  refine wpAny_bind (wpAny_typeOf (T := "tuple") ⟨o, ho', hc⟩ ?_)
  have ht : (Value.type "tuple" == Value.type "tuple") = true := by rfl
  rw [if_pos (by rw [ht]; simp)]
  refine wpAny_bind (listItems_at ho' hd ?_)
  refine wpAny_bind (listItems_at (xs := #[]) (n := 0) (Heap.get?_push_size _ rfl) rfl ?_)
  rw [if_neg (by simp)]
  refine wpAny_bind (listUpdate_at (xs := #[]) (n := 0) (Heap.get?_push_size _ rfl) rfl ?_ (Nat.zero_le _) (by show (#[] ++ vs.toArray).size ≤ sizeLine + 1; simp only [Array.size_append, List.size_toArray, List.length_nil]; omega))
  refine wpAny_pure ?_
  show wpAny (model prog w) A (do
      let o ← load s.heap.objs.size
      match o.data with
      | .seq xs _ => pure xs.toList
      | _ => unsupported "internal:collect") Q E { s with heap := (s.heap.push (seqObj "list" #[] 0)).update s.heap.objs.size (Obj.mapSeq (· ++ vs.toArray)) }
  refine wpAny_bind (wpAny_load (get?_update_seq (Heap.get?_push_size _ rfl) _) ?_)
  show wpAny _ _ (pure ((#[] : Array Value) ++ vs.toArray).toList) Q E _
  rw [show ((#[] : Array Value) ++ vs.toArray).toList = vs by simp]
  exact wpAny_pure h
theorem sorted_ordT {l : Addr} {vs : List Value} {ltv : Value → Value → Bool} {Q : Value → Shared → Prop} (O : Swo ltv) (hl : s.heap.IsTuple l vs.toArray) (hz : vs.length ≤ sizeLine)
    (hS : 2 ≤ vs.length → ∀ (h₁ : Heap) (a : Addr), h₁.get? a = some (seqObj "list" vs.toArray 0) → (∀ b o, s.heap.get? b = some o → b ≠ a ∧ h₁.get? b = some o) → SortableO prog w A.in1.in1 { s with heap := h₁ } a vs ltv)
    (h : ∀ out : List Value, Srtd ltv out → Stb ltv out vs → Q (.ref (s.heap.objs.size + 1)) { s with heap := sortedAll s.heap vs out.toArray }) :
    wpAny (model prog w) A (PySem.call (.builtin "sorted") [.ref l]) Q E s := by
  refine Calls.call_function_entry kind_sorted plain_sorted entry_sorted (args_sorted1 _) ?_
  unfold Builtin.«sorted»
  refine wpAny_bind (m := checkCount "sorted" 1 1 _) (wpAny_pure ?_)
  refine wpAny_bind (collect_tup hl ?_ hz)
  refine wpAny_bind (wpAny_newList ?_ hz)
  have hsz : ((s.heap.push (seqObj "list" #[] 0)).update s.heap.objs.size (Obj.mapSeq (· ++ vs.toArray))).objs.size = s.heap.objs.size + 1 := by
    rw [Heap.size_update, PyProof.Rows.size_push']
  have hoL : (((s.heap.push (seqObj "list" #[] 0)).update s.heap.objs.size (Obj.mapSeq (· ++ vs.toArray))).push (seqObj "list" vs.toArray 0)).get? (s.heap.objs.size + 1) = some (seqObj "list" vs.toArray 0) := by
    rw [← hsz]; exact Heap.get?_push_size _ rfl
  have keep : ∀ b o, s.heap.get? b = some o → b ≠ s.heap.objs.size + 1 ∧ (((s.heap.push (seqObj "list" #[] 0)).update s.heap.objs.size (Obj.mapSeq (· ++ vs.toArray))).push (seqObj "list" vs.toArray 0)).get? b = some o := fun b o q => by
    have hlt : b < s.heap.objs.size := Heap.lt_size q
    refine ⟨Nat.ne_of_lt (Nat.lt_succ_of_lt hlt), Heap.get?_push_of_some _ ?_⟩
    rw [Heap.get?_update_ne _ _ _ _ (Nat.ne_of_lt hlt)]
    exact Heap.get?_push_of_some _ q
  show wpAny _ _ _ _ _ { s with heap := ((s.heap.push (seqObj "list" #[] 0)).update s.heap.objs.size (Obj.mapSeq (· ++ vs.toArray))).push (seqObj "list" vs.toArray 0) }
  rw [hsz]
  refine wpAny_bind (wpAny_holding (wpAny_call_entry slot_list_sort ⟨_, hoL, rfl⟩ entry_list_sort (list_sort_ord O hoL hz (fun h2 => hS h2 _ _ hoL keep) fun out hs hb => ⟨_, rfl, ?_⟩) (args_list_sort _)))
  exact wpAny_pure ⟨_, rfl, h out hs hb⟩
end
section
variable {X : Cx}
theorem cr_sortIT : CallR X (.builtin "sorted") (rSortIT X.K) := by
  intro pins s σ H vs us Q I r h
  obtain ⟨a, ns, rfl, hs, q⟩ := h
  obtain ⟨its, rv, hl, hz⟩ := I.tuple hs
  rw [Vals.ref1 r]
  have hi := rv.ints
  refine sorted_ordT SrtO.swo_int hl (by rw [← rv.length]; exact hz) (fun h2 h₁ a' _ _ => SrtO.ints_sortable hi h2) fun out h1 h2 => ?_
  obtain ⟨k1, k2, k3⟩ := SrtO.ints_out hi h1 h2
  obtain ⟨ep, he'⟩ := PyProof.Rows.sortedAll_at s.heap its out.toArray
  have hlen : ((out.map SrtO.iv).map V.int).length ≤ sizeLine := by
    rw [List.length_map, k2.length_eq]
    rw [List.length_map] at hz
    exact hz
  exact ⟨.ref _, upd H (s.heap.objs.size + 1) (.lst ((out.map SrtO.iv).map V.int)), I.laid (t' := s.toks) (fun _ _ => PyProof.Rows.sortedAll_old) (Nat.le_succ _) ⟨hlen, out, ep, vals_of_ints k1, he'⟩, rfl, q _ _ k2 k3 (I.hok.fresh (Nat.le_succ _))⟩
end
/-! ### min(l) of pairs of an int and a row -/
def keyD : List Int → PyData
  | [] => .none
  | i :: r => .tuple [.int i, rowD r]
def rMinD (K : PySem.W.Frag) : List V → Hp → VK → Prop := fun vs H Q => ∃ (a : Addr) (ws : List V) (d : PyData) (ds : List PyData), vs = [V.ref a] ∧ SqL K H a ws ∧ DpAll K H ws (d :: ds) ∧ PySem.W.AlikeAll (d :: ds) ∧ PyData.depthAll (d :: ds) ≤ 9 ∧
  ∀ (i : Nat) (w : V), ws[i]? = some w → (d :: ds)[i]? = some (PySem.W.minD d ds) → Q w H
section
variable {X : Cx}
theorem vals_back_get : ∀ {ws : List V} {us : List Value}, Vals ws us → ∀ {i : Nat} {u : Value}, us[i]? = some u → ∃ w, ws[i]? = some w ∧ RelV w u
  | _, _, .nil, i, u, h => by cases i <;> cases h
  | _, _, .cons h1 r, 0, u, h => by
    cases h
    exact ⟨_, rfl, h1⟩
  | _, _, .cons h1 r, i + 1, u, h => vals_back_get r (i := i) (by simpa using h)
theorem cr_minD (hc : X.calm = true) (hu : X.A.units + 10 < cLine) : CallR X (.builtin "min") (rMinD X.K) := by
  intro pins s σ H vs us Q I r h
  obtain ⟨a, ws, d, ds, rfl, hs, hd, hal, hdp, q⟩ := h
  obtain ⟨its, rv, hl, _⟩ := I.list hs
  rw [Vals.ref1 r]
  obtain ⟨as, hr⟩ := Dp.readsAll I (d :: ds) ws its hd rv
  refine PySem.W.min_list_data (vs := its.toArray) (I.ok.hd hc) hl.isList (by simpa using hr) hal (by omega) fun i v h' tk bs hi hrd kp => ?_
  have hi' : its[i]? = some v := by simpa using hi
  obtain ⟨w, hw, rw'⟩ := vals_back_get rv hi'
  obtain ⟨bs2, r2, hlt, _, _⟩ := PySem.W.readsAll_at hr i v hi'
  have e := (PySem.Reads.unique (PyProof.Rows.Reads.keeps kp r2) _ _ hrd).1
  refine ⟨w, H, I.kept (t' := tk) kp, rw', q i w hw ?_⟩
  rw [← e, List.getD_eq_getElem?_getD, List.getElem?_eq_getElem hlt]
  rfl
end
end QR

set_option Elab.async false
set_option linter.all false
set_option maxRecDepth 100000
set_option maxHeartbeats 1000000
/-! QOps: what the small language's operators give is what the machine's give. -/
namespace QR
open PySem PySem.Spec PyProof.Rows L2

/-- what is wanted of a value that has come -/
def Kont (K : PySem.W.Frag) (ρ : List Addr) (H : Hp) (m : MV) (st' : Store) (Q : VK) : Prop :=
  ∀ (v : V) (ρ' fp : List Addr) (H' : Hp), Aft K ρ [] H st' ρ' H' → Res K [] H ρ' H' v m fp → Q v H'

theorem big_le : big ≤ sizeLine := by rw [sizeLine_eq]; decide
section
variable {K : PySem.W.Frag} {ρ ρ' al fp f : List Addr} {H H' : Hp} {v w : V} {vs ws : List V} {m x y : MV} {ms xs ys : List MV} {st st' : Store} {Q : VK}

theorem Aft.none (A : Aft K ρ [] H st' ρ' H') {p : Addr} (h : H' p = Option.none) : H p = Option.none := by
  cases e : H p with
  | none => rfl
  | some o =>
    by_cases hr : p ∈ ρ
    · obtain ⟨o', q⟩ := A.rl.wr.ex (A.sub hr)
      rw [h] at q; cases q
    · have := A.fr p o e hr (fun z => nomatch z)
      rw [h] at this; cases this
theorem Aft.notCell (A : Aft K ρ al H st' ρ' H') {p : Addr} (h : H' p = Option.none) : p ∉ ρ' := fun z => by
  obtain ⟨o', q⟩ := A.rl.wr.ex z
  rw [h] at q; cases q
/-- a new list; a new tuple -/
theorem Kont.newL (k : Kont K ρ H (.lst ms) st' Q) (A : Aft K ρ [] H st' ρ' H') (R : Ress K [] H ρ' H' vs ms fp) : ∀ p, H' p = Option.none → Q (.ref p) (upd H' p (.lst vs)) := fun p hp => by
  refine k _ ρ' (p :: fp) _ (A.upd hp) ⟨.lst upd_same (R.rep.upd hp), List.nodup_cons.mpr ⟨fun z => ?_, R.nd⟩, fun a ha => ?_⟩
  · obtain ⟨_, q⟩ := R.rep.fpSome p z
    rw [hp] at q; cases q
  · rcases List.mem_cons.mp ha with e | ha
    · subst e
      exact ⟨.inl (A.none hp), A.notCell hp⟩
    · exact R.new a ha
theorem Kont.newT (k : Kont K ρ H (.tup ms) st' Q) (A : Aft K ρ [] H st' ρ' H') (R : Ress K [] H ρ' H' vs ms fp) : ∀ p, H' p = Option.none → Q (.ref p) (upd H' p (.tup vs)) := fun p hp =>
  k _ ρ' fp _ (A.upd hp) ⟨.tup (SqT.of upd_same) (R.rep.upd hp), R.nd, R.new⟩
theorem Kont.plain (k : Kont K ρ H m st' Q) (A : Aft K ρ [] H st' ρ' H') (r : Rep K ρ' H' v m []) : Q v H' := k v ρ' [] H' A (Res.plain r)
theorem Ress.sub {g : List Addr} (R : Ress K al H ρ' H' vs ms fp) (r : Reps K ρ' H' ws xs g) (h : List.Sublist g fp) : Ress K al H ρ' H' ws xs g := ⟨r, R.nd.sublist h, fun a ha => R.new a (h.subset ha)⟩
theorem Res.sub {g : List Addr} (R : Ress K al H ρ' H' vs ms fp) (r : Rep K ρ' H' w x g) (h : List.Sublist g fp) : Res K al H ρ' H' w x g := ⟨r, R.nd.sublist h, fun a ha => R.new a (h.subset ha)⟩

/-! ### what a value is -/
theorem Rep.int_inv {i : Int} (r : Rep K ρ H v (.int i) f) : v = .int i ∧ f = [] := by cases r; exact ⟨rfl, rfl⟩
theorem Rep.bl_inv {b : Bool} (r : Rep K ρ H v (.bl b) f) : v = .bl b ∧ f = [] := by cases r; exact ⟨rfl, rfl⟩
theorem Rep.non_inv (r : Rep K ρ H v .non f) : v = .non ∧ f = [] := by cases r; exact ⟨rfl, rfl⟩
theorem Rep.str_inv {z : Str} (r : Rep K ρ H v (.str z) f) : v = .str z ∧ f = [] := by cases r; exact ⟨rfl, rfl⟩
theorem Reps.two (r : Reps K ρ H vs [x, y] fp) : ∃ v w f g, vs = [v, w] ∧ fp = f ++ g ∧ Rep K ρ H v x f ∧ Rep K ρ H w y g := by
  cases r with
  | cons h r =>
    cases r with
    | cons h2 r =>
      cases r
      exact ⟨_, _, _, _, rfl, by simp, h, h2⟩
theorem Reps.one (r : Reps K ρ H vs [x] fp) : ∃ v, vs = [v] ∧ Rep K ρ H v x fp := by
  cases r with
  | cons h r =>
    cases r
    exact ⟨_, rfl, by simpa using h⟩
theorem ref_at {c : Nat} (r : Rep K ρ H v (.ref c) f) : ∃ l, v = .ref l ∧ ρ[c]? = some l := by
  cases r with
  | ref h => exact ⟨_, rfl, h⟩
theorem lstOf_rep (R : Rl K ρ st H) (r : Rep K ρ H v m fp) (h : lstOf st m = some xs) : ∃ a vs f, v = .ref a ∧ H a = some (.lst vs) ∧ Reps K ρ H vs xs f ∧ List.Sublist f fp := by
  cases r with
  | lst h1 r =>
    have e : _ = xs := Option.some.inj h
    subst e
    exact ⟨_, _, _, rfl, h1, r, List.sublist_cons_self _ _⟩
  | @ref i a hi =>
    obtain ⟨c, hc, q⟩ := R.at_ hi
    simp only [lstOf, hc] at h
    cases q with
    | lst h1 r =>
      have e : _ = xs := Option.some.inj h
      subst e
      exact ⟨_, _, _, rfl, h1, r, List.nil_sublist _⟩
    | dct _ _ => cases h
    | obj _ _ _ => cases h
  | non => cases h
  | bl _ => cases h
  | int _ => cases h
  | str _ _ => cases h
  | tup _ _ => cases h
  | rol _ => cases h
  | xts _ _ => cases h
theorem reps_strs {zs : List Str} (h : zs.all PyData.strOk = true) : Reps K ρ H (zs.map V.str) (zs.map MV.str) [] := by
  induction zs with
  | nil => exact .nil
  | cons i r ih =>
    rw [List.all_cons, Bool.and_eq_true] at h
    exact .cons (f := []) (.str i h.1) (ih h.2)
theorem reps_ints {ns : List Int} : Reps K ρ H (ns.map V.int) (ns.map MV.int) [] := by
  induction ns with
  | nil => exact .nil
  | cons i r ih => exact .cons (f := []) (.int i) ih
/-- a list or a tuple, as it is read -/
theorem seqOf_rep (R : Rl K ρ st H) (r : Rep K ρ H v m fp) (h : seqOf st m = some xs) : ∃ a vs f, v = .ref a ∧ ((isTup m = true ∧ SqT K H a vs) ∨ (isTup m = false ∧ SqL K H a vs)) ∧ Reps K ρ H vs xs f ∧ List.Sublist f fp := by
  cases r with
  | lst h1 r =>
    have e : _ = xs := Option.some.inj h
    subst e
    exact ⟨_, _, _, rfl, .inr ⟨rfl, SqL.of h1⟩, r, List.sublist_cons_self _ _⟩
  | @ref i a hi =>
    obtain ⟨c, hc, q⟩ := R.at_ hi
    simp only [seqOf, hc] at h
    cases q with
    | lst h1 r =>
      have e : _ = xs := Option.some.inj h
      subst e
      exact ⟨_, _, _, rfl, .inr ⟨rfl, SqL.of h1⟩, r, List.nil_sublist _⟩
    | dct _ _ => cases h
    | obj _ _ _ => cases h
  | non => cases h
  | bl _ => cases h
  | int _ => cases h
  | str _ _ => cases h
  | tup h1 r =>
    have e : _ = xs := Option.some.inj h
    subst e
    exact ⟨_, _, _, rfl, .inl ⟨rfl, h1⟩, r, List.Sublist.refl _⟩
  | rol h1 =>
    have e : _ = xs := Option.some.inj h
    subst e
    exact ⟨_, _, _, rfl, .inr ⟨rfl, h1.seq⟩, reps_ints, List.nil_sublist _⟩
  | xts h1 hz =>
    have e : _ = xs := Option.some.inj h
    subst e
    exact ⟨_, _, _, rfl, .inl ⟨rfl, h1.tup⟩, reps_strs hz, List.nil_sublist _⟩
theorem intsOf_map : ∀ {xs : List MV} {ns : List Int}, intsOf xs = some ns → xs = ns.map MV.int
  | [], _, h => by
    cases h
    rfl
  | x :: r, ns, h => by
    cases x with
    | int i =>
      simp only [intsOf] at h
      cases e : intsOf r with
      | none => rw [e] at h; cases h
      | some k =>
        rw [e] at h
        cases h
        rw [intsOf_map e]
        rfl
    | _ => cases h
theorem bsOf_map : ∀ {xs : List MV} {ns : List Bool}, bsOf xs = some ns → xs = ns.map MV.bl
  | [], _, h => by
    cases h
    rfl
  | x :: r, ns, h => by
    cases x with
    | bl i =>
      simp only [bsOf] at h
      cases e : bsOf r with
      | none => rw [e] at h; cases h
      | some k =>
        rw [e] at h
        cases h
        rw [bsOf_map e]
        rfl
    | _ => cases h
theorem Reps.ints {ns : List Int} : ∀ {vs : List V} {f : List Addr}, Reps K ρ H vs (ns.map MV.int) f → vs = ns.map V.int := by
  induction ns with
  | nil =>
    intro vs f r
    cases r
    rfl
  | cons i t ih =>
    intro vs f r
    cases r with
    | cons h r =>
      cases h
      rw [ih r]
      rfl
theorem Reps.bls {ns : List Bool} : ∀ {vs : List V} {f : List Addr}, Reps K ρ H vs (ns.map MV.bl) f → vs = ns.map V.bl := by
  induction ns with
  | nil =>
    intro vs f r
    cases r
    rfl
  | cons i t ih =>
    intro vs f r
    cases r with
    | cons h r =>
      cases h
      rw [ih r]
      rfl
/-! ### data -/
theorem toDs {n : Nat} (ih : ∀ (m : MV) (v : V) (f : List Addr) (d : PyData), Rep K ρ H v m f → toD st n m = some d → Dp K H v d ∧ d.canLay0 = true ∧ d.depth ≤ n) :
    ∀ {xs : List MV} {vs : List V} {f : List Addr} {ds : List PyData}, Reps K ρ H vs xs f → xs.mapM (toD st n) = some ds → DpAll K H vs ds ∧ PyData.canLayAll0 ds = true ∧ PyData.depthAll ds ≤ n
  | [], _, _, ds, r, h => by
    cases r
    simp at h
    subst h
    exact ⟨.nil, by simp [PyData.canLayAll0], by simp [PyData.depthAll]⟩
  | x :: xs, _, _, ds, r, h => by
    cases r with
    | cons h1 r =>
      rw [List.mapM_cons] at h
      cases e1 : toD st n x with
      | none => rw [e1] at h; cases h
      | some d =>
        rw [e1] at h
        cases e2 : xs.mapM (toD st n) with
        | none => rw [e2] at h; cases h
        | some es =>
          rw [e2] at h
          cases h
          obtain ⟨a1, a2, a3⟩ := ih _ _ _ _ h1 e1
          obtain ⟨b1, b2, b3⟩ := toDs ih r e2
          refine ⟨.cons a1 b1, by simp [PyData.canLayAll0, a2, b2], ?_⟩
          simp only [PyData.depthAll]
          exact Nat.max_le.mpr ⟨a3, b3⟩
theorem toD_rep (R : Rl K ρ st H) : ∀ (n : Nat) (m : MV) (v : V) (f : List Addr) (d : PyData), Rep K ρ H v m f → toD st n m = some d → Dp K H v d ∧ d.canLay0 = true ∧ d.depth ≤ n
  | 0, _, _, _, _, _, h => by cases h
  | n + 1, m, v, f, d, r, h => by
    have ih := toD_rep R n
    cases r with
    | non => cases h; exact ⟨.non, by simp [PyData.canLay0], by simp [PyData.depth]⟩
    | bl b => cases h; exact ⟨.bl _, by simp [PyData.canLay0], by simp [PyData.depth]⟩
    | int i => cases h; exact ⟨.int _, by simp [PyData.canLay0], by simp [PyData.depth]⟩
    | str z hz => cases h; exact ⟨.str _, by simp [PyData.canLay0, hz], by simp [PyData.depth]⟩
    | @ref i a hi =>
      obtain ⟨c, hc, q⟩ := R.at_ hi
      simp only [toD, hc] at h
      cases q with
      | lst h1 r =>
        rename_i vs ms
        have h : Option.map PyData.list (ms.mapM (toD st n)) = some d := h
        cases e : ms.mapM (toD st n) with
        | none => rw [e] at h; cases h
        | some ds =>
          rw [e] at h
          cases h
          obtain ⟨b1, b2, b3⟩ := toDs ih r e
          exact ⟨.lst (SqL.of h1) b1, by simpa [PyData.canLay0] using b2, by simp only [PyData.depth]; omega⟩
      | dct _ _ => cases h
      | obj _ _ _ => cases h
    | @tup a vs ms fp h1 r =>
      simp only [toD] at h
      cases e : ms.mapM (toD st n) with
      | none => rw [e] at h; cases h
      | some ds =>
        rw [e] at h
        cases h
        obtain ⟨b1, b2, b3⟩ := toDs ih r e
        exact ⟨.tup h1 b1, by simpa [PyData.canLay0] using b2, by simp only [PyData.depth]; omega⟩
    | @lst a vs ms fp h1 r =>
      simp only [toD] at h
      cases e : ms.mapM (toD st n) with
      | none => rw [e] at h; cases h
      | some ds =>
        rw [e] at h
        cases h
        obtain ⟨b1, b2, b3⟩ := toDs ih r e
        exact ⟨.lst (SqL.of h1) b1, by simpa [PyData.canLay0] using b2, by simp only [PyData.depth]; omega⟩
    | @rol a ns h1 =>
      simp only [toD] at h
      cases e : (ns.map MV.int).mapM (toD st n) with
      | none => rw [e] at h; cases h
      | some ds =>
        rw [e] at h
        cases h
        obtain ⟨b1, b2, b3⟩ := toDs (ρ := ρ) (H := H) ih reps_ints e
        exact ⟨.lst h1.seq b1, by simpa [PyData.canLay0] using b2, by simp only [PyData.depth]; omega⟩
    | @xts a zs h1 hz =>
      simp only [toD] at h
      cases e : (zs.map MV.str).mapM (toD st n) with
      | none => rw [e] at h; cases h
      | some ds =>
        rw [e] at h
        cases h
        obtain ⟨b1, b2, b3⟩ := toDs (ρ := ρ) (H := H) ih (reps_strs hz) e
        exact ⟨.tup h1.tup b1, by simpa [PyData.canLay0] using b2, by simp only [PyData.depth]; omega⟩
theorem shaped_of {n : Nat} {d : PyData} (h1 : d.canLay0 = true) (h2 : d.depth ≤ n) (h3 : n ≤ 64) : SeqAt.shaped d = true := by
  unfold SeqAt.shaped
  rw [h1, Bool.true_and]
  exact decide_eq_true (Nat.le_trans h2 h3)

/-! ### binary operators -/
def rBI (f : Int → Int → Int) : R2 := fun x y H Q => ∃ a j, x = .bl a ∧ y = .int j ∧ Q (.int (f (b2 a) j)) H
theorem op_addB {X : Cx} : OpR X (binaryOp .Add) (rBI fun i j => i + j) := by
  intro pins s σ H x y v u Q I rx ry h
  obtain ⟨a, j, rfl, rfl, q⟩ := h
  cases rx
  obtain ⟨t, rfl⟩ := ry
  exact PySem.IntBool.add_bool_int ⟨.int (b2 a + j), H, I.tok _, ⟨_, rfl⟩, q⟩
theorem op_subB {X : Cx} : OpR X (binaryOp .Sub) (rBI fun i j => i - j) := by
  intro pins s σ H x y v u Q I rx ry h
  obtain ⟨a, j, rfl, rfl, q⟩ := h
  cases rx
  obtain ⟨t, rfl⟩ := ry
  exact PySem.IntBool.sub_bool_int ⟨.int (b2 a - j), H, I.tok _, ⟨_, rfl⟩, q⟩
/-- two tuples that are known to be tuples and nothing else: so is their sum -/
def rCatX (K : PySem.W.Frag) : R2 := fun x y H Q => ∃ a b xs ys, x = .ref a ∧ y = .ref b ∧ (SqX H a xs ∧ SqX H b ys) ∧ xs.length + ys.length ≤ sizeLine ∧ (xs = [] → Q y H) ∧ (ys = [] → Q x H) ∧ ∀ p o, H p = Option.none → o.cls = .type "tuple" → o.dict = Option.none → Q (.ref p) (upd H p (.frz o (.tup (xs ++ ys))))
theorem op_catX {X : Cx} : OpR X (binaryOp .Add) (rCatX X.K) := by
  intro pins s σ H x y v u Q I r1 r2 h
  obtain ⟨a, b, xs, ys, rfl, rfl, ⟨ha, hb⟩, hz, q0, q1, q2⟩ := h
  cases r1
  cases r2
  obtain ⟨i1, v1, t1, _⟩ := I.tuple (ha.tup (K := X.K))
  obtain ⟨i2, v2, t2, _⟩ := I.tuple (hb.tup (K := X.K))
  have l1 := v1.length
  have l2 := v2.length
  cases xs with
  | nil =>
    cases v1
    exact cat_tup0 t1 t2 ⟨.ref b, H, I, rfl, q0 rfl⟩
  | cons x xs =>
    refine HT.cat_tup t1 t2 (fun z => by rw [z] at l1; cases l1) (fun z => ⟨.ref a, H, I, rfl, q1 ?_⟩) (fun _ => ?_) (by omega)
    · rw [z] at l2
      exact List.eq_nil_of_length_eq_zero l2
    · have hn := I.hok.fresh (Nat.le_refl _)
      refine ⟨.ref _, _, I.laid (t' := s.toks) (o := .frz { cls := .type "tuple", data := .seq (i1 ++ i2).toArray } (.tup (x :: xs ++ ys))) (fun _ _ q => Heap.get?_push_of_some _ q) (Nat.le_refl _) ?_, rfl, q2 _ _ hn rfl rfl⟩
      exact ⟨Heap.get?_push_size _ rfl, by rw [List.length_append]; exact hz, _, v1.append v2, IsTup.new _ _⟩
def rAdd3 (K : PySem.W.Frag) : R2 := fun x y H Q => rI0 (fun i j => .int (i + j)) x y H Q ∨ (rCatA K x y H Q ∨ (rCat x y H Q ∨ (rBI (fun i j => i + j) x y H Q ∨ rCatX K x y H Q)))
theorem add_read {fp : List Addr} (A : Aft K ρ [] H st ρ' H') (R : Ress K [] H ρ' H' [v, w] [x, y] fp) (e : addM x y st = .val m st') (k : Kont K ρ H m st' Q) : rAdd3 K v w H' Q := by
  have lsts : ∀ xs ys, lstOf st x = some xs → lstOf st y = some ys → chk (decide (xs.length + ys.length ≤ big)) (.val (.lst (xs ++ ys)) st) = Out.val m st' → rAdd3 K v w H' Q := fun xs ys h1 h2 e => by
    obtain ⟨hb, e⟩ := chk_eq e
    cases e
    have hb := of_decide_eq_true hb
    obtain ⟨v1, w1, f, g, e1, e2, r1, r2⟩ := R.rep.two
    cases e1
    obtain ⟨a, as, f', rfl, ha, ra, sa⟩ := lstOf_rep A.rl r1 h1
    obtain ⟨b, bs, g', rfl, hb', rb, sb⟩ := lstOf_rep A.rl r2 h2
    have hl1 := ra.length
    have hl2 := rb.length
    exact .inr (.inr (.inl ⟨a, b, as, bs, rfl, rfl, ha, hb', by have := big_le; omega, k.newL A (R.sub (ra.app rb) (e2 ▸ sa.append sb))⟩))
  cases x with
  | int i =>
    cases y with
    | int j =>
      cases e
      obtain ⟨v1, w1, f, g, e1, e2, r1, r2⟩ := R.rep.two
      cases e1
      obtain ⟨rfl, _⟩ := r1.int_inv
      obtain ⟨rfl, _⟩ := r2.int_inv
      exact .inl ⟨i, j, rfl, rfl, k.plain A (.int _)⟩
    | _ => simp [addM, lstOf, addB] at e
  | tup xs =>
    cases y with
    | tup ys =>
      obtain ⟨hb, e⟩ := chk_eq (show chk (decide (xs.length + ys.length ≤ big)) (.val (.tup (xs ++ ys)) st) = Out.val m st' from e)
      cases e
      have hb := of_decide_eq_true hb
      obtain ⟨v1, w1, f, g, e1, e2, r1, r2⟩ := R.rep.two
      cases e1
      cases r1 with
      | @tup a as _ f h1 r1 =>
        cases r2 with
        | @tup b bs _ g h2 r2 =>
          have hl1 := r1.length
          have hl2 := r2.length
          have R2 := R.sub (r1.app r2) (e2 ▸ List.Sublist.refl _)
          refine .inr (.inl ⟨a, b, as, bs, rfl, rfl, h1, h2, by have := big_le; omega, fun e => ?_, fun _ e => ?_, fun _ _ => k.newT A R2⟩)
          · subst e
            cases r1
            exact k _ ρ' _ _ A ⟨.tup h2 r2, R2.nd.sublist (List.sublist_append_right _ _), fun a ha => R2.new a (List.mem_append_right _ ha)⟩
          · subst e
            cases r2
            refine k _ ρ' f _ A ⟨?_, R2.nd.sublist (List.sublist_append_left _ _), fun a ha => R2.new a (List.mem_append_left _ ha)⟩
            rw [List.append_nil]
            exact .tup h1 r1
    | _ => simp [addM, lstOf, addB] at e
  | lst xs =>
    cases h2 : lstOf st y with
    | none => simp [addM, h2, addB] at e
    | some ys => exact lsts xs ys rfl h2 (by simpa [addM, show lstOf st (.lst xs) = some xs from rfl, h2] using e)
  | ref i =>
    cases h1 : lstOf st (.ref i) with
    | none => simp [addM, h1, addB] at e
    | some xs =>
      cases h2 : lstOf st y with
      | none => simp [addM, h2, addB] at e
      | some ys => exact lsts xs ys h1 h2 (by simpa [addM, h1, h2] using e)
  | non => simp [addM, lstOf, addB] at e
  | bl a =>
    cases y with
    | int j =>
      have e : Out.val (MV.int (b2 a + j)) st = .val m st' := e
      cases e
      obtain ⟨v1, w1, f, g, e1, e2, r1, r2⟩ := R.rep.two
      cases e1
      obtain ⟨rfl, _⟩ := r1.bl_inv
      obtain ⟨rfl, _⟩ := r2.int_inv
      exact .inr (.inr (.inr (.inl ⟨a, j, rfl, rfl, k.plain A (.int _)⟩)))
    | _ => simp [addM, lstOf, addB] at e
  | str _ => simp [addM, lstOf, addB] at e
  | rol _ => simp [addM, lstOf, addB] at e
  | xts xs =>
    cases y with
    | xts ys =>
      obtain ⟨hb, e⟩ := chk_eq (show chk (decide (xs.length + ys.length ≤ big)) (.val (.xts (xs ++ ys)) st) = Out.val m st' from e)
      cases e
      have hb := of_decide_eq_true hb
      obtain ⟨v1, w1, f, g, e1, e2, r1, r2⟩ := R.rep.two
      cases e1
      cases r1 with
      | @xts a _ h1 z1 =>
        cases r2 with
        | @xts b _ h2 z2 =>
          refine .inr (.inr (.inr (.inr ⟨a, b, _, _, rfl, rfl, ⟨h1, h2⟩, by rw [List.length_map, List.length_map]; have := big_le; omega, fun e => ?_, fun e => ?_, fun p o hp c1 c2 => ?_⟩)))
          · have e := List.map_eq_nil_iff.mp e
            subst e
            exact k.plain A (.xts h2 z2)
          · have e := List.map_eq_nil_iff.mp e
            subst e
            rw [List.append_nil] at k
            exact k.plain A (.xts h1 z1)
          · refine k.plain (A.upd hp) (.xts ⟨o, ?_, c1, c2⟩ (by rw [List.all_append, z1, z2]; rfl))
            rw [List.map_append]
            exact upd_same
    | _ => simp [addM, lstOf, addB] at e
theorem op_add3 {X : Cx} : OpR X (binaryOp .Add) (rAdd3 X.K) := op_add.or (op_catA.or (op_cat.or (op_addB.or op_catX)))
/-- two ints -/
theorem int2_read {fp : List Addr} {C : Int → Int → Prop} {g : Int → Int → MV} {gv : Int → Int → V} (hg : ∀ i j, Rep K ρ' H' (gv i j) (g i j) []) {i j : Int} (A : Aft K ρ [] H st ρ' H') (R : Ress K [] H ρ' H' [v, w] [.int i, .int j] fp) (hc : C i j) (k : Kont K ρ H (g i j) st Q) :
    rI C gv v w H' Q := by
  obtain ⟨v1, w1, f, g, e1, e2, r1, r2⟩ := R.rep.two
  cases e1
  obtain ⟨rfl, _⟩ := r1.int_inv
  obtain ⟨rfl, _⟩ := r2.int_inv
  exact ⟨i, j, rfl, rfl, hc, k.plain A (hg i j)⟩
theorem int2_inv {x y : MV} {f : Int → Int → Out MV} (e : (match x, y with
    | .int i, .int j => f i j
    | _, _ => .bad) = .val m st') : ∃ i j, x = .int i ∧ y = .int j ∧ f i j = .val m st' := by
  cases x with
  | int i =>
    cases y with
    | int j => exact ⟨i, j, rfl, rfl, e⟩
    | _ => cases e
  | _ => cases y <;> cases e
end

/-! ### a row times an int -/
theorem tuple_mul1 (l : Addr) (items : Array Value) (n : Nat) (dd : Option Addr) (sl : Array (Option Value)) (u : Tok) :
    Meets (Builtin.«tuple.__mul__» ⟨[.ref l, .int 1 u], []⟩) (fun _ R s => s.heap.get? l = some { cls := .type "tuple", dict := dd, data := .seq items n, slots := sl } ∧ R (.ok (.ret (Value.ref l))) s) :=
  .of_wp fun prog w A R s h => by
    obtain ⟨hp, g, d, tk, os⟩ := s
    obtain ⟨hl, h⟩ := h
    have f1 := AutoSeq1.idx_int
    wp_walk using wpAny_loadPart' hl
    exact ⟨_, rfl, h⟩
def rRepT1 (K : PySem.W.Frag) : R2 := fun x y H Q => ∃ l xs, x = .ref l ∧ y = .int 1 ∧ SqT K H l xs ∧ Q (.ref l) H
theorem op_repT1 {X : Cx} : OpR X (binaryOp .Mult) (rRepT1 X.K) := by
  intro pins s σ H x y v u Q I rx ry h
  obtain ⟨l, xs, rfl, rfl, hT, q⟩ := h
  cases rx
  obtain ⟨t, rfl⟩ := ry
  obtain ⟨its, r, ⟨⟨cls, dd, data, sl⟩, ho, hc, n, hd⟩, hs⟩ := I.tuple hT
  simp only at hc hd
  subst hc hd
  exact wpAny_binaryOp_repeat_ref (T := "tuple") (U := "int") (by decide) ⟨_, ho, rfl⟩ (fun s' => typeIs_int s' 1 t) noFill_tuple_mul F.fills_int_mul F.slot_int_rmul repeat_tuple F.slot_int_index.lookup
    (call_meets F.slot_int_rmul (typeIs_int s 1 t) F.entry_int_rmul (F.args_int_rmul_2 _ _) (int_rmul_tuple 1 t l its.toArray n dd sl)
      ⟨ho, rfl, ⟨_, ho, rfl⟩, call_meets F.slot_tuple_mul ⟨_, ho, rfl⟩ F.entry_tuple_mul (F.args_tuple_mul_2 _ _) (tuple_mul1 l its.toArray n dd sl t) ⟨ho, ⟨.ref l, H, I, rfl, q⟩⟩⟩)
section
variable {K : PySem.W.Frag} {ρ ρ' al fp f : List Addr} {H H' : Hp} {v w : V} {vs ws : List V} {m x y : MV} {ms xs ys : List MV} {st st' : Store} {Q : VK}
theorem Reps.rep (r : Reps K ρ H vs ms []) : ∀ n : Nat, Reps K ρ H (List.replicate n vs).flatten (List.replicate n ms).flatten []
  | 0 => .nil
  | n + 1 => by
    rw [List.replicate_succ, List.replicate_succ, List.flatten_cons, List.flatten_cons]
    exact Reps.app (f := []) (g := []) r (Reps.rep r n)
theorem repLen {α : Type} (xs : List α) : ∀ n : Nat, (List.replicate n xs).flatten.length = n * xs.length
  | 0 => by simp
  | n + 1 => by
    rw [List.replicate_succ, List.flatten_cons, List.length_append, repLen xs n, Nat.succ_mul]
    omega
def rMul4 (K : PySem.W.Frag) : R2 := fun x y H Q => rI CMul (fun i j => .int (i * j)) x y H Q ∨ (rRepT K x y H Q ∨ (rRepT1 K x y H Q ∨ rRep x y H Q))
theorem op_mul4 {X : Cx} : OpR X (binaryOp .Mult) (rMul4 X.K) := op_mul.or (op_repT.or (op_repT1.or op_rep))
theorem fp_noLst : ∀ {m : MV} {v : V} {f : List Addr}, Rep K ρ H v m f → noLst m = true → f = [] := by
  intro m
  have go : ∀ {ms : List MV} {vs : List V} {f : List Addr}, Reps K ρ H vs ms f → (∀ m ∈ ms, ∀ (v : V) (f : List Addr), Rep K ρ H v m f → noLst m = true → f = []) → noLsts ms = true → f = [] := by
    intro ms
    induction ms with
    | nil =>
      intro vs f r _ _
      cases r
      rfl
    | cons m ms ih =>
      intro vs f r hm h
      cases r with
      | cons h1 r =>
        simp only [noLsts, Bool.and_eq_true] at h
        rw [hm m (by simp) _ _ h1 h.1, ih r (fun m' hm' => hm m' (by simp [hm'])) h.2]
        rfl
  have size : ∀ (n : Nat) (m : MV), sizeOf m < n → ∀ (v : V) (f : List Addr), Rep K ρ H v m f → noLst m = true → f = [] := by
    intro n
    induction n with
    | zero => intro m h; omega
    | succ n ih =>
      intro m hsz v f r h
      cases r with
      | tup h1 r =>
        rename_i ms
        simp only [noLst] at h
        exact go r (fun m' hm' v f r' h' => ih m' (by have := List.sizeOf_lt_of_mem hm'; simp at hsz; omega) v f r' h') h
      | lst h1 r => simp [noLst] at h
      | non => rfl
      | bl _ => rfl
      | int _ => rfl
      | str _ _ => rfl
      | ref _ => rfl
      | rol _ => rfl
      | xts _ _ => rfl
  exact fun {v f} r h => size (sizeOf m + 1) m (Nat.lt_succ_self _) v f r h
theorem fp_noLsts : ∀ {ms : List MV} {vs : List V} {f : List Addr}, Reps K ρ H vs ms f → noLsts ms = true → f = []
  | [], _, _, r, _ => by
    cases r
    rfl
  | m :: ms, _, _, r, h => by
    cases r with
    | cons h1 r =>
      simp only [noLsts, Bool.and_eq_true] at h
      rw [fp_noLst h1 h.1, fp_noLsts r h.2]
      rfl
theorem mul_read (A : Aft K ρ [] H st ρ' H') (R : Ress K [] H ρ' H' [v, w] [x, y] fp) (e : mulM x y st = .val m st') (k : Kont K ρ H m st' Q) : rMul4 K v w H' Q := by
  obtain ⟨v1, w1, f, g, e1, e2, r1, r2⟩ := R.rep.two
  cases e1
  have hy : ∃ j, y = .int j := by
    cases x <;> cases y <;> first | exact ⟨_, rfl⟩ | cases e
  obtain ⟨j, rfl⟩ := hy
  obtain ⟨rfl, _⟩ := r2.int_inv
  cases x with
  | int i =>
    obtain ⟨hb, e⟩ := chk_eq (show chk (small64 i || small64 j) (.val (.int (i * j)) st) = Out.val m st' from e)
    cases e
    obtain ⟨rfl, _⟩ := r1.int_inv
    have so : ∀ {i : Int}, small64 i = true → -(2 ^ 64) < i ∧ i < 2 ^ 64 := fun {i} h => by
      unfold small64 at h
      simp only [Bool.and_eq_true, decide_eq_true_eq] at h
      exact h
    refine .inl ⟨i, j, rfl, rfl, ?_, k.plain A (.int _)⟩
    rcases Bool.or_eq_true_iff.mp hb with q | q
    · exact .inl (so q)
    · exact .inr (so q)
  | tup xs =>
    obtain ⟨hb, e⟩ := chk_eq (show chk (!xs.isEmpty && (noLsts xs && (decide (1 ≤ j) && (decide (j ≤ 1000) && decide (xs.length ≤ 1000))))) (.val (.tup (repM xs j)) st) = Out.val m st' from e)
    cases e
    simp only [Bool.and_eq_true, decide_eq_true_eq, Bool.not_eq_true'] at hb
    obtain ⟨h1, h2, h3, h4, h5⟩ := hb
    cases r1 with
    | tup hT r =>
      have ef := fp_noLsts r h2
      subst ef
      have hl := r.length
      by_cases hj : j = 1
      · subst hj
        refine .inr (.inr (.inl ⟨_, _, rfl, rfl, hT, k _ ρ' [] H' A (Res.plain (.tup hT ?_))⟩))
        have : repM xs 1 = xs := by simp [repM]
        rw [this]
        exact r
      · refine .inr (.inl ⟨_, _, _, rfl, rfl, hT, ?_, by omega, h4, by omega, ?_⟩)
        · intro z
          subst z
          have : xs = [] := List.eq_nil_of_length_eq_zero hl.symm
          rw [this] at h1
          cases h1
        · exact k.newT A ⟨r.rep j.toNat, List.nodup_nil, fun _ z => nomatch z⟩
  | lst xs =>
    obtain ⟨hb, e⟩ := chk_eq (show chk (noLsts xs && (decide (0 ≤ j) && (decide (j ≤ 1000) && decide (xs.length ≤ 1000)))) (.val (.lst (repM xs j)) st) = Out.val m st' from e)
    cases e
    simp only [Bool.and_eq_true, decide_eq_true_eq] at hb
    obtain ⟨h2, h3, h4, h5⟩ := hb
    cases r1 with
    | lst hL r =>
      have ef := fp_noLsts r h2
      subst ef
      have hl := r.length
      refine .inr (.inr (.inr ⟨_, _, _, rfl, rfl, hL, by omega, by omega, ?_, ?_⟩))
      · rw [sizeLine_eq, hl]
        have : xs.length * j.toNat ≤ 1000 * 1000 := Nat.mul_le_mul h5 (by omega)
        omega
      · exact k.newL A ⟨r.rep j.toNat, List.nodup_nil, fun _ z => nomatch z⟩
  | _ => cases e
end

section
variable {X : Cx} {a b : Expr} {pos : Pos}
/-- the operator's rule with what it reads -/
def rBin (K : PySem.W.Frag) : Bop → R2
  | .add => rAdd3 K
  | .sub => fun x y H Q => rI0 (fun i j => .int (i - j)) x y H Q ∨ rBI (fun i j => i - j) x y H Q
  | .mul => rMul4 K
  | .fdiv => rI CDivN fun i j => .int (i.fdiv j)
  | .mod => rI (fun _ j => j ≠ 0) fun i j => .int (i.fmod j)
  | .pow => rI CPow fun i j => .int (i ^ j.toNat)
theorem op_bin {op : Operator} {o : Bop} (h : (match op with
    | .Add => some Bop.add
    | .Sub => some .sub
    | .Mult => some .mul
    | .FloorDiv => some .fdiv
    | .Mod => some .mod
    | .Pow => some .pow
    | _ => none) = some o) : OpR X (binaryOp op) (rBin X.K o) := by
  cases op <;> cases h
  · exact op_add3
  · exact op_sub.or op_subB
  · exact op_mul4
  · exact op_modN
  · exact op_pow
  · exact op_fdivN
theorem small64_ok {i : Int} (h : small64 i = true) : -(2 ^ 64) < i ∧ i < 2 ^ 64 := by
  unfold small64 at h
  simp only [Bool.and_eq_true, decide_eq_true_eq] at h
  exact h
theorem bin_read {K : PySem.W.Frag} {ρ ρ' fp : List Addr} {H H' : Hp} {v w : V} {m x y : MV} {st st' : Store} {Q : VK} {o : Bop} (A : Aft K ρ [] H st ρ' H') (R : Ress K [] H ρ' H' [v, w] [x, y] fp) (e : binM o x y st = .val m st') (k : Kont K ρ H m st' Q) : rBin K o v w H' Q := by
  cases o with
  | add => exact add_read A R e k
  | sub =>
    have hy : ∃ j, y = .int j := by
      cases x <;> cases y <;> first | exact ⟨_, rfl⟩ | cases e
    obtain ⟨j, rfl⟩ := hy
    obtain ⟨v1, w1, f, g, e1, e2, r1, r2⟩ := R.rep.two
    cases e1
    obtain ⟨rfl, _⟩ := r2.int_inv
    cases x with
    | int i =>
      cases e
      obtain ⟨rfl, _⟩ := r1.int_inv
      exact .inl ⟨i, j, rfl, rfl, k.plain A (.int _)⟩
    | bl a =>
      cases e
      obtain ⟨rfl, _⟩ := r1.bl_inv
      exact .inr ⟨a, j, rfl, rfl, k.plain A (.int _)⟩
    | _ => cases e
  | mul => exact mul_read A R e k
  | fdiv =>
    obtain ⟨i, j, rfl, rfl, e⟩ := int2_inv (f := fun i j => chk (decide (j ≠ 0) && decide (j.natAbs < 1073741824)) (.val (.int (i.fdiv j)) st)) e
    obtain ⟨hb, e⟩ := chk_eq e
    cases e
    refine int2_read (g := fun i j => .int (i.fdiv j)) (fun i j => .int _) A R ?_ k
    simp only [Bool.and_eq_true, decide_eq_true_eq] at hb
    exact hb
  | mod =>
    obtain ⟨i, j, rfl, rfl, e⟩ := int2_inv (f := fun i j => chk (decide (j ≠ 0)) (.val (.int (i.fmod j)) st)) e
    obtain ⟨hb, e⟩ := chk_eq e
    cases e
    refine int2_read (g := fun i j => .int (i.fmod j)) (fun i j => .int _) A R ?_ k
    exact of_decide_eq_true hb
  | pow =>
    obtain ⟨i, j, rfl, rfl, e⟩ := int2_inv (f := fun i j => chk (decide (0 ≤ j) && (decide (j ≤ 1000000) && decide (i.natAbs < 2 ^ 64))) (.val (.int (i ^ j.toNat)) st)) e
    obtain ⟨hb, e⟩ := chk_eq e
    cases e
    refine int2_read (g := fun i j => .int (i ^ j.toNat)) (fun i j => .int _) A R ?_ k
    simp only [Bool.and_eq_true, decide_eq_true_eq] at hb
    exact hb
end

/-! ### comparisons -/
section
variable {K : PySem.W.Frag} {ρ ρ' al fp f : List Addr} {H H' : Hp} {v w : V} {vs ws : List V} {m x y : MV} {ms xs ys : List MV} {st st' : Store} {Q : VK}
theorem eq_read {fp : List Addr} {kk : Bool → Out MV} (A : Aft K ρ [] H st ρ' H') (R : Ress K [] H ρ' H' [v, w] [x, y] fp) (e : eqM x y st kk = .val m st') :
    ∃ d e', Dp K H' v d ∧ Dp K H' w e' ∧ SeqAt.shaped d = true ∧ SeqAt.shaped e' = true ∧ kk (PyData.eqv d e') = .val m st' := by
  unfold eqM at e
  cases e1 : toD st 9 x with
  | none => rw [e1] at e; cases e
  | some d =>
    cases e2 : toD st 9 y with
    | none => rw [e1, e2] at e; cases e
    | some d2 =>
      rw [e1, e2] at e
      obtain ⟨v1, w1, f, g, e3, e4, r1, r2⟩ := R.rep.two
      cases e3
      obtain ⟨a1, a2, a3⟩ := toD_rep A.rl 9 _ _ _ _ r1 e1
      obtain ⟨b1, b2, b3⟩ := toD_rep A.rl 9 _ _ _ _ r2 e2
      exact ⟨d, d2, a1, b1, shaped_of a2 a3 (by decide), shaped_of b2 b3 (by decide), e⟩
theorem mapM_get {α β : Type} {f : α → Option β} : ∀ {xs : List α} {ys : List β}, xs.mapM f = some ys → ∀ (i : Nat) (x : α), xs[i]? = some x → ∃ y, ys[i]? = some y ∧ f x = some y
  | [], ys, h, i, x, hx => by simp at hx
  | a :: r, ys, h, i, x, hx => by
    rw [List.mapM_cons] at h
    cases e1 : f a with
    | none => rw [e1] at h; cases h
    | some b =>
      rw [e1] at h
      cases e2 : r.mapM f with
      | none => rw [e2] at h; cases h
      | some bs =>
        rw [e2] at h
        cases h
        cases i with
        | zero =>
          simp at hx
          subst hx
          exact ⟨b, rfl, e1⟩
        | succ i => exact mapM_get e2 i x (by simpa using hx)
theorem flat_rep (h : flat m = true) (r : Rep K ρ H v m f) : flatV v = true := by
  cases r <;> first | rfl | cases h
theorem flat_eqV {m1 m2 : MV} {v1 v2 : V} {f1 f2 : List Addr} {d1 d2 : PyData} {n k : Nat} (h1 : flat m1 = true) (h2 : flat m2 = true) (r1 : Rep K ρ H v1 m1 f1) (r2 : Rep K ρ H v2 m2 f2) (e1 : toD st (n + 1) m1 = some d1) (e2 : toD st (k + 1) m2 = some d2) :
    eqV v1 v2 = PyData.eqv d1 d2 := by
  cases r1 <;> first | (cases h1; done) | skip
  all_goals (cases r2 <;> first | (cases h2; done) | skip)
  all_goals (cases e1; cases e2; simp [eqV, PyData.eqv])
theorem any_read {d : PyData} {x0 : MV} {v0 : V} {f0 : List Addr} (hx : flat x0 = true) (r0 : Rep K ρ H v0 x0 f0) (e0 : toD st 9 x0 = some d) : ∀ {ys : List MV} {vs : List V} {f : List Addr} {es : List PyData}, Reps K ρ H vs ys f → ys.all flat = true → ys.mapM (toD st 9) = some es →
    vs.all flatV = true ∧ inV v0 vs = es.any fun e => PyData.eqv e d
  | [], _, _, es, r, _, h => by
    cases r
    simp at h
    subst h
    exact ⟨rfl, rfl⟩
  | y :: ys, _, _, es, r, hf, h => by
    cases r with
    | cons h1 r =>
      rw [List.mapM_cons] at h
      cases e1 : toD st 9 y with
      | none => rw [e1] at h; cases h
      | some b =>
        rw [e1] at h
        cases e2 : ys.mapM (toD st 9) with
        | none => rw [e2] at h; cases h
        | some bs =>
          rw [e2] at h
          cases h
          simp only [List.all_cons, Bool.and_eq_true] at hf
          obtain ⟨a1, a2⟩ := any_read hx r0 e0 r hf.2 e2
          refine ⟨by simp only [List.all_cons, Bool.and_eq_true]; exact ⟨flat_rep hf.1 h1, a1⟩, ?_⟩
          show (eqV _ v0 || inV v0 _) = (PyData.eqv b d || bs.any _)
          rw [a2, flat_eqV hf.1 hx h1 r0 e1 e0]
def rMem (K : PySem.W.Frag) (neg : Bool) : R2 := fun x y H Q => rIn K neg x y H Q ∨ ((if neg then rNotInD K x y H Q else rInD K x y H Q) ∨ rDct K neg x y H Q)
theorem mem_read {fp : List Addr} {kk : Bool → Out MV} {neg : Bool} (A : Aft K ρ [] H st ρ' H') (R : Ress K [] H ρ' H' [v, w] [x, y] fp) (e : memM x y st kk = .val m st') (hk : ∀ b, kk b = .val m st' → Q (.bl (if neg then !b else b)) H') : rMem K neg v w H' Q := by
  unfold memM at e
  cases e0 : seqOf st y with
  | none =>
    rw [e0] at e
    have e : (match dctOf st y, keyOf x with
      | some ks, some i => kk (decide (i ∈ ks))
      | _, _ => .bad) = .val m st' := e
    obtain ⟨v1, w1, f, g, e3, e4, r1, r2⟩ := R.rep.two
    cases e3
    cases y with
    | ref c =>
      obtain ⟨l, rfl, hl⟩ := ref_at r2
      obtain ⟨cc, hc, q⟩ := A.rl.at_ hl
      have hd : dctOf st (.ref c) = (match st[c]? with
        | some (.dct ks) => some ks
        | _ => none) := rfl
      rw [hd, hc] at e
      cases q with
      | lst _ _ => cases e
      | obj _ _ _ => cases e
      | @dct xs h kr =>
        cases x with
        | tup is =>
          cases ei : intsOf is with
          | none =>
            have e : (match some (xs.map (·.1)), intsOf is with
              | some ks, some i => kk (decide (i ∈ ks))
              | _, _ => .bad) = .val m st' := e
            rw [ei] at e
            cases e
          | some i =>
            have e : (match some (xs.map (·.1)), intsOf is with
              | some ks, some i => kk (decide (i ∈ ks))
              | _, _ => .bad) = .val m st' := e
            rw [ei] at e
            have q := hk _ e
            have ez := intsOf_map ei
            subst ez
            cases r1 with
            | tup hs rs =>
              have ev := rs.ints
              subst ev
              exact .inr (.inr ⟨l, _, xs, i, rfl, rfl, h, kr, hs, by cases neg <;> exact q⟩)
        | _ => cases e
    | _ => (first | cases e | (cases x <;> cases e))
  | some ys =>
    rw [e0] at e
    obtain ⟨hc, e⟩ := chk_eq e
    cases e1 : toD st 9 x with
    | none => rw [e1] at e; cases e
    | some d =>
      cases e2 : ys.mapM (toD st 9) with
      | none => rw [e1, e2] at e; cases e
      | some es =>
        rw [e1, e2] at e
        have q := hk _ e
        obtain ⟨v1, w1, f, g, e3, e4, r1, r2⟩ := R.rep.two
        cases e3
        obtain ⟨a, vs, g', rfl, hs, rs, ss⟩ := seqOf_rep A.rl r2 e0
        rcases Bool.or_eq_true_iff.mp hc with ht | ht
        · -- a list: data of any depth
          have ht : isTup y = false := by
            cases z : isTup y with
            | false => rfl
            | true => rw [z] at ht; cases ht
          rcases hs with ⟨z, _⟩ | ⟨_, hs⟩
          · rw [ht] at z; cases z
          · obtain ⟨a1, a2, a3⟩ := toD_rep A.rl 9 _ _ _ _ r1 e1
            obtain ⟨b1, b2, b3⟩ := toDs (st := st) (toD_rep A.rl 9) rs e2
            have s2 : SeqAt.shaped (.list es) = true := shaped_of (n := 10) (by simpa [PyData.canLay0] using b2) (by simp only [PyData.depth]; omega) (by decide)
            refine .inr (.inl ?_)
            cases neg with
            | true => exact ⟨d, es, a1, .lst hs b1, shaped_of a2 a3 (by decide), s2, q⟩
            | false => exact ⟨d, es, a1, .lst hs b1, shaped_of a2 a3 (by decide), s2, q⟩
        · simp only [Bool.and_eq_true] at ht
          obtain ⟨p1, p2⟩ := any_read ht.1 r1 e1 rs ht.2 e2
          refine .inl ⟨a, vs, rfl, ?_, flat_rep ht.1 r1, p1, ?_⟩
          · rcases hs with ⟨_, hs⟩ | ⟨_, hs⟩
            · exact .inr hs
            · exact .inl hs
          · rw [p2]
            exact q
theorem op_mem {X : Cx} (hu : X.A.units + 65 < cLine) : OpR X (compareOp .In) (rMem X.K false) := op_in_seq.or ((op_inD hu).or (op_dctIn (by omega)))
theorem op_nmem {X : Cx} (hu : X.A.units + 65 < cLine) : OpR X (compareOp .NotIn) (rMem X.K true) := op_notIn_seq.or ((op_notInD hu).or (op_dctNotIn (by omega)))
def rIs3 : R2 := fun x y H Q => (y = .non ∧ Q (.bl (decide (x = .non))) H) ∨ rIsB x y H Q
def rIsn3 : R2 := fun x y H Q => (y = .non ∧ Q (.bl (!decide (x = .non))) H) ∨ rNotB x y H Q
theorem isNon_rep (r : Rep K ρ H v m f) : isNon m = decide (v = .non) := by
  cases r <;> simp [isNon]
theorem is_read {fp : List Addr} {kk : Bool → Out MV} (A : Aft K ρ [] H st ρ' H') (R : Ress K [] H ρ' H' [v, w] [x, y] fp) (e : isM x y st kk = .val m st') :
    (w = .non ∧ kk (decide (v = .non)) = .val m st') ∨ ∃ a b : Bool, v = .bl a ∧ w = .bl b ∧ kk (decide (a = b)) = .val m st' := by
  obtain ⟨v1, w1, f, g, e3, e4, r1, r2⟩ := R.rep.two
  cases e3
  cases y with
  | non =>
    obtain ⟨rfl, _⟩ := r2.non_inv
    refine .inl ⟨rfl, ?_⟩
    rw [← isNon_rep r1]
    exact e
  | bl b =>
    obtain ⟨rfl, _⟩ := r2.bl_inv
    cases x with
    | bl a =>
      obtain ⟨rfl, _⟩ := r1.bl_inv
      exact .inr ⟨a, b, rfl, rfl, e⟩
    | _ => cases e
  | _ => cases e
/-- the comparison's rule -/
def rCmp (K : PySem.W.Frag) : Cop → R2
  | .eq => rEqD K
  | .ne => rNeD K
  | .lt => rI0 fun i j => .bl (decide (i < j))
  | .le => rI0 fun i j => .bl (decide (i ≤ j))
  | .gt => rI0 fun i j => .bl (decide (j < i))
  | .ge => rI0 fun i j => .bl (decide (j ≤ i))
  | .is => rIs3
  | .isn => rIsn3
  | .mem => rMem K false
  | .nmem => rMem K true
theorem ord_read {fp : List Addr} {p : Int → Int → Bool} (A : Aft K ρ [] H st ρ' H') (R : Ress K [] H ρ' H' [v, w] [x, y] fp) (e : ordM x y st p = .val m st') (k : Kont K ρ H m st' Q) : rI0 (fun i j => .bl (p i j)) v w H' Q := by
  obtain ⟨i, j, rfl, rfl, e⟩ := int2_inv (f := fun i j => .val (.bl (p i j)) st) e
  cases e
  obtain ⟨v1, w1, f, g, e1, e2, r1, r2⟩ := R.rep.two
  cases e1
  obtain ⟨rfl, _⟩ := r1.int_inv
  obtain ⟨rfl, _⟩ := r2.int_inv
  exact ⟨i, j, rfl, rfl, k.plain A (.bl _)⟩
theorem cmp_read {fp : List Addr} {o : Cop} (A : Aft K ρ [] H st ρ' H') (R : Ress K [] H ρ' H' [v, w] [x, y] fp) (e : cmpM o x y st = .val m st') (k : Kont K ρ H m st' Q) : rCmp K o v w H' Q := by
  have fin : ∀ b, (Out.val (MV.bl b) st) = .val m st' → Q (.bl b) H' := fun b e => by
    cases e
    exact k.plain A (.bl b)
  cases o with
  | eq =>
    obtain ⟨d, d2, h1, h2, h3, h4, e⟩ := eq_read (kk := fun b => .val (.bl b) st) A R e
    exact ⟨d, d2, h1, h2, h3, h4, fin _ e⟩
  | ne =>
    obtain ⟨d, d2, h1, h2, h3, h4, e⟩ := eq_read (kk := fun b => .val (.bl (!b)) st) A R e
    exact ⟨d, d2, h1, h2, h3, h4, fin _ e⟩
  | lt => exact ord_read A R e k
  | le => exact ord_read A R e k
  | gt => exact ord_read A R e k
  | ge => exact ord_read A R e k
  | is =>
    rcases is_read (kk := fun b => .val (.bl b) st) A R e with ⟨h1, e⟩ | ⟨a, b, h1, h2, e⟩
    · exact .inl ⟨h1, fin _ e⟩
    · exact .inr ⟨a, b, h1, h2, fin _ e⟩
  | isn =>
    rcases is_read (kk := fun b => .val (.bl (!b)) st) A R e with ⟨h1, e⟩ | ⟨a, b, h1, h2, e⟩
    · exact .inl ⟨h1, fin _ e⟩
    · exact .inr ⟨a, b, h1, h2, fin _ e⟩
  | mem => exact mem_read (neg := false) (kk := fun b => .val (.bl b) st) A R e fun b e => fin _ e
  | nmem => exact mem_read (neg := true) (kk := fun b => .val (.bl (!b)) st) A R e fun b e => fin _ e
theorem op_cmp {X : Cx} (hu : X.A.units + 65 < cLine) {op : CmpOp} {o : Cop} (h : (match op with
    | .Eq => Cop.eq
    | .NotEq => .ne
    | .Lt => .lt
    | .LtE => .le
    | .Gt => .gt
    | .GtE => .ge
    | .Is => .is
    | .IsNot => .isn
    | .In => .mem
    | .NotIn => .nmem) = o) : OpR X (compareOp op) (rCmp X.K o) := by
  have hu2 : X.A.units + 64 < cLine := Nat.lt_of_succ_lt hu
  cases op <;> cases h
  · exact op_eqD hu2
  · exact op_neD hu2
  · exact op_lt
  · exact op_le
  · exact op_gt
  · exact op_ge
  · exact op_isN.or op_isBl
  · exact op_notN.or op_notBl
  · exact op_mem hu
  · exact op_nmem hu
end
end QR

set_option Elab.async false
set_option linter.all false
set_option maxRecDepth 100000
set_option maxHeartbeats 1000000
/-! QBlt: built-ins, subscripts, slices, methods. -/
namespace QR
open PySem PySem.Spec PyProof.Rows L2

/-! ### order -/
theorem ins_perm {α : Type} (le : α → α → Bool) (x : α) : ∀ l : List α, (ins le x l).Perm (x :: l)
  | [] => List.Perm.refl _
  | y :: ys => by
    unfold ins
    split
    · exact List.Perm.refl _
    · exact ((ins_perm le x ys).cons y).trans (List.Perm.swap x y ys)
theorem isort_perm {α : Type} (le : α → α → Bool) : ∀ l : List α, (isort le l).Perm l
  | [] => List.Perm.refl _
  | x :: xs => (ins_perm le x _).trans ((isort_perm le xs).cons x)
theorem ins_sorted {x : Int} : ∀ {l : List Int}, l.Pairwise (· ≤ ·) → (ins (fun a b => decide (a ≤ b)) x l).Pairwise (· ≤ ·)
  | [], _ => by simp [ins]
  | y :: ys, h => by
    obtain ⟨h1, h2⟩ := List.pairwise_cons.mp h
    unfold ins
    by_cases e : x ≤ y
    · rw [if_pos (by simpa using e)]
      refine List.pairwise_cons.mpr ⟨fun z hz => ?_, h⟩
      rcases List.mem_cons.mp hz with q | q
      · rw [q]; exact e
      · exact Int.le_trans e (h1 z q)
    · rw [if_neg (by simpa using e)]
      refine List.pairwise_cons.mpr ⟨fun z hz => ?_, ins_sorted h2⟩
      rcases List.mem_cons.mp ((ins_perm _ x ys).subset hz) with q | q
      · omega
      · exact h1 z q
theorem isort_sorted : ∀ l : List Int, (isort (fun a b => decide (a ≤ b)) l).Pairwise (· ≤ ·)
  | [] => List.Pairwise.nil
  | x :: xs => ins_sorted (isort_sorted xs)
theorem least_mem {α : Type} (le : α → α → Bool) : ∀ (x : α) (l : List α), leastOf le x l ∈ x :: l
  | x, [] => by simp [leastOf]
  | x, y :: ys => by
    unfold leastOf
    split
    · rcases List.mem_cons.mp (least_mem le x ys) with q | q
      · rw [q]; simp
      · simp [q]
    · rcases List.mem_cons.mp (least_mem le y ys) with q | q
      · rw [q]; simp
      · simp [q]
theorem least_le : ∀ (x : Int) (l : List Int), ∀ y ∈ x :: l, leastOf (fun a b => decide (a ≤ b)) x l ≤ y
  | x, [], y, h => by
    have e : y = x := by simpa using h
    rw [e]
    exact Int.le_refl _
  | x, z :: zs, y, h => by
    unfold leastOf
    by_cases e : x ≤ z
    · rw [if_pos (by simpa using e)]
      rcases List.mem_cons.mp h with q | h
      · exact least_le x zs y (by rw [q]; simp)
      · rcases List.mem_cons.mp h with q | q
        · rw [q]; exact Int.le_trans (least_le x zs x (by simp)) e
        · exact least_le x zs y (by simp [q])
    · rw [if_neg (by simpa using e)]
      rcases List.mem_cons.mp h with q | h
      · have := least_le z zs z (by simp)
        rw [q]; omega
      · rcases List.mem_cons.mp h with q | q
        · rw [q]; exact least_le z zs z (by simp)
        · exact least_le z zs y (by simp [q])
theorem most_le : ∀ (x : Int) (l : List Int), ∀ y ∈ x :: l, y ≤ leastOf (fun a b => decide (b ≤ a)) x l
  | x, [], y, h => by
    have e : y = x := by simpa using h
    rw [e]
    exact Int.le_refl _
  | x, z :: zs, y, h => by
    unfold leastOf
    by_cases e : z ≤ x
    · rw [if_pos (by simpa using e)]
      rcases List.mem_cons.mp h with q | h
      · exact most_le x zs y (by rw [q]; simp)
      · rcases List.mem_cons.mp h with q | q
        · rw [q]; exact Int.le_trans e (most_le x zs x (by simp))
        · exact most_le x zs y (by simp [q])
    · rw [if_neg (by simpa using e)]
      rcases List.mem_cons.mp h with q | h
      · have := most_le z zs z (by simp)
        rw [q]; omega
      · rcases List.mem_cons.mp h with q | q
        · rw [q]; exact most_le z zs z (by simp)
        · exact most_le z zs y (by simp [q])

/-! ### sum of a tuple -/
section
variable {X : Cx}
def rSumT (K : PySem.W.Frag) : List V → Hp → VK → Prop := fun vs H Q => ∃ (a : Addr) (ns : List Int), vs = [V.ref a] ∧ SqT K H a (ns.map V.int) ∧ Q (.int ns.sum) H
theorem cr_sumT (hc : X.calm = true) : CallR X (.builtin "sum") (rSumT X.K) := by
  intro pins s σ H vs us Q I r h
  obtain ⟨a, ns, rfl, hs, q⟩ := h
  obtain ⟨its, rv, hl, _⟩ := I.tuple hs
  rw [Vals.ref1 r]
  have hi := rv.ints
  obtain ⟨xs, e⟩ := hi.allInts.items
  have hn : numsOf (intItems xs).toList = ns := by rw [← e]; exact hi.numsOf
  rw [nums_intItems] at hn
  have hl2 : s.heap.IsTuple a (intItems xs) := by rw [← e]; exact hl
  refine PySem.W.ktm_sumG (I.ok.hd hc) hl2 fun h' tk t' hk => ⟨.int ns.sum, H, I.kept hk, ⟨t', ?_⟩, q⟩
  rw [preSum_eq, List.take_of_length_le (by simp), hn]

/-! ### the calls -/
def bltV : Blt → Value
  | .len => .builtin "len"
  | .abs => .builtin "abs"
  | .min => .builtin "min"
  | .max => .builtin "max"
  | .int => .type "int"
  | .sum => .builtin "sum"
  | .all => .builtin "all"
  | .any => .builtin "any"
  | .sorted => .builtin "sorted"
  | .tuple => .type "tuple"
  | .list => .type "list"
  | .isi _ => .builtin "isinstance"
def rNo : List V → Hp → VK → Prop := fun _ _ _ => False
def rOr (r r' : List V → Hp → VK → Prop) : List V → Hp → VK → Prop := fun xs H Q => r xs H Q ∨ r' xs H Q
def bltR (K : PySem.W.Frag) : Blt → List V → Hp → VK → Prop
  | .len => rOr (fun xs H Q => ∃ p ys, xs = [.ref p] ∧ (SqL K H p ys ∨ SqT K H p ys) ∧ Q (.int ys.length) H) (fun xs H Q => ∃ z, xs = [.str z] ∧ z.length ≤ sizeLine ∧ Q (.int z.length) H)
  | .abs => fun xs H Q => ∃ i, xs = [.int i] ∧ Q (.int (if i < 0 then -i else i)) H
  | .min => rOr (fun xs H Q => ∃ i j, xs = [.int i, .int j] ∧ Q (.int (if j < i then j else i)) H) (rOr (rMin K) (rMinD K))
  | .max => rOr (fun xs H Q => ∃ i j, xs = [.int i, .int j] ∧ Q (.int (if j > i then j else i)) H) (rMax K)
  | .int => fun xs H Q => (∃ i, xs = [.int i] ∧ Q (.int i) H) ∨ ∃ k, xs = [.bl k] ∧ Q (.int (if k then 1 else 0)) H
  | .sum => rOr (rSum K) (rSumT K)
  | .all => rAll K
  | .any => rAny K
  | .sorted => rOr (rSortedI K) (rOr (rSortIT K) (rSortRows K))
  | .tuple => fun xs H Q => ∃ p ys, xs = [.ref p] ∧ ((SqL K H p ys ∧ ∀ l, H l = none → Q (.ref l) (upd H l (.tup ys))) ∨ (SqT K H p ys ∧ Q (.ref p) H))
  | .list => fun xs H Q => ∃ p ys, xs = [.ref p] ∧ (SqL K H p ys ∨ SqT K H p ys) ∧ ∀ l, H l = none → Q (.ref l) (upd H l (.lst ys))
  | .isi _ => rNo
theorem no_call {f : Value} : CallR X f rNo := fun _ _ _ _ _ _ _ _ _ h => h.elim
theorem blt_call (hc : X.calm = true) (hu : X.A.units + 65 < cLine) (b : Blt) : CallR X (bltV b) (bltR X.K b) := by
  cases b with
  | len => exact call_len_seq.or call_len_str
  | abs => exact call_abs
  | min => exact (call_min2 hc).or ((cr_min hc).or (cr_minD hc (by omega)))
  | max => exact (call_max2 hc).or (cr_max hc)
  | int => exact call_int1
  | sum => exact (cr_sum hc).or (cr_sumT hc)
  | all => exact cr_all hc
  | any => exact cr_any hc
  | sorted => exact cr_sortedI.or (cr_sortIT.or (cr_sortRows (by omega)))
  | tuple => exact call_tuple_of
  | list => exact call_list_of
  | isi t => exact no_call
end
section
variable {K : PySem.W.Frag} {ρ ρ' al fp f : List Addr} {H H' : Hp} {v w : V} {vs ws : List V} {m x y : MV} {ms xs ys : List MV} {st st' : Store} {Q : VK}
theorem one_int {i : Int} (R : Ress K [] H ρ' H' vs [.int i] fp) : vs = [.int i] := by
  obtain ⟨v, rfl, r⟩ := R.rep.one
  rw [r.int_inv.1]
theorem two_int {i j : Int} (R : Ress K [] H ρ' H' vs [.int i, .int j] fp) : vs = [.int i, .int j] := by
  obtain ⟨v, w, f, g, rfl, _, r1, r2⟩ := R.rep.two
  rw [r1.int_inv.1, r2.int_inv.1]
theorem lst_read (A : Aft K ρ [] H st ρ' H') (R : Ress K [] H ρ' H' vs [x] fp) (h : lstOf st x = some xs) : ∃ a ws f, vs = [.ref a] ∧ H' a = some (.lst ws) ∧ Reps K ρ' H' ws xs f ∧ List.Sublist f fp := by
  obtain ⟨v, rfl, r⟩ := R.rep.one
  obtain ⟨a, ws, f, rfl, h1, h2, h3⟩ := lstOf_rep A.rl r h
  exact ⟨a, ws, f, rfl, h1, h2, h3⟩
theorem seq_read (A : Aft K ρ [] H st ρ' H') (R : Ress K [] H ρ' H' vs [x] fp) (h : seqOf st x = some xs) :
    ∃ a ws f, vs = [.ref a] ∧ ((isTup x = true ∧ SqT K H' a ws) ∨ (isTup x = false ∧ SqL K H' a ws)) ∧ Reps K ρ' H' ws xs f ∧ List.Sublist f fp := by
  obtain ⟨v, rfl, r⟩ := R.rep.one
  obtain ⟨a, ws, f, rfl, h1, h2, h3⟩ := seqOf_rep A.rl r h
  exact ⟨a, ws, f, rfl, h1, h2, h3⟩
theorem len_read (A : Aft K ρ [] H st ρ' H') (R : Ress K [] H ρ' H' vs [x] fp) (e : lenM x st = .val m st') (k : Kont K ρ H m st' Q) : bltR K .len vs H' Q := by
  by_cases hx : ∃ z, x = .str z
  · obtain ⟨z, rfl⟩ := hx
    obtain ⟨hb, e⟩ := chk_eq (show chk (decide (z.length ≤ big)) (.val (.int z.length) st) = Out.val m st' from e)
    cases e
    obtain ⟨v, rfl, r⟩ := R.rep.one
    rw [r.str_inv.1]
    exact .inr ⟨z, rfl, Nat.le_trans (of_decide_eq_true hb) big_le, k.plain A (.int _)⟩
  · have e : (match seqOf st x with
      | some xs => .val (.int xs.length) st
      | none => .bad) = Out.val m st' := by
      cases x <;> first | exact e | exact absurd ⟨_, rfl⟩ hx
    cases h : seqOf st x with
    | none => rw [h] at e; cases e
    | some xs =>
      rw [h] at e
      cases e
      obtain ⟨a, ws, f, rfl, h1, h2, _⟩ := seq_read A R h
      refine .inl ⟨a, ws, rfl, ?_, ?_⟩
      · rcases h1 with ⟨_, q⟩ | ⟨_, q⟩
        · exact .inr q
        · exact .inl q
      · rw [h2.length]
        exact k.plain A (.int _)
/-! rows, keys -/
theorem rowsOf_map : ∀ {xs : List MV} {rs : List (List Int)}, rowsOf xs = some rs → xs = rs.map rowMV
  | [], rs, h => by cases h; rfl
  | x :: xs, rs, h => by
    cases x with
    | tup ys =>
      have h : ((intsOf ys).bind fun i => (rowsOf xs).map (i :: ·)) = some rs := h
      simp only [Option.bind_eq_some_iff, Option.map_eq_some_iff] at h
      obtain ⟨i, h1, r, h2, rfl⟩ := h
      rw [intsOf_map h1, rowsOf_map h2]
      rfl
    | _ => cases h
theorem rows_of : ∀ {rs : List (List Int)} {ws : List V} {f : List Addr}, Reps K ρ H ws (rs.map rowMV) f → ∃ bs : List (V × List Int), ws = bs.map (·.1) ∧ rs = bs.map (·.2) ∧ ∀ b ∈ bs, (∃ t, b.1 = V.ref t ∧ SqT K H t (b.2.map V.int)) ∧ Rep K ρ H b.1 (rowMV b.2) []
  | [], _, _, r => by
    cases r
    exact ⟨[], rfl, rfl, fun _ z => nomatch z⟩
  | x :: rs, ws, f, r => by
    cases r with
    | cons h1 r =>
      obtain ⟨bs, e1, e2, hb⟩ := rows_of r
      have h1 : Rep K ρ H _ (.tup (x.map MV.int)) _ := h1
      cases h1 with
      | tup hT rr =>
        have ew := rr.ints
        subst ew
        refine ⟨(.ref _, x) :: bs, by rw [e1]; rfl, by rw [e2]; rfl, fun b hb' => ?_⟩
        rcases List.mem_cons.mp hb' with z | z
        · rw [z]
          exact ⟨⟨_, rfl, hT⟩, .tup hT reps_ints⟩
        · exact hb b z
theorem rows_back : ∀ {bs : List (V × List Int)}, (∀ b ∈ bs, Rep K ρ H b.1 (rowMV b.2) []) → Reps K ρ H (bs.map (·.1)) ((bs.map (·.2)).map rowMV) []
  | [], _ => .nil
  | b :: bs, h => .cons (f := []) (fs := []) (h b List.mem_cons_self) (rows_back fun c hc => h c (List.mem_cons_of_mem _ hc))
theorem keysOf_map : ∀ {xs : List MV} {ks : List (List Int)}, keysOf xs = some ks → xs = ks.map keyMV ∧ ∀ k ∈ ks, k ≠ []
  | [], ks, h => by cases h; exact ⟨rfl, fun _ z => nomatch z⟩
  | x :: xs, ks, h => by
    have hx : ∃ i ys, x = .tup [.int i, .tup ys] := by
      unfold keysOf at h
      split at h
      · rename_i e; cases e
      · rename_i e; cases e; exact ⟨_, _, rfl⟩
      · cases h
    obtain ⟨i, ys, rfl⟩ := hx
    have h : ((intsOf ys).bind fun k => (keysOf xs).map ((i :: k) :: ·)) = some ks := h
    simp only [Option.bind_eq_some_iff, Option.map_eq_some_iff] at h
    obtain ⟨k, h1, r, h2, rfl⟩ := h
    obtain ⟨e1, e2⟩ := keysOf_map h2
    refine ⟨by rw [intsOf_map h1, e1]; rfl, fun z hz => ?_⟩
    rcases List.mem_cons.mp hz with q | q
    · rw [q]; exact List.cons_ne_nil _ _
    · exact e2 z q
theorem keyD_inj {a b : List Int} (ha : a ≠ []) (hb : b ≠ []) (h : keyD a = keyD b) : a = b := by
  cases a with
  | nil => exact absurd rfl ha
  | cons i r =>
    cases b with
    | nil => exact absurd rfl hb
    | cons j q =>
      simp only [keyD, rowD, PyData.tuple.injEq, List.cons.injEq, PyData.int.injEq, and_true] at h
      rw [h.1, (List.map_inj_right (fun x y z => PyData.int.inj z)).mp h.2]
theorem toD_ints {n : Nat} : ∀ {r : List Int}, (r.map MV.int).mapM (toD st (n + 1)) = some (r.map PyData.int)
  | [] => rfl
  | i :: r => by
    rw [List.map_cons, List.mapM_cons, toD_ints]
    rfl
theorem toD_key {k : List Int} (hk : k ≠ []) : toD st 9 (keyMV k) = some (keyD k) := by
  cases k with
  | nil => exact absurd rfl hk
  | cons i r =>
    have e : toD st 8 (.tup (r.map .int)) = some (rowD r) := by
      show ((r.map MV.int).mapM (toD st 7)).map PyData.tuple = _
      rw [toD_ints]
      rfl
    show (([MV.int i, .tup (r.map .int)]).mapM (toD st 8)).map PyData.tuple = _
    rw [List.mapM_cons, List.mapM_cons, List.mapM_nil, e]
    rfl
theorem keys_dp (R : Rl K ρ st H) : ∀ {ks : List (List Int)} {ws : List V} {f : List Addr}, (∀ k ∈ ks, k ≠ []) → Reps K ρ H ws (ks.map keyMV) f → DpAll K H ws (ks.map keyD)
  | [], _, _, _, r => by
    cases r
    exact .nil
  | k :: ks, ws, f, hk, r => by
    cases r with
    | cons h1 r => exact .cons (toD_rep R 9 _ _ _ _ h1 (toD_key (hk k List.mem_cons_self))).1 (keys_dp R (fun z hz => hk z (List.mem_cons_of_mem _ hz)) r)
theorem keys_alike {ks : List (List Int)} (h : ∀ k ∈ ks, k ≠ []) : PySem.W.AlikeAll (ks.map keyD) := by
  refine ⟨fun x hx y hy => ?_, fun x hx => ?_⟩
  · obtain ⟨a, ha, rfl⟩ := List.mem_map.mp hx
    obtain ⟨b, hb, rfl⟩ := List.mem_map.mp hy
    cases a with
    | nil => exact absurd rfl (h _ ha)
    | cons i r =>
      cases b with
      | nil => exact absurd rfl (h _ hb)
      | cons j q => simp [keyD, rowD, PySem.W.alike, PySem.W.alikeAll, PySem.W.alike_ints]
  · obtain ⟨a, ha, rfl⟩ := List.mem_map.mp hx
    cases a with
    | nil => exact absurd rfl (h _ ha)
    | cons i r => intro z; cases z
theorem keys_depth : ∀ {ks : List (List Int)}, (∀ k ∈ ks, k ≠ []) → PyData.depthAll (ks.map keyD) ≤ 9
  | [], _ => by simp [PyData.depthAll]
  | k :: ks, h => by
    have ih := keys_depth fun z hz => h z (List.mem_cons_of_mem _ hz)
    rw [List.map_cons, PyData.depthAll]
    have : (keyD k).depth ≤ 9 := by
      cases k with
      | nil => exact absurd rfl (h _ List.mem_cons_self)
      | cons i r => simp [keyD, rowD, PyData.depth, PyData.depthAll, PySem.W.depth_ints]
    omega
theorem dataLt_key {a b : List Int} (ha : a ≠ []) (hb : b ≠ []) : PySem.W.dataLt (keyD a) (keyD b) = rowLt a b := by
  cases a with
  | nil => exact absurd rfl ha
  | cons i r =>
    cases b with
    | nil => exact absurd rfl hb
    | cons j q =>
      refine (PySem.W.DatumOrd.lt_eq (α := Int × PySem.W.Tup Int) (i, ⟨r⟩) (j, ⟨q⟩)).trans ?_
      show (if i = j then PySem.W.listLt r q else decide (i < j)) = rowLt (i :: r) (j :: q)
      rw [listLt_row]
      rfl
theorem keys_min : ∀ {ks : List (List Int)} {k : List Int}, (∀ z ∈ k :: ks, z ≠ []) → PySem.W.minD (keyD k) (ks.map keyD) = keyD (leastOf lexLe k ks)
  | [], k, _ => rfl
  | y :: ks, k, h => by
    unfold PySem.W.minD
    rw [List.map_cons, List.foldl_cons, dataLt_key (h _ (by simp)) (h _ (by simp))]
    unfold leastOf
    rw [lexLe_row]
    cases q : rowLt y k with
    | true =>
      simp only [Bool.not_true, Bool.false_eq_true, if_false, if_true]
      exact keys_min fun z hz => h z (by rcases List.mem_cons.mp hz with e | e <;> simp [e])
    | false =>
      simp only [Bool.not_false, Bool.false_eq_true, if_false, if_true]
      exact keys_min fun z hz => h z (by rcases List.mem_cons.mp hz with e | e <;> simp [e])
theorem blt_read {b : Blt} (hb : ∀ t, b ≠ .isi t) (A : Aft K ρ [] H st ρ' H') (R : Ress K [] H ρ' H' vs ms fp) (e : bltM b ms st = .val m st') (k : Kont K ρ H m st' Q) : bltR K b vs H' Q := by
  cases b with
  | isi t => exact absurd rfl (hb t)
  | len =>
    match ms, e with
    | [x], e => exact len_read A R e k
    | [], e => cases e
    | _ :: _ :: _, e => cases e
  | abs =>
    match ms, e with
    | [.int i], e =>
      cases e
      exact ⟨i, one_int R, k.plain A (.int _)⟩
    | [], e => cases e
    | [.non], e => cases e
    | [.bl _], e => cases e
    | [.str _], e => cases e
    | [.tup _], e => cases e
    | [.lst _], e => cases e
    | [.rol _], e => cases e
    | [.xts _], e => cases e
    | [.ref _], e => cases e
    | _ :: _ :: _, e => simp [bltM] at e
  | min =>
    by_cases h2 : ∃ i j, ms = [.int i, .int j]
    · obtain ⟨i, j, rfl⟩ := h2
      cases e
      exact .inl ⟨i, j, two_int R, k.plain A (.int _)⟩
    · have h1 : ∃ x xs, ms = [x] ∧ lstOf st x = some xs ∧ minM xs st = .val m st' := by
        match ms, e with
        | [x], e =>
          cases h : lstOf st x with
          | none => cases x <;> simp [bltM, h] at e
          | some xs => exact ⟨x, xs, rfl, h, by cases x <;> simpa [bltM, h] using e⟩
        | [], e => cases e
        | [x, y], e => cases x <;> cases y <;> first | exact absurd ⟨_, _, rfl⟩ h2 | cases e
        | _ :: _ :: _ :: _, e => simp [bltM] at e
      obtain ⟨x, xs, rfl, h, e⟩ := h1
      obtain ⟨a, ws, f, rfl, ha, r, hsub⟩ := lst_read A R h
      cases xs with
      | nil => cases e
      | cons x0 xs0 =>
        simp only [minM] at e
        cases q : intsOf (x0 :: xs0) with
        | none =>
          rw [q] at e
          have e : (match keysOf (x0 :: xs0) with
            | some (k :: ks) => Out.val (keyMV (leastOf lexLe k ks)) st
            | _ => .bad) = Out.val m st' := e
          cases q2 : keysOf (x0 :: xs0) with
          | none => rw [q2] at e; cases e
          | some ks =>
            rw [q2] at e
            obtain ⟨e2, hne⟩ := keysOf_map q2
            cases ks with
            | nil => cases e
            | cons k0 ks =>
              cases e
              rw [e2] at r
              refine .inr (.inr ⟨a, ws, keyD k0, ks.map keyD, rfl, SqL.of ha, keys_dp A.rl hne r, keys_alike hne, keys_depth hne, fun i w hw hd => ?_⟩)
              have hd : ((k0 :: ks).map keyD)[i]? = some (PySem.W.minD (keyD k0) (ks.map keyD)) := hd
              rw [keys_min hne, List.getElem?_map] at hd
              obtain ⟨k1, hk1, hk2⟩ := Option.map_eq_some_iff.mp hd
              have hk3 : k1 = leastOf lexLe k0 ks := keyD_inj (hne _ (List.mem_of_getElem? hk1)) (hne _ (least_mem _ k0 ks)) hk2
              obtain ⟨u, f2, hu2, ru, su⟩ := r.get (i := i) (m := keyMV k1) (by rw [List.getElem?_map, hk1]; rfl)
              rw [hw] at hu2
              cases hu2
              rw [hk3] at ru
              exact k _ ρ' f2 _ A (Res.sub R ru (su.trans hsub))
        | some ns =>
          rw [q] at e
          have e2 := intsOf_map q
          cases ns with
          | nil => cases e
          | cons n ns =>
            cases e
            rw [e2] at r
            have ew := r.ints
            subst ew
            refine .inr (.inl ⟨a, n :: ns, rfl, SqL.of ha, Nat.succ_pos _, fun z hz hle => ?_⟩)
            have e3 : z = leastOf (fun a b => decide (a ≤ b)) n ns := Int.le_antisymm (hle _ (least_mem _ n ns)) (least_le n ns z hz)
            rw [e3]
            exact k.plain A (.int _)
  | max =>
    by_cases h2 : ∃ i j, ms = [.int i, .int j]
    · obtain ⟨i, j, rfl⟩ := h2
      cases e
      exact .inl ⟨i, j, two_int R, k.plain A (.int _)⟩
    · have h1 : ∃ x xs, ms = [x] ∧ lstOf st x = some xs ∧ maxM xs st = .val m st' := by
        match ms, e with
        | [x], e =>
          cases h : lstOf st x with
          | none => cases x <;> simp [bltM, h] at e
          | some xs => exact ⟨x, xs, rfl, h, by cases x <;> simpa [bltM, h] using e⟩
        | [], e => cases e
        | [x, y], e => cases x <;> cases y <;> first | exact absurd ⟨_, _, rfl⟩ h2 | cases e
        | _ :: _ :: _ :: _, e => simp [bltM] at e
      obtain ⟨x, xs, rfl, h, e⟩ := h1
      obtain ⟨a, ws, f, rfl, ha, r, _⟩ := lst_read A R h
      simp only [maxM] at e
      cases q : intsOf xs with
      | none => rw [q] at e; cases e
      | some ns =>
        rw [q] at e
        have e2 := intsOf_map q
        cases ns with
        | nil => cases e
        | cons n ns =>
          cases e
          rw [e2] at r
          have ew := r.ints
          subst ew
          refine .inr ⟨a, n :: ns, rfl, SqL.of ha, Nat.succ_pos _, fun z hz hle => ?_⟩
          have e3 : z = leastOf (fun a b => decide (b ≤ a)) n ns := Int.le_antisymm (most_le n ns z hz) (hle _ (least_mem _ n ns))
          rw [e3]
          exact k.plain A (.int _)
  | int =>
    match ms, e with
    | [.int i], e =>
      cases e
      exact .inl ⟨i, one_int R, k.plain A (.int _)⟩
    | [.bl b], e =>
      cases e
      obtain ⟨v, rfl, r⟩ := R.rep.one
      rw [r.bl_inv.1]
      exact .inr ⟨b, rfl, k.plain A (.int _)⟩
    | [], e => cases e
    | [.non], e => cases e
    | [.str _], e => cases e
    | [.tup _], e => cases e
    | [.lst _], e => cases e
    | [.rol _], e => cases e
    | [.xts _], e => cases e
    | [.ref _], e => cases e
    | _ :: _ :: _, e => simp [bltM] at e
  | sum =>
    match ms, e with
    | [x], e =>
      cases h : seqOf st x with
      | none => simp [bltM, h] at e
      | some xs =>
        cases q : intsOf xs with
        | none => simp [bltM, h, q] at e
        | some ns =>
          have e : Out.val (MV.int ns.sum) st = Out.val m st' := by simpa [bltM, h, q] using e
          cases e
          obtain ⟨a, ws, f, rfl, ha, r, _⟩ := seq_read A R h
          rw [intsOf_map q] at r
          have ew := r.ints
          subst ew
          rcases ha with ⟨_, ha⟩ | ⟨_, ha⟩
          · exact .inr ⟨a, ns, rfl, ha, k.plain A (.int _)⟩
          · exact .inl ⟨a, ns, rfl, ha, k.plain A (.int _)⟩
    | [], e => cases e
    | _ :: _ :: _, e => cases e
  | all =>
    match ms, e with
    | [x], e =>
      cases h : lstOf st x with
      | none => simp [bltM, h] at e
      | some xs =>
        cases q : bsOf xs with
        | none => simp [bltM, h, q] at e
        | some ns =>
          have e : Out.val (MV.bl (ns.all id)) st = Out.val m st' := by simpa [bltM, h, q] using e
          cases e
          obtain ⟨a, ws, f, rfl, ha, r, _⟩ := lst_read A R h
          rw [bsOf_map q] at r
          have ew := r.bls
          subst ew
          exact ⟨a, ns, rfl, SqL.of ha, k.plain A (.bl _)⟩
    | [], e => cases e
    | _ :: _ :: _, e => cases e
  | any =>
    match ms, e with
    | [x], e =>
      cases h : lstOf st x with
      | none => simp [bltM, h] at e
      | some xs =>
        cases q : bsOf xs with
        | none => simp [bltM, h, q] at e
        | some ns =>
          have e : Out.val (MV.bl (ns.any id)) st = Out.val m st' := by simpa [bltM, h, q] using e
          cases e
          obtain ⟨a, ws, f, rfl, ha, r, _⟩ := lst_read A R h
          rw [bsOf_map q] at r
          have ew := r.bls
          subst ew
          exact ⟨a, ns, rfl, SqL.of ha, k.plain A (.bl _)⟩
    | [], e => cases e
    | _ :: _ :: _, e => cases e
  | sorted =>
    match ms, e with
    | [x], e =>
      cases h : seqOf st x with
      | none => simp [bltM, h] at e
      | some xs =>
        have e : sortM (isTup x) xs st = Out.val m st' := by simpa [bltM, h] using e
        obtain ⟨a, ws, f, rfl, ha, r, hs⟩ := seq_read A R h
        unfold sortM at e
        cases q : intsOf xs with
        | some ns =>
          rw [q] at e
          cases e
          rw [intsOf_map q] at r
          have ew := r.ints
          subst ew
          have fin : ∀ (ns' : List Int) (p : Addr), ns'.Perm ns → ns'.Pairwise (· ≤ ·) → H' p = Option.none → Q (.ref p) (upd H' p (.lst (ns'.map V.int))) := fun ns' p hp hs hn => by
            have e2 : ns' = isort (fun a b => decide (a ≤ b)) ns := PySem.W.ksm_same (hp.trans (isort_perm _ ns).symm) hs (isort_sorted ns)
            rw [e2]
            exact k.newL A (⟨reps_ints, List.nodup_nil, fun _ z => nomatch z⟩ : Ress K [] H ρ' H' _ _ []) p hn
          rcases ha with ⟨_, ha⟩ | ⟨_, ha⟩
          · exact .inr (.inl ⟨a, ns, rfl, ha, fin⟩)
          · exact .inl ⟨a, ns, rfl, ha, fin⟩
        | none =>
          rw [q] at e
          cases ht : isTup x with
          | true => rw [ht] at e; cases e
          | false =>
            rw [ht] at e
            cases q2 : rowsOf xs with
            | none => rw [q2] at e; cases e
            | some rs =>
              rw [q2] at e
              obtain ⟨hok, e⟩ := chk_eq (show chk (rowsOk rs) (.val (.lst ((isort lexLe rs).map rowMV)) st) = Out.val m st' from e)
              cases e
              rw [rowsOf_map q2] at r
              rcases ha with ⟨ht2, _⟩ | ⟨_, ha⟩
              · rw [ht] at ht2; cases ht2
              · obtain ⟨bs, e1, e2, hb⟩ := rows_of r
                subst e1 e2
                refine .inr (.inr ⟨a, bs, rfl, ha, fun b hb' => (hb b hb').1, hok, fun bs' p hp hs2 hn => ?_⟩)
                have e3 : bs'.map (·.2) = isort lexLe (bs.map (·.2)) := rows_same ((hp.map _).trans (isortR_perm _ _).symm) hs2 (isortR_sorted _)
                refine k.newL A ⟨?_, List.nodup_nil, fun _ z => nomatch z⟩ p hn
                rw [← e3]
                exact rows_back fun b hb' => (hb b (hp.subset hb')).2
    | [], e => cases e
    | _ :: _ :: _, e => cases e
  | tuple =>
    match ms, e with
    | [x], e =>
      cases h : seqOf st x with
      | none => simp [bltM, h] at e
      | some xs =>
        have e : Out.val (MV.tup xs) st = Out.val m st' := by simpa [bltM, h] using e
        cases e
        obtain ⟨a, ws, f, rfl, ha, r, hs⟩ := seq_read A R h
        refine ⟨a, ws, rfl, ?_⟩
        rcases ha with ⟨_, ha⟩ | ⟨_, ha⟩
        · exact .inr ⟨ha, k _ ρ' f _ A (Res.sub R (Rep.tup ha r) hs)⟩
        · exact .inl ⟨ha, k.newT A (R.sub r hs)⟩
    | [], e => cases e
    | _ :: _ :: _, e => cases e
  | list =>
    match ms, e with
    | [x], e =>
      cases h : seqOf st x with
      | none => simp [bltM, h] at e
      | some xs =>
        have e : Out.val (MV.lst xs) st = Out.val m st' := by simpa [bltM, h] using e
        cases e
        obtain ⟨a, ws, f, rfl, ha, r, hs⟩ := seq_read A R h
        refine ⟨a, ws, rfl, ?_, k.newL A (R.sub r hs)⟩
        rcases ha with ⟨_, ha⟩ | ⟨_, ha⟩
        · exact .inr ha
        · exact .inl ha
    | [], e => cases e
    | _ :: _ :: _, e => cases e
end
end QR

set_option Elab.async false
set_option linter.all false
set_option maxRecDepth 100000
set_option maxHeartbeats 1000000
/-! QSub: subscripts, slices, methods, stores. -/
namespace QR
open PySem PySem.Spec PyProof.Rows L2
section
variable {K : PySem.W.Frag} {ρ ρ' al fp f : List Addr} {H H' : Hp} {v w : V} {vs ws : List V} {m x y : MV} {ms xs ys : List MV} {st st' : Store} {Q : VK}
theorem atM_atI {α β : Type} {as : List α} {bs : List β} (hl : as.length = bs.length) {i : Int} {b : β} (h : (if 0 ≤ i then bs[i.toNat]? else if -(bs.length : Int) ≤ i then bs[(i + bs.length).toNat]? else none) = some b) : ∃ j, ixN as.length i = some j ∧ bs[j]? = some b := by
  unfold ixN
  by_cases h0 : 0 ≤ i
  · rw [if_pos h0] at h ⊢
    have hlt := (List.getElem?_eq_some_iff.mp h).1
    rw [if_pos (by omega)]
    exact ⟨_, rfl, h⟩
  · rw [if_neg h0] at h ⊢
    by_cases h1 : -(bs.length : Int) ≤ i
    · rw [if_pos h1] at h
      rw [if_pos (by omega), hl]
      exact ⟨_, rfl, h⟩
    · rw [if_neg h1] at h
      cases h
def rSub (K : PySem.W.Frag) : R2 := fun x y H Q => rIxL K x y H Q ∨ rIxT K x y H Q
theorem ix_sub {X : Cx} : IxR X (rSub X.K) := ix_list.or ix_tup
theorem sub_read {fp : List Addr} (A : Aft K ρ [] H st ρ' H') (R : Ress K [] H ρ' H' [v, w] [x, y] fp) (e : subM x y st = .val m st') (k : Kont K ρ H m st' Q) : rSub K v w H' Q := by
  unfold subM at e
  cases h : seqOf st x with
  | none => rw [h] at e; cases e
  | some xs =>
    rw [h] at e
    cases y with
    | int i =>
      have e : ofO (atM xs i) st = .val m st' := e
      obtain ⟨e5, e6⟩ := ofO_eq e
      subst e6
      unfold atM at e5
      obtain ⟨v1, w1, f, g, e1, e2, r1, r2⟩ := R.rep.two
      cases e1
      obtain ⟨rfl, _⟩ := r2.int_inv
      obtain ⟨a, ws, f', rfl, ha, r, hs⟩ := seqOf_rep A.rl r1 h
      obtain ⟨j, hj, hb⟩ := atM_atI (as := ws) r.length e5
      obtain ⟨u, f2, hu, ru, su⟩ := r.get hb
      have hat : atI ws i = some u := by
        unfold atI
        rw [hj]
        exact hu
      have q : Q u H' := k _ ρ' f2 _ A (Res.sub R ru ((su.trans hs).trans (e2 ▸ List.sublist_append_left _ _)))
      rcases ha with ⟨_, ha⟩ | ⟨_, ha⟩
      · exact .inr ⟨a, ws, i, u, rfl, rfl, ha, hat, q⟩
      · exact .inl ⟨a, ws, i, u, rfl, rfl, ha, hat, q⟩
    | _ => cases e
theorem Reps.take : ∀ {vs : List V} {ms : List MV} {fp : List Addr} (n : Nat), Reps K ρ H vs ms fp → ∃ f, Reps K ρ H (vs.take n) (ms.take n) f ∧ List.Sublist f fp
  | _, _, _, _, .nil => ⟨[], by simpa using Reps.nil, List.Sublist.refl _⟩
  | _, _, _, 0, .cons h r => ⟨[], by simpa using Reps.nil, List.nil_sublist _⟩
  | _, _, _, n + 1, .cons (f := f) h r => by
    obtain ⟨g, h1, h2⟩ := Reps.take n r
    exact ⟨f ++ g, by simpa using Reps.cons h h1, (List.Sublist.refl f).append h2⟩
theorem Reps.drop : ∀ {vs : List V} {ms : List MV} {fp : List Addr} (n : Nat), Reps K ρ H vs ms fp → ∃ f, Reps K ρ H (vs.drop n) (ms.drop n) f ∧ List.Sublist f fp
  | _, _, _, _, .nil => ⟨[], by simpa using Reps.nil, List.Sublist.refl _⟩
  | _, _, _, 0, .cons h r => ⟨_, by simpa using Reps.cons h r, List.Sublist.refl _⟩
  | _, _, _, n + 1, .cons (f := f) h r => by
    obtain ⟨g, h1, h2⟩ := Reps.drop n r
    exact ⟨g, by simpa using h1, h2.trans (List.sublist_append_right _ _)⟩
theorem noLst_nil : ∀ {m : MV} {v : V} {f : List Addr}, Rep K ρ H v m f → noLst m = true → f = [] := by
  intro m
  have go : ∀ {ms : List MV} {vs : List V} {f : List Addr}, Reps K ρ H vs ms f → (∀ m ∈ ms, ∀ (v : V) (f : List Addr), Rep K ρ H v m f → noLst m = true → f = []) → noLsts ms = true → f = [] := by
    intro ms
    induction ms with
    | nil =>
      intro vs f r _ _
      cases r
      rfl
    | cons m ms ih =>
      intro vs f r hm h
      cases r with
      | cons h1 r =>
        simp only [noLsts, Bool.and_eq_true] at h
        rw [hm m (by simp) _ _ h1 h.1, ih r (fun m' hm' => hm m' (by simp [hm'])) h.2]
        rfl
  have size : ∀ (n : Nat) (m : MV), sizeOf m < n → ∀ (v : V) (f : List Addr), Rep K ρ H v m f → noLst m = true → f = [] := by
    intro n
    induction n with
    | zero => intro m h; omega
    | succ n ih =>
      intro m hsz v f r h
      cases r with
      | tup h1 r =>
        rename_i ms
        simp only [noLst] at h
        exact go r (fun m' hm' v f r' h' => ih m' (by have := List.sizeOf_lt_of_mem hm'; simp at hsz; omega) v f r' h') h
      | lst h1 r => simp [noLst] at h
      | non => rfl
      | bl _ => rfl
      | int _ => rfl
      | str _ _ => rfl
      | ref _ => rfl
      | rol _ => rfl
      | xts _ _ => rfl
  exact fun {v f} r h => size (sizeOf m + 1) m (Nat.lt_succ_self _) v f r h
theorem noLsts_nil : ∀ {ms : List MV} {vs : List V} {f : List Addr}, Reps K ρ H vs ms f → noLsts ms = true → f = []
  | [], _, _, r, _ => by
    cases r
    rfl
  | m :: ms, _, _, r, h => by
    cases r with
    | cons h1 r =>
      simp only [noLsts, Bool.and_eq_true] at h
      rw [noLst_nil h1 h.1, noLsts_nil r h.2]
      rfl
theorem Reps.rev : ∀ {vs : List V} {ms : List MV}, Reps K ρ H vs ms [] → Reps K ρ H vs.reverse ms.reverse [] := by
  intro vs ms
  suffices h : ∀ {vs : List V} {ms : List MV} {f : List Addr}, Reps K ρ H vs ms f → f = [] → Reps K ρ H vs.reverse ms.reverse [] from fun r => h r rfl
  intro vs ms f r
  induction ms generalizing vs f with
  | nil =>
    intro _
    cases r
    exact .nil
  | cons m ms ih =>
    intro e
    cases r with
    | cons h r =>
      obtain ⟨e1, e2⟩ := List.append_eq_nil_iff.mp e
      subst e1
      rw [List.reverse_cons, List.reverse_cons]
      exact Reps.app (f := []) (g := []) (ih r e2) (.cons (f := []) (fs := []) h .nil)
/-! ### slices -/
theorem cut_upto {i : Int} (h : 0 ≤ i) : cutV vs none (some i) = vs.take i.toNat := by
  obtain ⟨n, rfl⟩ := Int.eq_ofNat_of_zero_le h
  unfold cutV
  rw [HT.sIx_none, HT.sIx_nat, List.drop_zero, Nat.sub_zero]
  rcases Nat.le_total n vs.length with q | q
  · rw [Nat.min_eq_left q]
    rfl
  · rw [Nat.min_eq_right q, List.take_of_length_le (Nat.le_refl _)]
    exact (List.take_of_length_le q).symm
theorem sIx_m1 (n d : Nat) : HT.sIx n d (some (-1)) = n - 1 := by
  have h := HT.clip_eq (-1) n d
  rw [if_pos (by decide)] at h
  have e : max (-1 + (n : Int)) 0 = ((n - 1 : Nat) : Int) := by omega
  rw [e] at h
  exact (Int.ofNat.inj h).symm
theorem cut_but : cutV vs none (some (-1)) = vs.dropLast := by
  unfold cutV
  rw [HT.sIx_none, sIx_m1, List.drop_zero, Nat.sub_zero, List.dropLast_eq_take]
theorem cut_frm {i : Int} (h : 0 ≤ i) : cutV vs (some i) none = vs.drop i.toNat := by
  obtain ⟨n, rfl⟩ := Int.eq_ofNat_of_zero_le h
  unfold cutV
  rw [HT.sIx_none, HT.sIx_nat]
  show (vs.drop (min n vs.length)).take (vs.length - min n vs.length) = vs.drop n
  rcases Nat.le_total n vs.length with q | q
  · rw [Nat.min_eq_left q]
    exact List.take_of_length_le (by rw [List.length_drop]; exact Nat.le_refl _)
  · rw [Nat.min_eq_right q, List.drop_of_length_le (Nat.le_refl _), List.drop_of_length_le q]
    simp
def rSli (K : PySem.W.Frag) : V → Option Int → Option Int → Hp → VK → Prop := fun x lo hi H Q => rSlL K x lo hi H Q ∨ rSlA K x lo hi H Q
theorem sl_sli {X : Cx} : SlR X (rSli X.K) := sl_list.or sl_tupA
/-- a slice, the whole of a tuple is the tuple itself -/
theorem sli_gen {lo hi : Option Int} {xs zs : List MV} {g : List Addr} (A : Aft K ρ [] H st ρ' H') (R : Ress K [] H ρ' H' [v, w] [x, y] fp) (h : seqOf st x = some xs) (k : Kont K ρ H (again x zs) st Q) (hvs : ∀ (vs : List V) (f : List Addr), Reps K ρ' H' vs xs f → ∃ g, Reps K ρ' H' (cutV vs lo hi) zs g ∧ List.Sublist g f) :
    rSli K v lo hi H' Q := by
  obtain ⟨v1, w1, f, g, e1, e2, r1, r2⟩ := R.rep.two
  cases e1
  obtain ⟨a, ws, f', rfl, ha, r, hs⟩ := seqOf_rep A.rl r1 h
  obtain ⟨g2, rg, sg⟩ := hvs _ _ r
  have R2 : Ress K [] H ρ' H' (cutV ws lo hi) zs g2 := R.sub rg ((sg.trans hs).trans (e2 ▸ List.sublist_append_left _ _))
  rcases ha with ⟨ht, ha⟩ | ⟨ht, ha⟩
  · have e : again x zs = .tup zs := by cases x <;> first | rfl | cases ht
    rw [e] at k
    refine .inr ⟨a, ws, rfl, ha, fun hw => ?_, fun _ => k.newT A R2⟩
    have e : cutV ws lo hi = ws := by
      unfold cutV
      rw [hw.1, hw.2, List.drop_zero, Nat.sub_zero, List.take_of_length_le (Nat.le_refl _)]
    rw [e] at R2
    exact k _ ρ' g2 _ A ⟨.tup ha R2.rep, R2.nd, R2.new⟩
  · have e : again x zs = .lst zs := by cases x <;> first | rfl | cases ht
    rw [e] at k
    exact .inl ⟨a, ws, rfl, ha, k.newL A R2⟩
theorem upto_read {i : Int} (A : Aft K ρ [] H st ρ' H') (R : Ress K [] H ρ' H' [v, w] [x, .int i] fp) (e : sliM .upto x (.int i) st = .val m st') (k : Kont K ρ H m st' Q) : rSli K v none (some i) H' Q := by
  unfold sliM at e
  cases h : seqOf st x with
  | none => rw [h] at e; cases e
  | some xs =>
    rw [h] at e
    have e : (if 0 ≤ i then .val (again x (xs.take i.toNat)) st else if i = -1 then .val (again x xs.dropLast) st else .bad) = Out.val m st' := e
    by_cases h0 : 0 ≤ i
    · rw [if_pos h0] at e
      cases e
      exact sli_gen (g := []) A R h k fun vs f r => by rw [cut_upto h0]; exact r.take _
    · rw [if_neg h0] at e
      by_cases h1 : i = -1
      · rw [if_pos h1] at e
        cases e
        subst h1
        exact sli_gen (g := []) A R h k fun vs f r => by
          rw [cut_but, List.dropLast_eq_take, List.dropLast_eq_take, r.length]
          exact r.take _
      · rw [if_neg h1] at e
        cases e
theorem frm_read {i : Int} (A : Aft K ρ [] H st ρ' H') (R : Ress K [] H ρ' H' [v, w] [x, .int i] fp) (e : sliM .frm x (.int i) st = .val m st') (k : Kont K ρ H m st' Q) : rSli K v (some i) none H' Q := by
  unfold sliM at e
  cases h : seqOf st x with
  | none => rw [h] at e; cases e
  | some xs =>
    rw [h] at e
    have e : (if 0 ≤ i then .val (again x (xs.drop i.toNat)) st else .bad) = Out.val m st' := e
    by_cases h0 : 0 ≤ i
    · rw [if_pos h0] at e
      cases e
      exact sli_gen (g := []) A R h k fun vs f r => by rw [cut_frm h0]; exact r.drop _
    · rw [if_neg h0] at e
      cases e
theorem sli_int {s : Sli} (hs : s = .upto ∨ s = .frm) (e : sliM s x y st = .val m st') : ∃ i, y = .int i := by
  unfold sliM at e
  cases h : seqOf st x with
  | none => rw [h] at e; cases e
  | some xs =>
    rw [h] at e
    rcases hs with rfl | rfl <;> (cases y <;> first | exact ⟨_, rfl⟩ | cases e)
end
end QR

set_option Elab.async false
set_option linter.all false
set_option maxRecDepth 100000
set_option maxHeartbeats 1000000
/-! QRev: a tuple reversed by its slice. -/
namespace QR
open PySem PySem.Spec PyProof.Rows L2 HT
theorem adj_rev (n : Nat) : Builtin.Slice.sliceAdjust none none (-1) (n : Int) = ((n : Int) - 1, -1) := by
  unfold Builtin.Slice.sliceAdjust
  simp
theorem places_rev (n : Nat) : Builtin.Slice.slicePlaces ((n : Int) - 1) (-1) (-1) = n := by
  unfold Builtin.Slice.slicePlaces
  simp
  omega
theorem pick_rev (xs : Array Value) : ((List.range xs.size).filterMap fun (k : Nat) => xs[((xs.size : Int) - 1 + (k : Int) * (-1)).toNat]?).toArray = xs.toList.reverse.toArray := by
  congr 1
  apply List.ext_getElem?
  intro i
  have key : ∀ l : List Nat, (∀ k ∈ l, k < xs.size) → l.filterMap (fun (k : Nat) => xs[((xs.size : Int) - 1 + (k : Int) * (-1)).toNat]?) = l.map fun k => xs.toList.getD (xs.size - 1 - k) default := by
    intro l
    induction l with
    | nil => intro _; rfl
    | cons k l ih =>
      intro h
      have hk := h k List.mem_cons_self
      have e : ((xs.size : Int) - 1 + (k : Int) * (-1)).toNat = xs.size - 1 - k := by omega
      have hlt : xs.size - 1 - k < xs.size := by omega
      rw [List.filterMap_cons, e, Array.getElem?_eq_getElem hlt, List.map_cons, ih fun z hz => h z (List.mem_cons_of_mem _ hz)]
      congr 1
      rw [List.getD_eq_getElem?_getD, List.getElem?_eq_getElem (by simpa using hlt)]
      simp
  rw [key _ fun k hk => List.mem_range.mp hk]
  rw [List.getElem?_map]
  by_cases hi : i < xs.size
  · rw [List.getElem?_range hi, List.getElem?_reverse (by simpa using hi)]
    rw [Option.map_some, List.getD_eq_getElem?_getD, Array.length_toList, List.getElem?_eq_getElem (by simp; omega)]
    rfl
  · rw [List.getElem?_eq_none (by simp; omega), List.getElem?_eq_none (by simp; omega)]
    rfl
section
variable {prog : Program} {w : World} {A : Around} {E : Value → Shared → Prop} {s : Shared}
theorem sliceApplied_rev {sl : Addr} {vs : Value} {n : Nat} {Q : Int × Int × Nat → Shared → Prop} (hs : s.heap.IsSliceOf sl .none .none vs) (ps : IsPart vs (some (-1)))
    (h : Q ((n : Int) - 1, -1, n) s) : wpAny (model prog w) A (Builtin.Slice.sliceApplied (.ref sl) (pure (n : Int))) Q E s := by
  obtain ⟨os, hos, hcs, hds⟩ := id hs
  unfold Builtin.Slice.sliceApplied Builtin.Slice.sliceFields
  refine wpAny_bind (wpAny_bind (wpAny_field hos hds (x := .none) rfl (wpAny_bind (wpAny_field hos hds (x := .none) rfl (wpAny_bind (wpAny_field hos hds (x := vs) rfl (wpAny_pure ?_)))))))
  refine wpAny_bind (slicePart_ ps ?_)
  show wpAny _ _ (if ((-1 : Int) == 0) = true then _ else _) _ _ s
  rw [if_neg (by decide)]
  refine wpAny_bind (slicePart_none (wpAny_bind (slicePart_none (wpAny_bind (wpAny_pure ?_)))))
  show wpAny _ _ (match Builtin.Slice.sliceAdjust none none (-1) (n : Int) with | (lo, hi) => pure (lo, (-1 : Int), Builtin.Slice.slicePlaces lo hi (-1))) _ _ s
  rw [adj_rev n]
  show wpAny _ _ (pure ((n : Int) - 1, (-1 : Int), Builtin.Slice.slicePlaces ((n : Int) - 1) (-1) (-1))) _ _ s
  rw [places_rev]
  exact wpAny_pure h
theorem getItem_tuple_rev {t sl : Addr} {items : Array Value} {vs : Value} {Q : Value → Shared → Prop} (ht : IsTup s.heap t items) (hs : s.heap.IsSliceOf sl .none .none vs) (ps : IsPart vs (some (-1)))
    (h : Q (.ref s.heap.objs.size) { s with heap := s.heap.push { cls := .type "tuple", data := .seq items.toList.reverse.toArray } })
    (hsz : items.size ≤ sizeLine) : wpAny (model prog w) A (getItem (.ref t) (.ref sl)) Q E s := by
  have htake : sizeOk (.seq items.toList.reverse.toArray) := by
    show items.toList.reverse.toArray.size ≤ sizeLine
    simpa using hsz
  obtain ⟨os, hos, hcs, hds⟩ := id hs
  have hTs : s.TypeIs (.ref sl) "slice" := ⟨os, hos, hcs⟩
  unfold getItem
  try with_reducible refine wpAny_holding ?_
  first | refine wpAny_bind (wpAny_pure ?_) | skip
  refine wpAny_bind (wpAny_sequenceKey ht.typeIs (by decide) ?_)
  refine wpAny_bind (wpAny_callSpecial?_slot (name := Str.ofString "__getitem__") ht.typeIs PyProof.Rows.slot_tuple_getitem
    (wpAny_call_entry PyProof.Rows.slot_tuple_getitem ht.typeIs entry_tuple_getitem ?_ (args_tuple_getitem _ _)))
  show wpAny _ _ (Builtin.Tuple.tupleItemsOf (.ref t) >>= _) _ _ s
  refine wpAny_bind (tupleItemsOf_ ht ?_)
  refine wpAny_bind (wpAny_typeOf hTs ?_)
  rw [if_pos (by decide)]
  refine wpAny_bind (sliceApplied_rev hs ps ?_)
  have hno : ¬ ((((items.size : Int) - 1) == 0 && (-1 : Int) == 1 && items.size == items.size) = true) := by
    intro q
    rw [Bool.and_eq_true, Bool.and_eq_true] at q
    exact absurd q.1.2 (by decide)
  show wpAny _ _ (if (((items.size : Int) - 1) == 0 && (-1 : Int) == 1 && items.size == items.size) = true then _ else _) _ _ s
  rw [if_neg hno, pick_rev]
  first
    | exact wpAny_bind (m := Builtin.Tuple.tupleExact _) (wpAny_newObj_type (wpAny_pure ⟨_, rfl, wpAny_pure h⟩) htake)
    | exact wpAny_bind (m := Builtin.Tuple.tupleExact _) (wpAny_newObj_type (wpAny_bind (wpAny_pure (wpAny_pure ⟨_, rfl, wpAny_pure h⟩))) htake)
    | exact wpAny_bind (wpAny_bind (m := Builtin.Tuple.tupleExact _) (wpAny_newObj_type (wpAny_pure (wpAny_pure ⟨_, rfl, wpAny_pure h⟩)) htake))
    | exact wpAny_bind (wpAny_bind (m := Builtin.Tuple.tupleExact _) (wpAny_newObj_type (wpAny_pure ⟨_, rfl, wpAny_pure h⟩) htake))
end
section
variable {X : Cx}
/-- e[::-1] of a list, of a tuple -/
def tRevA (K : PySem.W.Frag) (te : TE) : TE := fun σ H Q => te σ H fun x H1 => ∃ a xs, x = .ref a ∧ ((SqL K H1 a xs ∧ ∀ p, H1 p = none → Q (.ref p) (upd H1 p (.lst xs.reverse))) ∨ (SqT K H1 a xs ∧ ∀ p, H1 p = none → Q (.ref p) (upd H1 p (.tup xs.reverse))))
theorem pe_revA {e : Expr} {te : TE} {k : Nat} {p1 p2 p3 pos : Pos} (he : PE X e te) : PE X (.Subscript e (.Slice none none (some (.UnaryOp .USub (.Constant (.int 1) k p1) p2)) p3) pos) (tRevA X.K te) := by
  refine ⟨fun pins s σ H Q I h => ?_⟩
  refine Subscript_ (thn (he.run pins s σ H _ I h) fun v s1 ⟨x, H1, I1, r1, q1⟩ => ?_)
  obtain ⟨a, xs, ex, hx⟩ := q1
  subst ex
  cases r1
  have hst : PO X (some (.UnaryOp .USub (.Constant (.int 1) k p1) p2)) (tPart (tUn (rU fun i => .int (-i)) (tC (.int 1)))) := po_some (pe_un un_neg pe_int)
  refine wpAny_Slice (thn (po_none.run pins s1 σ H1 (fun o H2 => o = none ∧ H2 = H1) I1 ⟨rfl, rfl⟩) fun vl s2 ⟨l, H2, I2, pl, el, e2⟩ => ?_)
  subst el e2
  refine thn (po_none.run pins s2 σ H2 (fun o H3 => o = none ∧ H3 = H2) I2 ⟨rfl, rfl⟩) fun vu s3 ⟨u, H3, I3, pu, eu, e3⟩ => ?_
  subst eu e3
  refine thn (hst.run pins s3 σ H3 (fun o H4 => o = some (-1) ∧ H4 = H3) I3 ⟨1, rfl, -1, rfl, rfl, rfl⟩) fun vs s4 ⟨o, H4, I4, ps, eo, e4⟩ => ?_
  subst eo e4
  have I5 : Inv X pins σ H4 { s4 with heap := s4.heap.push { cls := .type "slice", data := .fields #[vl, vu, vs] } } := I4.kept (t' := s4.toks) fun b ob q => Heap.get?_push_of_some _ q
  show wpAny (model X.prog X.w) X.A (subscriptTail e (.Slice none none (some (.UnaryOp .USub (.Constant (.int 1) k p1) p2)) p3) (.ref a) (.ref s4.heap.objs.size)) (EP X pins σ Q) X.xe { s4 with heap := s4.heap.push { cls := .type "slice", data := .fields #[vl, vu, vs] } }
  rcases hx with ⟨hx, q⟩ | ⟨hx, q⟩
  · obtain ⟨its, r, ht, hz⟩ := I5.list hx
    have hlen := r.length
    refine tail_any (ops := [.ref a, .ref s4.heap.objs.size]) ht.isList.typeIs (PySem.slot_list_getitem.lookup) ?_ (by with_unfolding_all rfl)
    refine wpAny_getItem_list_slice ht.isList (Heap.IsSliceOf.new _ vl vu vs) pl pu ps (by decide) ?_ (by rw [List.size_toArray]; omega)
    rw [PySem.W.krv_pick]
    refine ⟨.ref _, _, I5.laid (t' := s4.toks) (o := .lst xs.reverse) (fun b ob q => Heap.get?_push_of_some _ q) (Nat.le_refl _) ?_, rfl, q _ (I5.hok.fresh (Nat.le_refl _))⟩
    exact ⟨by rw [List.length_reverse]; exact hz, _, 0, r.reverse, Heap.get?_push_size _ rfl⟩
  · obtain ⟨its, r, ht, hz⟩ := I5.tuple hx
    have hlen := r.length
    cases pl
    cases pu
    refine tail_any (ops := [.ref a, .ref s4.heap.objs.size]) ht.typeIs (PyProof.Rows.slot_tuple_getitem.lookup) ?_ (by with_unfolding_all rfl)
    refine getItem_tuple_rev ht (Heap.IsSliceOf.new _ .none .none vs) ps ?_ (by rw [List.size_toArray]; omega)
    refine ⟨.ref _, _, I5.laid (t' := s4.toks) (o := .tup xs.reverse) (fun b ob q => Heap.get?_push_of_some _ q) (Nat.le_refl _) ?_, rfl, q _ (I5.hok.fresh (Nat.le_refl _))⟩
    exact ⟨by rw [List.length_reverse]; exact hz, _, r.reverse, IsTup.new _ _⟩
end
end QR

set_option Elab.async false
set_option linter.all false
set_option maxRecDepth 100000
set_option maxHeartbeats 1000000
/-! QSoundA: the small language's expressions, construct by construct, say what the machine does. -/
namespace L2
open PySem PySem.Spec PyProof.Rows
section
variable {X : Cx} 
theorem PE.qof {e : Expr} {t t' : TE} (h : PE X e t) (w : ∀ σ H Q, t' σ H Q → t σ H Q) : PE X e t' := ⟨fun pins s σ H Q I q => h.run pins s σ H Q I (w σ H Q q)⟩
theorem PT.qof {e : Expr} {t t' : TT} (h : PT X e t) (w : ∀ σ H Q, t' σ H Q → t σ H Q) : PT X e t' := ⟨fun pins s σ H Q I q => h.run pins s σ H Q I (w σ H Q q)⟩
theorem PW.qof {e : Expr} {t t' : TT} (h : PW X e t) (w : ∀ σ H Q, t' σ H Q → t σ H Q) : PW X e t' := ⟨fun wh pins s σ H Q I q => h.run wh pins s σ H Q I (w σ H Q q)⟩
theorem PA.qof {es : List Expr} {t t' : TA} (h : PA X es t) (w : ∀ σ H Q, t' σ H Q → t σ H Q) : PA X es t' := ⟨fun pos pins s σ H Q I q => h.run pos pins s σ H Q I (w σ H Q q)⟩
end
end L2
namespace QR
open PySem PySem.Spec PyProof.Rows L2

def KontL (K : PySem.W.Frag) (ρ : List Addr) (H : Hp) (ms : List MV) (st' : Store) (Q : List V → Hp → Prop) : Prop :=
  ∀ (vs : List V) (ρ' fp : List Addr) (H' : Hp), Aft K ρ [] H st' ρ' H' → Ress K [] H ρ' H' vs ms fp → Q vs H'
def tE (K : PySem.W.Frag) (Φ : Phi) (p : E) : TE := fun σ H Q => ∃ (env : Env) (ρ : List Addr) (st : Store) (m : MV) (st' : Store), EnvR K ρ H σ env ∧ Rl K ρ st H ∧ ev Φ p env st = .val m st' ∧ Kont K ρ H m st' Q
def tT (K : PySem.W.Frag) (Φ : Phi) (p : E) : TT := fun σ H Q => ∃ (env : Env) (ρ : List Addr) (st : Store) (b : Bool) (st' : Store), EnvR K ρ H σ env ∧ Rl K ρ st H ∧ ev Φ p env st = .val (.bl b) st' ∧
  ∀ (ρ' : List Addr) (H' : Hp), Aft K ρ [] H st' ρ' H' → Q b H'
def tEs (K : PySem.W.Frag) (Φ : Phi) (ps : Es) : TA := fun σ H Q => ∃ (env : Env) (ρ : List Addr) (st : Store) (ms : List MV) (st' : Store), EnvR K ρ H σ env ∧ Rl K ρ st H ∧ evs Φ ps env st = .val ms st' ∧ KontL K ρ H ms st' Q
/-- what a def promises: what its call in the small language gives -/
def spF (Φ : Phi) (K : PySem.W.Frag) (k : Nat) : Sp := fun vs H Q _ => ∃ (ρ : List Addr) (st : Store) (ms : List MV) (fp : List Addr) (m : MV) (st' : Store), Rl K ρ st H ∧ Reps K ρ H vs ms fp ∧ fp.Nodup ∧ (∀ a ∈ fp, a ∉ ρ) ∧ Φ k ms st = .val m st' ∧
  ∀ (v : V) (ρ' fp' : List Addr) (H' : Hp), Aft K ρ fp H st' ρ' H' → Res K fp H ρ' H' v m fp' → Q v H'

section
variable {K : PySem.W.Frag} {Φ : Phi} {ρ ρ' ρ1 ρ2 al fp f g : List Addr} {H H' H1 H2 : Hp} {v w : V} {vs ws : List V} {m x y : MV} {ms xs ys : List MV} {st st' st1 st2 : Store} {Q : VK} {σ : L2.St} {env : Env} {pa pb : E}
theorem Res.one (r : Res K al H ρ' H' v m fp) : Ress K al H ρ' H' [v] [m] fp := by
  have e := Reps.cons r.rep (Reps.nil (K := K) (ρ := ρ') (H := H'))
  rw [List.append_nil] at e
  exact ⟨e, r.nd, r.new⟩
theorem Res.two (A : Aft K ρ al H st1 ρ1 H1) (B : Aft K ρ1 [] H1 st2 ρ2 H2) (r : Res K al H ρ1 H1 v x f) (s : Res K [] H1 ρ2 H2 w y g) : Ress K al H ρ2 H2 [v, w] [x, y] (f ++ g) := Ress.cons A B r s.one
theorem noBl : ∀ a ∈ ([] : List Addr), H a = none ∨ a ∈ al := fun _ z => nomatch z
theorem tE_mk (hE : EnvR K ρ H σ env) (R : Rl K ρ st H) (e : ev Φ pa env st = .val m st') (k : Kont K ρ H m st' Q) : tE K Φ pa σ H Q := ⟨env, ρ, st, m, st', hE, R, e, k⟩
/-- one value, then what follows -/
theorem tE_one (hE : EnvR K ρ H σ env) (R : Rl K ρ st H) (e : ev Φ pa env st = .val m st1) (k : ∀ v ρ1 f H1, Aft K ρ [] H st1 ρ1 H1 → EnvR K ρ1 H1 σ env → Res K [] H ρ1 H1 v m f → Q v H1) : tE K Φ pa σ H Q :=
  ⟨env, ρ, st, m, st1, hE, R, e, fun v ρ1 f H1 A r => k v ρ1 f H1 A (hE.after A R.wr noAl) r⟩
theorem tE_two {R' : V → V → Hp → Prop} (hE : EnvR K ρ H σ env) (R : Rl K ρ st H) (e1 : ev Φ pa env st = .val x st1) (e2 : ev Φ pb env st1 = .val y st2)
    (k : ∀ v w ρ2 fp H2, Aft K ρ [] H st2 ρ2 H2 → EnvR K ρ2 H2 σ env → Ress K [] H ρ2 H2 [v, w] [x, y] fp → R' v w H2) : tE K Φ pa σ H fun v H1 => tE K Φ pb σ H1 fun w H2 => R' v w H2 :=
  tE_one hE R e1 fun v ρ1 f H1 A hE1 r => tE_one hE1 A.rl e2 fun w ρ2 g H2 B hE2 s => k v w ρ2 (f ++ g) H2 (A.trans B noBl) hE2 (Res.two A B r s)
/-- a bool -/
theorem bool_inv {o : Out MV} {f : Bool → Store → Out MV} (h : (o.bind fun x st => (boolOf x st).bind f) = .val m st') : ∃ b st1, o = .val (.bl b) st1 ∧ f b st1 = .val m st' := by
  obtain ⟨x, st1, h1, h2⟩ := Out.bind_eq h
  cases x with
  | bl b => exact ⟨b, st1, h1, h2⟩
  | _ => cases h2
theorem tE_bool {R' : V → Hp → Prop} {b : Bool} (hE : EnvR K ρ H σ env) (R : Rl K ρ st H) (e : ev Φ pa env st = .val (.bl b) st1) (k : ∀ ρ1 H1, Aft K ρ [] H st1 ρ1 H1 → EnvR K ρ1 H1 σ env → R' (.bl b) H1) : tE K Φ pa σ H R' :=
  tE_one hE R e fun v ρ1 f H1 A hE1 r => by
    rw [r.rep.bl_inv.1]
    exact k ρ1 H1 A hE1
theorem tT_mk {R' : Bool → Hp → Prop} {b : Bool} (hE : EnvR K ρ H σ env) (R : Rl K ρ st H) (e : ev Φ pa env st = .val (.bl b) st1) (k : ∀ ρ1 H1, Aft K ρ [] H st1 ρ1 H1 → EnvR K ρ1 H1 σ env → R' b H1) : tT K Φ pa σ H R' :=
  ⟨env, ρ, st, b, st1, hE, R, e, fun ρ1 H1 A => k ρ1 H1 A (hE.after A R.wr noAl)⟩
theorem Kont.bl {b : Bool} (k : Kont K ρ H (.bl b) st' Q) (A : Aft K ρ [] H st' ρ' H') : Q (.bl b) H' := k.plain A (.bl b)
/-- what is wanted from a later point on -/
theorem Kont.shift (k : Kont K ρ H m st' Q) (A : Aft K ρ [] H st1 ρ1 H1) : Kont K ρ1 H1 m st' Q := fun v ρ2 f H2 B r => k v ρ2 f H2 (A.trans B noBl) (Res.from A r)
end

section
variable {X : Cx} {Φ : Phi} {a b c : Expr} {pa pb pc : E} {pos : Pos} {i : Nat} {x : Str}
theorem s_var (hN : X.N[i]? = some x) (hv : Vis X.env.scope x) (hd : (x == ("__debug__" : Str)) = false) (hcd : (x == ("__classdict__" : Str)) = false) : PE X (.Name x pos) (tE X.K Φ (.var i)) :=
  (pe_var hN hv hd hcd).qof fun σ H Q ⟨env, ρ, st, m, st', hE, R, e, k⟩ => by
    simp only [ev] at e
    split at e
    · rename_i m' hm
      cases e
      obtain ⟨v, h1, h2⟩ := hE.2 i _ hm
      exact ⟨v, h1, k.plain (Aft.refl R) h2⟩
    · cases e
theorem s_cst {e : Expr} {v : V} {m : MV} (h : PE X e (tC v)) (r : ∀ ρ H, Rep X.K ρ H v m []) : PE X e (tE X.K Φ (.cst m)) :=
  h.qof fun σ H Q ⟨env, ρ, st, m', st', hE, R, e, k⟩ => by
    cases e
    exact k.plain (Aft.refl R) (r ρ H)
theorem s_bin {op : Operator} {o : Bop} (h : bopOf op = some o) (ha : PE X a (tE X.K Φ pa)) (hb : PE X b (tE X.K Φ pb)) : PE X (.BinOp a op b pos) (tE X.K Φ (.bin o pa pb)) :=
  (pe_op (op_bin h) ha hb).qof fun σ H Q ⟨env, ρ, st, m, st', hE, R, e, k⟩ => by
    obtain ⟨x, st1, e1, e⟩ := Out.bind_eq e
    obtain ⟨y, st2, e2, e⟩ := Out.bind_eq e
    exact tE_two hE R e1 e2 fun v w ρ2 fp H2 A _ r => bin_read A r e k
theorem s_neg (ha : PE X a (tE X.K Φ pa)) : PE X (.UnaryOp .USub a pos) (tE X.K Φ (.neg pa)) :=
  (pe_un un_neg ha).qof fun σ H Q ⟨env, ρ, st, m, st', hE, R, e, k⟩ => by
    obtain ⟨x, st1, e1, e⟩ := Out.bind_eq e
    cases x with
    | int j =>
      cases e
      exact tE_one hE R e1 fun v ρ1 f H1 A _ r => ⟨j, r.rep.int_inv.1, k.plain A (.int _)⟩
    | _ => cases e
theorem s_not (ha : PE X a (tE X.K Φ pa)) : PE X (.UnaryOp .Not a pos) (tE X.K Φ (.not pa)) :=
  (pe_not ha).qof fun σ H Q ⟨env, ρ, st, m, st', hE, R, e, k⟩ => by
    obtain ⟨c, st1, e1, e⟩ := bool_inv e
    cases e
    exact tE_bool hE R e1 fun ρ1 H1 A _ => ⟨c, rfl, k.bl A⟩
theorem s_and {rest : List Expr} (ha : PE X a (tE X.K Φ pa)) (hb : PE X (.BoolOp .And (b :: rest) pos) (tE X.K Φ pb)) : PE X (.BoolOp .And (a :: b :: rest) pos) (tE X.K Φ (.and pa pb)) :=
  (pe_and ha hb).qof fun σ H Q ⟨env, ρ, st, m, st', hE, R, e, k⟩ => by
    obtain ⟨c, st1, e1, e⟩ := bool_inv e
    refine tE_bool hE R e1 fun ρ1 H1 A hE1 => ⟨c, rfl, ?_⟩
    cases c with
    | true => exact tE_mk hE1 A.rl e (k.shift A)
    | false =>
      cases e
      exact k.bl A
theorem s_or {rest : List Expr} (ha : PE X a (tE X.K Φ pa)) (hb : PE X (.BoolOp .Or (b :: rest) pos) (tE X.K Φ pb)) : PE X (.BoolOp .Or (a :: b :: rest) pos) (tE X.K Φ (.or pa pb)) :=
  (pe_or ha hb).qof fun σ H Q ⟨env, ρ, st, m, st', hE, R, e, k⟩ => by
    obtain ⟨c, st1, e1, e⟩ := bool_inv e
    refine tE_bool hE R e1 fun ρ1 H1 A hE1 => ⟨c, rfl, ?_⟩
    cases c with
    | false => exact tE_mk hE1 A.rl e (k.shift A)
    | true =>
      cases e
      exact k.bl A
theorem s_cmp (hu : X.A.units + 65 < cLine) {op : CmpOp} (ha : PE X a (tE X.K Φ pa)) (hb : PE X b (tE X.K Φ pb)) (hm : behindInMarks op b = false) : PE X (.Compare a [op] [b] pos) (tE X.K Φ (.cmp (copOf op) pa pb)) :=
  (pe_cmpR (op_cmp hu (op := op) (o := copOf op) (by cases op <;> rfl)) ha hb hm).qof fun σ H Q ⟨env, ρ, st, m, st', hE, R, e, k⟩ => by
    obtain ⟨x, st1, e1, e⟩ := Out.bind_eq e
    obtain ⟨y, st2, e2, e⟩ := Out.bind_eq e
    exact tE_two hE R e1 e2 fun v w ρ2 fp H2 A _ r => cmp_read A r e k
/-- values without new lists stand by themselves -/
theorem Ress.flat {K : PySem.W.Frag} {al ρ' fp : List Addr} {H H' : Hp} {vs : List V} {ms : List MV} (r : Ress K al H ρ' H' vs ms fp) (h : noLsts ms = true) : Ress K [] H' ρ' H' vs ms [] := by
  have e := noLsts_nil r.rep h
  subst e
  exact ⟨r.rep, List.nodup_nil, fun _ z => nomatch z⟩
theorem chain_read {K : PySem.W.Frag} {ρ : List Addr} {H : Hp} {st st' : Store} {σ : L2.St} {env : Env} {m : MV} {Q : VK} {o o' : Cop} (hE : EnvR K ρ H σ env) (R : Rl K ρ st H) (e : ev Φ (.chn o o' pa pb pc) env st = .val m st') (k : Kont K ρ H m st' Q) :
    tChain (rCmp K o) (rCmp K o') (tE K Φ pa) (tE K Φ pb) (tE K Φ pc) σ H Q := by
  obtain ⟨x, st1, e1, e⟩ := Out.bind_eq e
  obtain ⟨y, st2, e2, e⟩ := Out.bind_eq e
  obtain ⟨hy, e⟩ := chk_eq e
  obtain ⟨c, st3, e3, e⟩ := bool_inv e
  refine tE_two hE R e1 e2 fun v w ρ2 fp H2 A hE2 r => ?_
  have hxy : noLsts [x, y] = true := by simpa [noLsts] using hy
  have r0 := r.flat hxy
  refine cmp_read (Aft.refl A.rl) r0 e3 fun z ρ3 f3 H3 B rz => ⟨c, rz.rep.bl_inv.1, ?_⟩
  have hE3 := hE2.after B A.rl.wr noAl
  have AB := A.trans B noBl
  cases c with
  | false =>
    cases e
    exact k.bl AB
  | true =>
    rw [if_pos rfl]
    obtain ⟨z, st4, e4, e⟩ := Out.bind_eq e
    refine tE_one hE3 B.rl e4 fun w3 ρ4 f4 H4 C _ r4 => ?_
    obtain ⟨v1, w1, f1, g1, q1, q2, s1, s2⟩ := r0.rep.two
    cases q1
    obtain ⟨q3, q4⟩ := List.append_eq_nil_iff.mp q2.symm
    subst q3 q4
    have s2' : Rep K ρ4 H4 w y [] := (s2.after B A.rl.wr noAl (fun _ z => nomatch z)).after C B.rl.wr noAl (fun _ z => nomatch z)
    have r4' := Res.from AB r4
    exact cmp_read (AB.trans C noBl) (Ress.mk (Reps.cons (f := []) s2' r4'.one.rep) r4'.nd r4'.new) e k
theorem s_chn (hu : X.A.units + 65 < cLine) {op op' : CmpOp} (ha : PE X a (tE X.K Φ pa)) (hb : PE X b (tE X.K Φ pb)) (hc : PE X c (tE X.K Φ pc)) (hm : lastMarks [op, op'] [b, c] = false) :
    PE X (.Compare a [op, op'] [b, c] pos) (tE X.K Φ (.chn (copOf op) (copOf op') pa pb pc)) :=
  (pe_chain (op_cmp hu (op := op) (o := copOf op) (by cases op <;> rfl)) (op_cmp hu (op := op') (o := copOf op') (by cases op' <;> rfl)) ha hb hc hm).qof fun σ H Q ⟨env, ρ, st, m, st', hE, R, e, k⟩ => chain_read hE R e k
theorem s_ite (hc : PT X c (tT X.K Φ pc)) (ha : PE X a (tE X.K Φ pa)) (hb : PE X b (tE X.K Φ pb)) : PE X (.IfExp c a b pos) (tE X.K Φ (.ite pc pa pb)) :=
  (pe_ifExp hc ha hb).qof fun σ H Q ⟨env, ρ, st, m, st', hE, R, e, k⟩ => by
    obtain ⟨c, st1, e1, e⟩ := bool_inv e
    refine tT_mk hE R e1 fun ρ1 H1 A hE1 => ?_
    cases c with
    | true => exact tE_mk hE1 A.rl e (k.shift A)
    | false => exact tE_mk hE1 A.rl e (k.shift A)
/-! tests -/
theorem s_test {e : Expr} {p : E} (h : PE X e (tE X.K Φ p)) (he : ∀ whole, isTrue e X.env whole = (do let v ← whole; standAt e.pos; holding [v] (truthy v)) := by intro _; rfl) : PT X e (tT X.K Φ p) :=
  (pt_val h he).qof fun σ H Q ⟨env, ρ, st, c, st', hE, R, e, k⟩ => tE_bool hE R e fun ρ1 H1 A _ => ⟨c, rfl, k ρ1 H1 A⟩
theorem t_not (ha : PT X a (tT X.K Φ pa)) : PT X (.UnaryOp .Not a pos) (tT X.K Φ (.not pa)) :=
  (pt_not ha).qof fun σ H Q ⟨env, ρ, st, d, st', hE, R, e, k⟩ => by
    obtain ⟨c, st1, e1, e⟩ := bool_inv e
    cases e
    exact tT_mk hE R e1 fun ρ1 H1 A _ => k ρ1 H1 A
theorem t_and {rest : List Expr} (ha : PT X a (tT X.K Φ pa)) (hb : PW X (.BoolOp .And (b :: rest) pos) (tT X.K Φ pb)) : PW X (.BoolOp .And (a :: b :: rest) pos) (tT X.K Φ (.and pa pb)) :=
  (pw_and ha hb).qof fun σ H Q ⟨env, ρ, st, d, st', hE, R, e, k⟩ => by
    obtain ⟨c, st1, e1, e⟩ := bool_inv e
    refine tT_mk hE R e1 fun ρ1 H1 A hE1 => ?_
    cases c with
    | true => exact ⟨env, ρ1, st1, d, st', hE1, A.rl, e, fun ρ2 H2 B => k ρ2 H2 (A.trans B noBl)⟩
    | false =>
      cases e
      exact k ρ1 H1 A
theorem t_or {rest : List Expr} (ha : PT X a (tT X.K Φ pa)) (hb : PW X (.BoolOp .Or (b :: rest) pos) (tT X.K Φ pb)) : PW X (.BoolOp .Or (a :: b :: rest) pos) (tT X.K Φ (.or pa pb)) :=
  (pw_or ha hb).qof fun σ H Q ⟨env, ρ, st, d, st', hE, R, e, k⟩ => by
    obtain ⟨c, st1, e1, e⟩ := bool_inv e
    refine tT_mk hE R e1 fun ρ1 H1 A hE1 => ?_
    cases c with
    | false => exact ⟨env, ρ1, st1, d, st', hE1, A.rl, e, fun ρ2 H2 B => k ρ2 H2 (A.trans B noBl)⟩
    | true =>
      cases e
      exact k ρ1 H1 A
theorem t_cmp (hu : X.A.units + 65 < cLine) {op : CmpOp} (ha : PE X a (tE X.K Φ pa)) (hb : PE X b (tE X.K Φ pb)) (hm : behindInMarks op b = false) : PT X (.Compare a [op] [b] pos) (tT X.K Φ (.cmp (copOf op) pa pb)) :=
  (pt_cmpR (op_cmp hu (op := op) (o := copOf op) (by cases op <;> rfl)) ha hb hm).qof fun σ H Q ⟨env, ρ, st, c, st', hE, R, e, k⟩ => by
    obtain ⟨x, st1, e1, e⟩ := Out.bind_eq e
    obtain ⟨y, st2, e2, e⟩ := Out.bind_eq e
    exact tE_two hE R e1 e2 fun v w ρ2 fp H2 A _ r => cmp_read A r e fun z ρ3 f3 H3 B rz => ⟨c, rz.rep.bl_inv.1, k ρ3 H3 B⟩
theorem t_chn (hu : X.A.units + 65 < cLine) {op op' : CmpOp} (ha : PE X a (tE X.K Φ pa)) (hb : PE X b (tE X.K Φ pb)) (hc : PE X c (tE X.K Φ pc)) (hm : lastMarks [op, op'] [b, c] = false) :
    PT X (.Compare a [op, op'] [b, c] pos) (tT X.K Φ (.chn (copOf op) (copOf op') pa pb pc)) :=
  (pt_chain (op_cmp hu (op := op) (o := copOf op) (by cases op <;> rfl)) (op_cmp hu (op := op') (o := copOf op') (by cases op' <;> rfl)) ha hb hc hm).qof fun σ H Q ⟨env, ρ, st, d, st', hE, R, e, k⟩ =>
    chain_read hE R e fun z ρ3 f3 H3 B rz => ⟨d, rz.rep.bl_inv.1, k ρ3 H3 B⟩
theorem t_ite (hc : PT X c (tT X.K Φ pc)) (ha : PT X a (tT X.K Φ pa)) (hb : PT X b (tT X.K Φ pb)) : PT X (.IfExp c a b pos) (tT X.K Φ (.ite pc pa pb)) := by
  refine ⟨fun pins s σ H Q I ⟨env, ρ, st, d, st', hE, R, e, k⟩ => ?_⟩
  obtain ⟨c, st1, e1, e⟩ := bool_inv e
  refine isTrue_IfExp (thn (hc.run pins s σ H (fun z H1 => z = c ∧ ∃ ρ1, Aft X.K ρ [] H st1 ρ1 H1 ∧ EnvR X.K ρ1 H1 σ env) I (tT_mk hE R e1 fun ρ1 H1 A hE1 => ⟨rfl, ρ1, A, hE1⟩)) fun z s1 ⟨H1, I1, ez, ρ1, A, hE1⟩ => ?_)
  subst ez
  cases z with
  | true => exact ha.run pins s1 σ H1 Q I1 ⟨env, ρ1, st1, d, st', hE1, A.rl, e, fun ρ2 H2 B => k ρ2 H2 (A.trans B noBl)⟩
  | false => exact hb.run pins s1 σ H1 Q I1 ⟨env, ρ1, st1, d, st', hE1, A.rl, e, fun ρ2 H2 B => k ρ2 H2 (A.trans B noBl)⟩

/-! argument lists, displays -/
theorem s_nil : PA X [] (tEs X.K Φ .nil) :=
  pa_nil.qof fun σ H Q ⟨env, ρ, st, ms, st', hE, R, e, k⟩ => by
    cases e
    exact k [] ρ [] H (Aft.refl R) ⟨.nil, List.nodup_nil, fun _ z => nomatch z⟩
theorem s_cons {es : List Expr} {ps : Es} (ha : PE X a (tE X.K Φ pa)) (hr : PA X es (tEs X.K Φ ps)) (hs : starEach (a :: es) X.env = (false, eval a X.env) :: starEach es X.env) : PA X (a :: es) (tEs X.K Φ (.cons pa ps)) :=
  (pa_cons ha hr hs).qof fun σ H Q ⟨env, ρ, st, ms, st', hE, R, e, k⟩ => by
    obtain ⟨x, st1, e1, e⟩ := Out.bind_eq e
    obtain ⟨xs, st2, e2, e⟩ := Out.bind_eq e
    cases e
    refine tE_one hE R e1 fun v ρ1 f H1 A hE1 r => ⟨env, ρ1, st1, xs, _, hE1, A.rl, e2, fun vs ρ2 g H2 B s => ?_⟩
    exact k _ ρ2 (f ++ g) H2 (A.trans B noBl) (Ress.cons A B r s)
theorem evs_len {env : Env} : ∀ {es : List Expr} {n : Nat} {ce : CEnv} {ps : Es} {ms : List MV} {st st' : Store}, compEs n ce es = some ps → evs Φ ps env st = .val ms st' → ms.length = es.length
  | [], 0, _, _, _, _, _, h, _ => by cases h
  | [], n + 1, _, _, _, _, _, h, e => by
    cases h
    cases e
    rfl
  | a :: es, 0, _, _, _, _, _, h, _ => by cases h
  | a :: es, n + 1, ce, ps, ms, st, st', h, e => by
    simp only [compEs] at h
    cases h1 : compE n ce a with
    | none => rw [h1] at h; cases h
    | some x =>
      cases h2 : compEs n ce es with
      | none => rw [h1, h2] at h; cases h
      | some xs =>
        rw [h1, h2] at h
        cases h
        obtain ⟨y, st1, e1, e⟩ := Out.bind_eq e
        obtain ⟨ys, st2, e2, e⟩ := Out.bind_eq e
        cases e
        show _ + 1 = _ + 1
        rw [evs_len h2 e2]
theorem small1000L {n : Nat} (h : n ≤ 1000) : n ≤ sizeLine := by rw [sizeLine_eq]; omega
theorem s_tup {es : List Expr} {ps : Es} {k : Nat} (hl : ∀ {env : Env} {ms : List MV} {st st' : Store}, evs Φ ps env st = .val ms st' → ms.length ≤ 1000) (h : PA X es (tEs X.K Φ ps)) : PE X (.Tuple es k pos) (tE X.K Φ (.tup ps)) :=
  (pe_tup h).qof fun σ H Q ⟨env, ρ, st, m, st', hE, R, e, k⟩ => by
    obtain ⟨ms, st1, e1, e⟩ := Out.bind_eq e
    cases e
    refine ⟨env, ρ, st, ms, _, hE, R, e1, fun vs ρ1 f H1 A r => ⟨?_, k.newT A r⟩⟩
    rw [r.rep.length]
    exact small1000L (hl e1)
theorem s_lst {es : List Expr} {ps : Es} (hl : ∀ {env : Env} {ms : List MV} {st st' : Store}, evs Φ ps env st = .val ms st' → ms.length ≤ 1000) (h : PA X es (tEs X.K Φ ps)) : PE X (.List es pos) (tE X.K Φ (.lst ps)) :=
  (pe_lst h).qof fun σ H Q ⟨env, ρ, st, m, st', hE, R, e, k⟩ => by
    obtain ⟨ms, st1, e1, e⟩ := Out.bind_eq e
    cases e
    refine ⟨env, ρ, st, ms, _, hE, R, e1, fun vs ρ1 f H1 A r => ⟨?_, k.newL A r⟩⟩
    rw [r.rep.length]
    exact small1000L (hl e1)
/-! subscripts, slices -/
theorem s_sub (ha : PE X a (tE X.K Φ pa)) (hb : PE X b (tE X.K Φ pb)) (hs : PlainIx b) : PE X (.Subscript a b pos) (tE X.K Φ (.sub pa pb)) :=
  (pe_ix ix_sub ha hb hs).qof fun σ H Q ⟨env, ρ, st, m, st', hE, R, e, k⟩ => by
    obtain ⟨x, st1, e1, e⟩ := Out.bind_eq e
    obtain ⟨y, st2, e2, e⟩ := Out.bind_eq e
    exact tE_two hE R e1 e2 fun v w ρ2 fp H2 A _ r => sub_read A r e k
theorem s_upto {p2 : Pos} (ha : PE X a (tE X.K Φ pa)) (hb : PE X b (tE X.K Φ pb)) : PE X (.Subscript a (.Slice none (some b) none p2) pos) (tE X.K Φ (.sli .upto pa pb)) :=
  (pe_slice sl_sli ha po_none (po_some hb)).qof fun σ H Q ⟨env, ρ, st, m, st', hE, R, e, k⟩ => by
    obtain ⟨x, st1, e1, e⟩ := Out.bind_eq e
    obtain ⟨y, st2, e2, e⟩ := Out.bind_eq e
    obtain ⟨i, rfl⟩ := sli_int (.inl rfl) e
    refine tE_two (R' := fun x w H2 => ∃ i, w = .int i ∧ rSli X.K x none (some i) H2 Q) hE R e1 e2 fun v w ρ2 fp H2 A _ r => ⟨i, ?_, upto_read A r e k⟩
    obtain ⟨v1, w1, f, g, q1, _, _, r2⟩ := r.rep.two
    cases q1
    exact r2.int_inv.1
theorem s_frm {p2 : Pos} (ha : PE X a (tE X.K Φ pa)) (hb : PE X b (tE X.K Φ pb)) : PE X (.Subscript a (.Slice (some b) none none p2) pos) (tE X.K Φ (.sli .frm pa pb)) :=
  (pe_slice sl_sli ha (po_some hb) po_none).qof fun σ H Q ⟨env, ρ, st, m, st', hE, R, e, k⟩ => by
    obtain ⟨x, st1, e1, e⟩ := Out.bind_eq e
    obtain ⟨y, st2, e2, e⟩ := Out.bind_eq e
    obtain ⟨i, rfl⟩ := sli_int (.inr rfl) e
    refine tE_two (R' := fun x w H2 => ∃ i, w = .int i ∧ rSli X.K x (some i) none H2 Q) hE R e1 e2 fun v w ρ2 fp H2 A _ r => ⟨i, ?_, frm_read A r e k⟩
    obtain ⟨v1, w1, f, g, q1, _, _, r2⟩ := r.rep.two
    cases q1
    exact r2.int_inv.1
theorem s_rev {k : Nat} {p1 p2 p3 : Pos} (ha : PE X a (tE X.K Φ pa)) : PE X (.Subscript a (.Slice none none (some (.UnaryOp .USub (.Constant (.int 1) k p1) p2)) p3) pos) (tE X.K Φ (.sli .rev pa (.cst .non))) :=
  (pe_revA ha).qof fun σ H Q ⟨env, ρ, st, m, st', hE, R, e, k⟩ => by
    obtain ⟨x, st1, e1, e⟩ := Out.bind_eq e
    have e : sliM .rev x .non st1 = .val m st' := e
    refine tE_one hE R e1 fun v ρ1 f H1 A _ r => ?_
    unfold sliM at e
    cases h : seqOf st1 x with
    | none => rw [h] at e; cases e
    | some xs =>
      rw [h] at e
      obtain ⟨hb, e⟩ := chk_eq (show chk (noLsts xs) (.val (again x xs.reverse) st1) = Out.val m st' from e)
      cases e
      obtain ⟨a, ws, f', rfl, ha, rr, hs⟩ := seqOf_rep A.rl r.rep h
      have ef := noLsts_nil rr hb
      subst ef
      have nn : ∀ {ms : List MV}, Reps X.K ρ1 H1 ws.reverse ms [] → Ress X.K [] H ρ1 H1 ws.reverse ms [] := fun z => ⟨z, List.nodup_nil, fun _ z => nomatch z⟩
      rcases ha with ⟨ht, ha⟩ | ⟨ht, ha⟩
      · refine ⟨a, ws, rfl, .inr ⟨ha, ?_⟩⟩
        have eq : again x xs.reverse = .tup xs.reverse := by cases x <;> first | rfl | cases ht
        rw [eq] at k
        exact k.newT A (nn rr.rev)
      · refine ⟨a, ws, rfl, .inl ⟨ha, ?_⟩⟩
        have eq : again x xs.reverse = .lst xs.reverse := by cases x <;> first | rfl | cases ht
        rw [eq] at k
        exact k.newL A (nn rr.rev)
theorem rgV_eq (i j : Int) : rgV i j = ((List.range (j - i).toNat).map fun n => i + (n : Nat)).map V.int := by
  unfold rgV
  rw [List.map_map]
  rfl
theorem range_eq (i j : Int) : range i j = ((List.range (j - i).toNat).map fun n => i + (n : Nat)).map MV.int := by
  unfold range
  rw [List.map_map]
  rfl
theorem rep_range {K : PySem.W.Frag} {ρ : List Addr} {H : Hp} (i j : Int) : Reps K ρ H (rgV i j) (range i j) [] := by
  rw [rgV_eq, range_eq]
  exact reps_ints
def rgO : Bool → Int → Int → HO
  | true, i, j => .tup (rgV i j)
  | false, i, j => .lst (rgV i j)
/-- list(range(..)), tuple(range(..)) -/
theorem rgl_read {K : PySem.W.Frag} {ρ : List Addr} {H : Hp} {st st' : Store} {σ : L2.St} {env : Env} {m : MV} {Q : VK} {t : Bool} (hE : EnvR K ρ H σ env) (R : Rl K ρ st H) (e : ev Φ (.rgl t pa pb) env st = .val m st') (k : Kont K ρ H m st' Q) :
    tRg2 (tE K Φ pa) (tE K Φ pb) σ H fun i j H1 => RgOk i j ∧ ∀ q, H1 q = none → Q (.ref q) (upd H1 q (rgO t i j)) := by
  obtain ⟨x, st1, e1, e⟩ := Out.bind_eq e
  obtain ⟨y, st2, e2, e⟩ := Out.bind_eq e
  obtain ⟨i, j, rfl, rfl, e⟩ := int2_inv (f := fun i j => chk (decide (0 ≤ i) && (decide (i ≤ 1000000) && (decide (0 ≤ j) && decide (j ≤ 1000000)))) (.val (rangeM t i j) st2)) e
  obtain ⟨hb, e⟩ := chk_eq e
  cases e
  simp only [Bool.and_eq_true, decide_eq_true_eq] at hb
  refine tE_two (R' := fun x y H2 => ∃ i j, x = .int i ∧ y = .int j ∧ _) hE R e1 e2 fun v w ρ2 fp H2 A _ r => ⟨i, j, ?_, ?_, RgOk.of_le (by omega) (by omega) (by omega) (by omega), ?_⟩
  · obtain ⟨v1, w1, f, g, q1, _, r1, _⟩ := r.rep.two
    cases q1
    exact r1.int_inv.1
  · obtain ⟨v1, w1, f, g, q1, _, _, r2⟩ := r.rep.two
    cases q1
    exact r2.int_inv.1
  · cases t with
    | true => exact k.newT A ⟨rep_range i j, List.nodup_nil, fun _ z => nomatch z⟩
    | false => exact k.newL A ⟨rep_range i j, List.nodup_nil, fun _ z => nomatch z⟩
theorem s_rgl2 {f g : Str} {p1 p2 pos2 : Pos} {t : Bool} (hc : X.calm = true) (hg : Gl X "range") (hm : X.mg "range" = none) (hf : f = "tuple" ∧ t = true ∨ f = "list" ∧ t = false) (hgf : Gl X f) (hmf : X.mg f = none)
    (ha : PE X a (tE X.K Φ pa)) (hb : PE X b (tE X.K Φ pb)) (sa : ∀ r, starEach (a :: r) X.env = (false, eval a X.env) :: starEach r X.env) (sb : ∀ r, starEach (b :: r) X.env = (false, eval b X.env) :: starEach r X.env) :
    PE X (.Call (.Name f p1) [.Call (.Name "range" p2) [a, b] [] pos2] [] pos) (tE X.K Φ (.rgl t pa pb)) := by
  have hp : PRg X (.Call (.Name "range" p2) [a, b] [] pos2) (tRg2 (tE X.K Φ pa) (tE X.K Φ pb)) := prg_2 hg hm ha hb (sa _) (sb _) (by rw [sb]; rfl)
  rcases hf with ⟨rfl, rfl⟩ | ⟨rfl, rfl⟩
  · exact (pe_tupRg hc hgf hmf hp).qof fun σ H Q ⟨env, ρ, st, m, st', hE, R, e, k⟩ => rgl_read (t := true) hE R e k
  · exact (pe_listRg hc hgf hmf hp).qof fun σ H Q ⟨env, ρ, st, m, st', hE, R, e, k⟩ => rgl_read (t := false) hE R e k
theorem s_rgl1 {f g : Str} {p1 p2 pos2 : Pos} {t : Bool} (hc : X.calm = true) (hg : Gl X "range") (hm : X.mg "range" = none) (hf : f = "tuple" ∧ t = true ∨ f = "list" ∧ t = false) (hgf : Gl X f) (hmf : X.mg f = none)
    (hb : PE X b (tE X.K Φ pb)) (sb : ∀ r, starEach (b :: r) X.env = (false, eval b X.env) :: starEach r X.env) :
    PE X (.Call (.Name f p1) [.Call (.Name "range" p2) [b] [] pos2] [] pos) (tE X.K Φ (.rgl t (.cst (.int 0)) pb)) := by
  have hp : PRg X (.Call (.Name "range" p2) [b] [] pos2) (tRg1 (tE X.K Φ pb)) := prg_1 hg hm hb (sb _)
  have conv : ∀ {σ : L2.St} {H : Hp} {Q : Int → Int → Hp → Prop}, tRg2 (tE X.K Φ (.cst (.int 0))) (tE X.K Φ pb) σ H Q → tRg1 (tE X.K Φ pb) σ H Q := by
    rintro σ H Q ⟨env, ρ, st, m, st', hE, R, e, k⟩
    cases e
    obtain ⟨env2, ρ2, st2, m2, st3, h1, h2, h3, h4⟩ := k.plain (Aft.refl R) (.int 0)
    refine ⟨env2, ρ2, st2, m2, st3, h1, h2, h3, fun v ρ' f H' A r => ?_⟩
    obtain ⟨i, j, e1, e2, q⟩ := h4 v ρ' f H' A r
    cases e1
    exact ⟨j, e2, q⟩
  rcases hf with ⟨rfl, rfl⟩ | ⟨rfl, rfl⟩
  · exact (pe_tupRg hc hgf hmf hp).qof fun σ H Q ⟨env, ρ, st, m, st', hE, R, e, k⟩ => conv (rgl_read (t := true) hE R e k)
  · exact (pe_listRg hc hgf hmf hp).qof fun σ H Q ⟨env, ρ, st, m, st', hE, R, e, k⟩ => conv (rgl_read (t := false) hE R e k)
end
end QR

set_option Elab.async false
set_option linter.all false
set_option maxRecDepth 100000
set_option maxHeartbeats 2000000
/-! QEnum: enumerate over a tuple. -/
namespace PySem
open Sem (wp)
open AutoSeq1 (wpAny_loadPart')
theorem q_enumerate_newT (l : Addr) (items : Array Value) (n : Nat) (dct : Option Addr) (sl : Array (Option Value)) :
    Meets (Builtin.«enumerate.__new__» ⟨[.type "enumerate", .ref l], []⟩) (fun _ R s => s.heap.get? l = some { cls := .type "tuple", dict := dct, data := .seq items n, slots := sl } ∧
      R (.ok (.ret (.ref (s.heap.push { cls := .type "tuple_iterator", data := .fields #[.ref l, .int 0 0] }).objs.size)))
        { s with heap := (s.heap.push { cls := .type "tuple_iterator", data := .fields #[.ref l, .int 0 0] }).push { cls := .type "enumerate", data := .fields #[.none, .bool false, .ref s.heap.objs.size, rawInt 0, .none, .none] } }) :=
  .of_wp fun prog w A R s h => by
    obtain ⟨hp, g, d, tk, os⟩ := s; obtain ⟨hl, h⟩ := h
    have hsub := sub_enumerate
    have hL : Heap.IsTuple (Shared.heap ⟨hp, g, d, tk, os⟩) l items := ⟨_, hl, rfl, n, rfl⟩
    wp_walk using wpAny_loadPart' hl
    refine wpAny_stack_any fun st => wpAny_pure ?_
    split
    · rename_i c _ _ _ _ _
      cases (c == Value.type "enumerate")
      · wp_walk using wpAny_loadPart' hl, wpAny_pyIter_tuple hL
        exact ⟨_, rfl, h⟩
      · wp_walk using wpAny_loadPart' hl, wpAny_pyIter_tuple hL
        exact ⟨_, rfl, h⟩
    · wp_walk using wpAny_loadPart' hl, wpAny_pyIter_tuple hL
      exact ⟨_, rfl, h⟩
section
variable {prog : Program} {w : World} {A : Around} {E : Value → Shared → Prop} {s : Shared}
theorem q_call_enumerate_tuple {l : Addr} {items : Array Value} {Q : Value → Shared → Prop} (hL : s.heap.IsTuple l items)
    (h : ∀ h', IsEnum h' (s.heap.objs.size + 1) s.heap.objs.size 0 .none → h'.IsTupleIter s.heap.objs.size l 0 → h'.objs.size = s.heap.objs.size + 2 →
      (∀ b o, s.heap.get? b = some o → h'.get? b = some o) → Q (.ref (s.heap.objs.size + 1)) { s with heap := h' }) :
    wpAny (model prog w) A (call (.type "enumerate") [.ref l]) Q E s := by
  obtain ⟨⟨c, dct, dt, sl⟩, hl, hc, n, hd⟩ := hL
  replace hc : c = .type "tuple" := hc
  replace hd : dt = .seq items n := hd
  subst hc hd
  refine callType_new F.called_enumerate (by decide) (F.typeCall_enumerate_1 _) (F.newCall_enumerate_1 _) (fun obj => F.args_object_init_2 obj _) F.entry_enumerate_new
    (q_enumerate_newT l items n dct sl) ⟨hl, ?_⟩
  have hz : (s.heap.push { cls := .type "tuple_iterator", data := .fields #[.ref l, .int 0 0] }).objs.size = s.heap.objs.size + 1 := Heap.size_push ..
  show _ ∧ _
  rw [hz]
  have he : IsEnum ((s.heap.push { cls := .type "tuple_iterator", data := .fields #[.ref l, .int 0 0] }).push
      { cls := .type "enumerate", data := .fields #[.none, .bool false, .ref s.heap.objs.size, rawInt 0, .none, .none] }) (s.heap.objs.size + 1) s.heap.objs.size 0 .none := by
    have := Heap.get?_push_size (s.heap.push { cls := .type "tuple_iterator", data := .fields #[.ref l, .int 0 0] })
      (o := { cls := .type "enumerate", data := .fields #[.none, .bool false, .ref s.heap.objs.size, rawInt 0, .none, .none] }) rfl
    rw [hz] at this; exact this
  refine ⟨⟨_, he, rfl⟩, h _ he ⟨_, Heap.get?_push_of_some _ (Heap.get?_push_size _ rfl), rfl, rfl⟩ (by rw [Heap.size_push, hz]) fun b o x => Heap.get?_push_of_some _ (Heap.get?_push_of_some _ x)⟩
end
end PySem
namespace QR
open PySem PySem.Spec PyProof.Rows L2
def ItqT (K : PySem.W.Frag) (a : Addr) : L2.It :=
  ⟨fun i H => ∃ (xs : List V) (x : V), SqT K H a xs ∧ xs[i]? = some x, fun i H v H' => ∃ T x, v = .ref T ∧ H T = none ∧ H' = upd H T (.tup [.int (i : Nat), x]) ∧ ∀ xs, SqT K H a xs → xs[i]? = some x, fun i H => ∃ xs : List V, SqT K H a xs ∧ xs.length ≤ i⟩
theorem turn_enumT {P : Program} {w : World} {K : PySem.W.Frag} {elts : List Expr} {kk : Nat} {tpos : Pos} (a e it : Addr) :
    Turn P w K (.Tuple elts kk tpos) (ItqT K a) [e, it] e (fun i h => (∃ old, IsEnum h e it ((i : Nat) : Int) old) ∧ h.IsTupleIter it a i ∧ e ≠ it ∧ a ≠ it ∧ a ≠ e) where
  mem := by simp
  obj := fun i h st b hb => by
    obtain ⟨⟨old, he⟩, ⟨o, ho, hc, hd⟩, _⟩ := st
    have e' : b = e ∨ b = it := by simpa using hb
    rcases e' with z | z
    · rw [z]; exact ⟨_, he, fun v q => nomatch q⟩
    · rw [z]; exact ⟨o, ho, fun v q => by rw [hd] at q; cases q⟩
  keep := fun i h h' st k => let ⟨⟨old, he⟩, hi, hne⟩ := st; ⟨⟨old, k e (by simp) _ he⟩, hi.at fun o q => k it (by simp) o q, hne⟩
  item := by
    intro X hP hw hK hc i pins s σ H E I hf st hg
    subst hP hw hK
    obtain ⟨⟨old, he⟩, hit, hne, hai, hae⟩ := st
    obtain ⟨xs, x, hq, hx⟩ := hg
    obtain ⟨its, rv, p, hz⟩ := I.tuple hq
    obtain ⟨u, hu, ru⟩ := rv.get hx
    have hel : e < s.heap.objs.size := Heap.lt_size he
    have hil : it < s.heap.objs.size := by obtain ⟨_, q, _⟩ := hit; exact Heap.lt_size q
    have hlt : i < its.toArray.size := by
      have := (List.getElem?_eq_some_iff.mp hu).1
      simpa using this
    have D := Draws.tuple (prog := X.prog) (w := X.w) (A := X.A.in1) (I.ok.hd hc) it a hai its.toArray
    have hef : e ∉ [it, a] := fun z => by
      have z' : e = it ∨ e = a := by simpa using z
      rcases z' with q | q
      · exact hne q
      · exact hae q.symm
    refine wpAny_pyNext_enum_itemD D he ⟨hit, show s.heap.IsTuple a its.toArray from p⟩ hlt hne hef fun y h' tk hP ho hit' hT hsz hk => ?_
    have ey : y = u := by
      have h1 : its.toArray[i]? = some y := hP
      have h2 : its.toArray[i]? = some u := by simpa using hu
      rw [h2] at h1
      exact (Option.some.inj h1).symm
    subst ey
    refine ⟨_, rfl, wpAny_letOwnedTupleGo_enum (s := { s with heap := h', toks := tk + 1 }) ho fun h'' he' sb => ?_⟩
    have hT2 : h''.get? s.heap.objs.size = some { cls := .type "tuple", data := .seq #[.int i tk, y] } := (sb.2 _ (Nat.ne_of_gt hel)).trans hT
    have new : ObjOk X.prog X.w (upd H s.heap.objs.size (.tup [.int (i : Nat), x])) h'' s.heap.objs.size (.tup [.int (i : Nat), x]) :=
      ⟨by show 2 ≤ sizeLine; decide, [.int i tk, y], .cons ⟨_, rfl⟩ (.cons ru .nil), ⟨_, hT2, rfl, _, rfl⟩⟩
    have I1 : Inv X pins σ (upd H s.heap.objs.size (.tup [.int (i : Nat), x])) { s with heap := h'', toks := tk + 1 } :=
      I.turnedNew (ch := [e, it]) (fun b ob hb q => (sb.2 b (fun z => hb (by simp [z]))).trans (hk b ob (fun z => hb (by simp [z])) (fun z => hb (by simp [z])) q)) hf (Nat.le_refl _) new
    refine ⟨.ref s.heap.objs.size, _, I1, rfl, ⟨_, x, rfl, I.hok.fresh (Nat.le_refl _), rfl, fun ys hy => by rw [I.tuple_inj hy hq]; exact hx⟩, ⟨⟨y, ?_⟩, hit'.1.at fun o q => (sb.2 it (Ne.symm hne)).trans q, hne, hai, hae⟩, fun b hb => ?_⟩
    · have e1 : ((i + 1 : Nat) : Int) = (i : Int) + 1 := by omega
      rw [e1]; exact he'
    · have hb' : b < s.heap.objs.size := by
        have e' : b = e ∨ b = it := by simpa using hb
        rcases e' with z | z
        · rw [z]; exact hel
        · rw [z]; exact hil
      rw [upd_ne (Nat.ne_of_lt hb')]
      exact (hf b hb).1
  done := by
    intro X hP hw hK hc i pins s σ H E I hf st hg
    subst hP hw hK
    obtain ⟨⟨old, he⟩, hit, hne, hai, hae⟩ := st
    obtain ⟨xs, hq, hx⟩ := hg
    obtain ⟨its, rv, p, hz⟩ := I.tuple hq
    obtain ⟨f0, f1, f2, f3, f4, f5⟩ := hf it (by simp)
    have hl := rv.length
    have hT : s.TypeIs (.ref e) "enumerate" := ⟨_, he, rfl⟩
    unfold pyNext
    refine wpAny_bind (wpAny_attempt (wpAny_callSpecial?_slot (name := Str.ofString "__next__") hT F.slot_enumerate_next
      (wpAny_call_entry F.slot_enumerate_next hT F.entry_enumerate_next ?_ (F.args_enumerate_next_1 _))))
    show wpAny _ _ (field (.ref e) 2 >>= _) _ _ _
    refine wpAny_bind (wpAny_field he rfl (x := .ref it) rfl ?_)
    refine wpAny_bind (wpAny_nextOf_tuple_end (I.ok.hd hc) hit (show s.heap.IsTuple a its.toArray from p) (by simp; omega) fun h' x he' hx' => ?_)
    obtain ⟨o, ho, hcx⟩ := hx'
    refine wpAny_bind (wpAny_isInstance (T := "StopIteration") (b := true) ⟨o, ho, hcx⟩ isSubtype_stop ?_)
    exact wpAny_pure ⟨rfl, I.turned (t' := s.toks) (fun b o hb q => he' b o hb q) f0 f1 f3 f4 f5⟩
  self := fun A i s Q E st h => let ⟨⟨_, he⟩, _⟩ := st; wpAny_pyIter_enum he h
def iEnumA (K : PySem.W.Frag) (ta : TA) : TI := fun σ H R => ta σ H fun vs H1 => ∃ a xs, vs = [.ref a] ∧ ((SqL K H1 a xs ∧ R (Ite K a) H1) ∨ (SqT K H1 a xs ∧ R (ItqT K a) H1))
theorem pi_enumA {X : Cx} {e : Expr} {ta : TA} {p pos tpos : Pos} {elts : List Expr} {kk : Nat} (hg : Gl X "enumerate") (hm : X.mg "enumerate" = none) (ha : PA X [e] ta) (hs : starEach [e] X.env = [(false, eval e X.env)]) :
    PI X (.Tuple elts kk tpos) (.Call (.Name "enumerate" p) [e] [] pos) (iEnumA X.K ta) := by
  refine ⟨fun pins s σ H R I h => ?_⟩
  refine Call_ (ld_blt I hg hm boot_enumerate (PyProof.Rows.callWith_type1 (thn (ha.run pos pins s σ H _ I h) fun us s1 ⟨vs, H1, I1, r1, q1⟩ => ?_) hs rfl))
  obtain ⟨a, xs, ex, q⟩ := q1
  subst ex
  cases r1 with
  | cons r rr =>
    cases rr
    cases r
    have two : ∀ b ∈ [s1.heap.objs.size + 1, s1.heap.objs.size], FpOk X pins H1 b := fun b hb => by
      have e' : b = s1.heap.objs.size + 1 ∨ b = s1.heap.objs.size := by simpa using hb
      have hle : s1.heap.objs.size ≤ b := by
        rcases e' with z | z
        · rw [z]; exact Nat.le_add_right _ _
        · rw [z]; exact Nat.le_refl _
      exact I1.fpOk hle (I1.hok.fresh hle)
    rcases q with ⟨hq, q⟩ | ⟨hq, q⟩
    · obtain ⟨its, rv, p', hz⟩ := I1.list hq
      refine call_enumerate_list p'.isList fun h' he hit hsz hk => wpAny_pyIter_enum he ?_
      have I2 : Inv X pins σ H1 { s1 with heap := h' } := I1.kept (t' := s1.toks) hk
      exact ⟨s1.heap.objs.size + 1, [s1.heap.objs.size + 1, s1.heap.objs.size], _, _, H1, rfl, I2, turn_enum a (s1.heap.objs.size + 1) s1.heap.objs.size, ⟨⟨.none, he⟩, hit, Nat.succ_ne_self _⟩, two, q⟩
    · obtain ⟨its, rv, p', hz⟩ := I1.tuple hq
      have hlt : a < s1.heap.objs.size := p'.lt
      refine q_call_enumerate_tuple (show s1.heap.IsTuple a its.toArray from p') fun h' he hit hsz hk => wpAny_pyIter_enum he ?_
      have I2 : Inv X pins σ H1 { s1 with heap := h' } := I1.kept (t' := s1.toks) hk
      exact ⟨s1.heap.objs.size + 1, [s1.heap.objs.size + 1, s1.heap.objs.size], _, _, H1, rfl, I2, turn_enumT a (s1.heap.objs.size + 1) s1.heap.objs.size, ⟨⟨.none, he⟩, hit, Nat.succ_ne_self _, Nat.ne_of_lt hlt, Nat.ne_of_lt (Nat.lt_succ_of_lt hlt)⟩, two, q⟩
/-- for x in xs, xs a list or a tuple -/
def iSeq (K : PySem.W.Frag) (tl : TE) : TI := fun σ H R => tl σ H fun x H1 => ∃ a xs, x = .ref a ∧ ((SqL K H1 a xs ∧ R (Itl K a) H1) ∨ (SqT K H1 a xs ∧ R (Itt K a) H1))
theorem pi_seq {X : Cx} {tg l : Expr} {tl : TE} (hl : PE X l tl) : PI X tg l (iSeq X.K tl) := by
  refine ⟨fun pins s σ H R I h => ?_⟩
  refine thn (hl.run pins s σ H _ I h) fun v s1 ⟨x, H1, I1, r1, q1⟩ => ?_
  obtain ⟨a, xs, e, q⟩ := q1
  subst e
  cases r1
  have one : ∀ b ∈ [s1.heap.objs.size], FpOk X pins H1 b := fun b hb => by
    have e : b = s1.heap.objs.size := by simpa using hb
    subst e
    exact I1.fpOk (Nat.le_refl _) (I1.hok.fresh (Nat.le_refl _))
  rcases q with ⟨hq, q⟩ | ⟨hq, q⟩
  · obtain ⟨its, rv, p, hz⟩ := I1.list hq
    refine wpAny_pyIter_list p.isList ?_
    exact ⟨s1.heap.objs.size, [s1.heap.objs.size], _, _, H1, rfl, I1.kept (t' := s1.toks) fun b o e => Heap.get?_push_of_some _ e, turn_list a _, ⟨_, Heap.get?_push_size _ rfl, rfl, rfl⟩, one, q⟩
  · obtain ⟨its, rv, p, hz⟩ := I1.tuple hq
    refine wpAny_pyIter_tuple (show s1.heap.IsTuple a its.toArray from p) ?_
    exact ⟨s1.heap.objs.size, [s1.heap.objs.size], _, _, H1, rfl, I1.kept (t' := s1.toks) fun b o e => Heap.get?_push_of_some _ e, turn_tuple a _, ⟨_, Heap.get?_push_size _ rfl, rfl, rfl⟩, one, q⟩
end QR

set_option Elab.async false
set_option linter.all false
set_option maxRecDepth 100000
set_option maxHeartbeats 1000000
/-! QSoundB: calls, built-ins, methods, targets, what is walked, comprehensions. -/
namespace QR
open PySem PySem.Spec PyProof.Rows L2

/-- a name of the module that is a def of ours -/
def FnG (X : Cx) (Φ : Phi) (x : Str) (k : Nat) : Prop :=
  ∃ (lvl : Nat) (f : Addr) (fd : FuncData) (ps : List Str), X.mg x = some (.ref f) ∧ PySem.W.keepIn X.K (.ref f) = true ∧ FnOk X.prog X.w X.K X.mg X.base CX0 lvl f fd ps (spF Φ X.K k) ∧ Room lvl X.A ∧ Binds X.K fd ps []
section
variable {X : Cx} {Φ : Phi} {a b c e : Expr} {es : List Expr} {pa pb pc : E} {ps : Es} {pos p : Pos} {i k : Nat} {x : Str}
theorem call_read {K : PySem.W.Frag} {ρ ρ1 fp : List Addr} {H H1 : Hp} {vs : List V} {ms : List MV} {st1 st' : Store} {m : MV} {Q : VK} (A : Aft K ρ [] H st1 ρ1 H1) (R : Ress K [] H ρ1 H1 vs ms fp) (e : Φ k ms st1 = .val m st') (kk : Kont K ρ H m st' Q) :
    spF Φ K k (vs ++ []) H1 Q E0 := by
  rw [List.append_nil]
  refine ⟨ρ1, st1, ms, fp, m, st', A.rl, R.rep, R.nd, fun a ha => (R.new a ha).2, e, fun v ρ2 fp' H2 B S => ?_⟩
  refine kk v ρ2 fp' H2 (A.trans B fun a ha => (R.new a ha).1) ⟨S.rep, S.nd, fun a ha => ⟨?_, (S.new a ha).2⟩⟩
  rcases (S.new a ha).1 with q | q
  · exact .inl (A.none q)
  · exact (R.new a q).1
theorem s_call (F : FnG X Φ x k) (hg : Gl X x) (hdb : (x == ("__debug__" : Str)) = false) (ha : PA X (e :: es) (tEs X.K Φ ps)) (he : starEach (e :: es) X.env = (false, eval e X.env) :: starEach es X.env)
    (hpl : (backTo pos (starEach es X.env)).any (·.1) = false) : PE X (.Call (.Name x p) (e :: es) [] pos) (tE X.K Φ (.call k ps)) := by
  obtain ⟨lvl, f, fd, qs, h1, h2, h3, h4, h5⟩ := F
  refine (pe_call (dvs := []) (E := E0) h3 h4 hg h1 h2 h5 .nil pass0 ha hdb he hpl).qof fun σ H Q ⟨env, ρ, st, m, st', hE, R, e, k⟩ => ?_
  obtain ⟨ms, st1, e1, e⟩ := Out.bind_eq e
  exact ⟨env, ρ, st, ms, st1, hE, R, e1, fun vs ρ1 f H1 A r => call_read A r e k⟩
theorem s_call0 (F : FnG X Φ x k) (hg : Gl X x) (hdb : (x == ("__debug__" : Str)) = false) : PE X (.Call (.Name x p) [] [] pos) (tE X.K Φ (.call k .nil)) := by
  obtain ⟨lvl, f, fd, qs, h1, h2, h3, h4, h5⟩ := F
  refine (pe_call0 (dvs := []) (E := E0) h3 h4 hg h1 h2 h5 .nil pass0 hdb).qof fun σ H Q ⟨env, ρ, st, m, st', hE, R, e, k⟩ => ?_
  have e : Φ _ [] st = .val m st' := e
  exact call_read (vs := []) (Aft.refl R) ⟨.nil, List.nodup_nil, fun _ z => nomatch z⟩ e k
/-! built-ins -/
theorem blt_in {t : TE} (b : Blt) (hb : ∀ t, b ≠ .isi t) (h : PE X e t) (ht : t = tCB (bltR X.K b) (tEs X.K Φ ps)) : PE X e (tE X.K Φ (.blt b ps)) := by
  subst ht
  refine h.qof fun σ H Q ⟨env, ρ, st, m, st', hE, R, e, k⟩ => ?_
  obtain ⟨ms, st1, e1, e⟩ := Out.bind_eq e
  exact ⟨env, ρ, st, ms, st1, hE, R, e1, fun vs ρ1 f H1 A r => blt_read hb A r e k⟩
theorem s_blt (hc : X.calm = true) (hu : X.A.units + 65 < cLine) {b : Blt} (hb : ∀ t, b ≠ .isi t) (hg : Gl X x) (hm : X.mg x = none) (hv : bootBuiltins x = some (bltV b)) (hn : x ≠ "__name__") (hdb : (x == ("__debug__" : Str)) = false)
    (ha : PA X (e :: es) (tEs X.K Φ ps)) (he : starEach (e :: es) X.env = (false, eval e X.env) :: starEach es X.env) (hpl : (backTo pos (starEach es X.env)).any (·.1) = false) :
    PE X (.Call (.Name x p) (e :: es) [] pos) (tE X.K Φ (.blt b ps)) := by
  have hc' := blt_call hc hu b
  cases b with
  | len => exact blt_in .len hb (pe_callB (id := "len") hc' hg hm hv ha hn hdb he hpl) rfl
  | abs => exact blt_in .abs hb (pe_callB (id := "abs") hc' hg hm hv ha hn hdb he hpl) rfl
  | min => exact blt_in .min hb (pe_callB (id := "min") hc' hg hm hv ha hn hdb he hpl) rfl
  | max => exact blt_in .max hb (pe_callB (id := "max") hc' hg hm hv ha hn hdb he hpl) rfl
  | int => exact blt_in .int hb (pe_callTy (T := "int") hc' hg hm hv ha hn hdb he hpl) rfl
  | sum => exact blt_in .sum hb (pe_callB (id := "sum") hc' hg hm hv ha hn hdb he hpl) rfl
  | all => exact blt_in .all hb (pe_callB (id := "all") hc' hg hm hv ha hn hdb he hpl) rfl
  | any => exact blt_in .any hb (pe_callB (id := "any") hc' hg hm hv ha hn hdb he hpl) rfl
  | sorted => exact blt_in .sorted hb (pe_callB (id := "sorted") hc' hg hm hv ha hn hdb he hpl) rfl
  | tuple => exact blt_in .tuple hb (pe_callTy (T := "tuple") hc' hg hm hv ha hn hdb he hpl) rfl
  | list => exact blt_in .list hb (pe_callTy (T := "list") hc' hg hm hv ha hn hdb he hpl) rfl
  | isi t => exact absurd rfl (hb t)
def tyS : Ty → String
  | .int => "int"
  | .bool => "bool"
  | .str => "str"
  | .tuple => "tuple"
  | .list => "list"
theorem kit_non (t : Ty) : kitB "NoneType" (tyS t) = some false := by cases t <;> decide +kernel
theorem kit_bl (t : Ty) : kitB "bool" (tyS t) = some (decide (t = .int) || decide (t = .bool)) := by cases t <;> decide +kernel
theorem kit_int (t : Ty) : kitB "int" (tyS t) = some (decide (t = .int)) := by cases t <;> decide +kernel
theorem kit_str (t : Ty) : kitB "str" (tyS t) = some (decide (t = .str)) := by cases t <;> decide +kernel
theorem kit_tup (t : Ty) : kitB "tuple" (tyS t) = some (decide (t = .tuple)) := by cases t <;> decide +kernel
theorem kit_lst (t : Ty) : kitB "list" (tyS t) = some (decide (t = .list)) := by cases t <;> decide +kernel
theorem sqT_ty {K : PySem.W.Frag} {H : Hp} {a : Addr} {vs : List V} (h : SqT K H a vs) : TyX K H (.ref a) (.type "tuple") := by
  rcases h with (h | ⟨o, h⟩) | ⟨o, its, n, h1, h2, _⟩
  · exact .base (.tup h)
  · exact .fTuple h
  · exact .kTuple h1 h2
theorem sqL_ty {K : PySem.W.Frag} {H : Hp} {a : Addr} {vs : List V} (h : SqL K H a vs) : TyX K H (.ref a) (.type "list") := by
  rcases h with (h | ⟨o, h⟩) | ⟨o, its, n, h1, h2, _⟩
  · exact .base (.lst h)
  · exact .base (.frz h)
  · exact .kList h1 h2
theorem isi_read {K : PySem.W.Frag} {ρ fp : List Addr} {H : Hp} {v : V} {y m : MV} {st st' : Store} {t : Ty} (R : Rl K ρ st H) (r : Rep K ρ H v y fp) (e : isiM t y st = .val m st') :
    ∃ (s : Value) (b : Bool), m = .bl b ∧ st' = st ∧ TyX K H v s ∧ PySem.W.kitOne K s (.type (tyS t)) = some b := by
  cases r with
  | non => cases e; exact ⟨_, _, rfl, rfl, .base .non, kit_ty (kit_non t)⟩
  | bl b => cases e; exact ⟨_, _, rfl, rfl, .base (.bl b), kit_ty (kit_bl t)⟩
  | int i => cases e; exact ⟨_, _, rfl, rfl, .base (.int i), kit_ty (kit_int t)⟩
  | str z h => cases e; exact ⟨_, _, rfl, rfl, .base (.str z), kit_ty (kit_str t)⟩
  | tup h r => cases e; exact ⟨_, _, rfl, rfl, sqT_ty h, kit_ty (kit_tup t)⟩
  | lst h r => cases e; exact ⟨_, _, rfl, rfl, .base (.lst h), kit_ty (kit_lst t)⟩
  | rol h => cases e; exact ⟨_, _, rfl, rfl, sqL_ty h.seq, kit_ty (kit_lst t)⟩
  | xts h hz => cases e; exact ⟨_, _, rfl, rfl, sqT_ty h.tup, kit_ty (kit_tup t)⟩
  | @ref i a hi =>
    obtain ⟨c, hc, q⟩ := R.at_ hi
    simp only [isiM, hc] at e
    cases q with
    | lst h r => cases e; exact ⟨_, _, rfl, rfl, .base (.lst h), kit_ty (kit_lst t)⟩
    | dct _ _ => cases e
    | obj _ _ _ => cases e
theorem s_isi {t : Ty} {p2 : Pos} (hg : Gl X "isinstance") (hm : X.mg "isinstance" = none) {y : Str} (hy : y = tyS t) (hg2 : Gl X y) (hm2 : X.mg y = none) (ha : PE X a (tE X.K Φ pa)) (sa : ∀ r, starEach (a :: r) X.env = (false, eval a X.env) :: starEach r X.env) :
    PE X (.Call (.Name "isinstance" p) [a, .Name y p2] [] pos) (tE X.K Φ (.blt (.isi t) (.cons pa .nil))) := by
  have hty : PE X (.Name y p2) (tC (.ty (tyS t))) := by
    subst hy
    cases t with
    | int => exact pe_bltn (u := .type "int") hg2 hm2 (by decide +kernel) rfl
    | bool => exact pe_bltn (u := .type "bool") hg2 hm2 (by decide +kernel) rfl
    | str => exact pe_bltn (u := .type "str") hg2 hm2 (by decide +kernel) rfl
    | tuple => exact pe_bltn (u := .type "tuple") hg2 hm2 (by decide +kernel) rfl
    | list => exact pe_bltn (u := .type "list") hg2 hm2 (by decide +kernel) rfl
  refine (pe_callB (id := "isinstance") call_isi hg hm (by decide +kernel) (pa_cons ha (pa_cons hty pa_nil) (sa _)) (by decide) (by decide) (sa _) (by rfl)).qof fun σ H Q ⟨env, ρ, st, m, st', hE, R, e, k⟩ => ?_
  obtain ⟨ms, st2, e2, e⟩ := Out.bind_eq e
  obtain ⟨z, st1, e1, e2⟩ := Out.bind_eq e2
  cases e2
  refine tE_one hE R e1 fun v ρ1 f H1 A _ r => ?_
  obtain ⟨s, b, rfl, rfl, h1, h2⟩ := isi_read A.rl r.rep (show isiM t z _ = .val m st' from e)
  exact ⟨v, _, s, .type (tyS t), b, rfl, .ty _, h1, h2, k.bl A⟩
/-! append, pop -/
theorem Aft.mem {K : PySem.W.Frag} {ρ al ρ' : List Addr} {H H' : Hp} {st' : Store} (A : Aft K ρ al H st' ρ' H') {a : Addr} (h : a ∈ ρ') : a ∈ ρ ∨ H a = Option.none ∨ a ∈ al := by
  obtain ⟨n, e, q⟩ := A.pre
  rw [e] at h
  rcases List.mem_append.mp h with h | h
  · exact .inl h
  · exact .inr (q a h)
theorem append_read {K : PySem.W.Frag} {ρ ρ2 fp : List Addr} {H H2 : Hp} {v : V} {y m : MV} {st st' : Store} {Q : VK} {c : Nat} {l : Addr} (A : Aft K ρ [] H st ρ2 H2) (hl : ρ2[c]? = some l) (R : Res K [] H ρ2 H2 v y fp) (e : mthM .append (.ref c) [y] st = .val m st') (k : Kont K ρ H m st' Q) :
    rAppend (.ref l) [v] H2 Q := by
  obtain ⟨ρ3, A3, B, r3⟩ := R.stored A
  have hl3 := B.ix c l hl
  obtain ⟨cc, hc, q⟩ := A3.rl.at_ hl3
  have e : (match (alloc y st).2[c]? with
    | some (.lst xs) => chk (decide (xs.length < big)) (Out.val MV.non ((alloc y st).2.set c (.lst (xs ++ [(alloc y st).1]))))
    | _ => .bad) = .val m st' := e
  rw [hc] at e
  cases q with
  | dct _ _ => cases e
  | obj _ _ _ => cases e
  | @lst vs ms h r =>
    obtain ⟨hb, e⟩ := chk_eq (show chk (decide (ms.length < big)) (Out.val MV.non ((alloc y st).2.set c (.lst (ms ++ [(alloc y st).1])))) = .val m st' from e)
    cases e
    have hlen := r.length
    refine ⟨l, vs, v, rfl, rfl, h, ?_, ?_⟩
    · have := big_le
      have := of_decide_eq_true hb
      omega
    · refine k.plain (A3.write hl3 True.intro (fun H4 hk h4 => .lst h4 ?_) (A3.mem (List.mem_of_getElem? hl3))) .non
      have ra : Reps K ρ3 H2 (vs ++ [v]) (ms ++ [(alloc y st).1]) [] := Reps.app (f := []) (g := []) r (.cons (f := []) (fs := []) r3 .nil)
      exact ra.move hk (fun _ _ z => z) fun _ z => nomatch z
theorem s_append {apos : Pos} (ho : PE X a (tE X.K Φ pa)) (hb : PE X b (tE X.K Φ pb)) (hbase : attributeBase a "append" X.env (eval a X.env) = eval a X.env) (hline : (apos.endLine == pos.line) = true) (sb : ∀ r, starEach (b :: r) X.env = (false, eval b X.env) :: starEach r X.env) :
    PE X (.Call (.Attribute a "append" apos) [b] [] pos) (tE X.K Φ (.mth .append pa (.cons pb .nil))) := by
  have h2 : PA X [b] (tEs X.K Φ (.cons pb .nil)) := s_cons hb s_nil (sb _)
  refine (pe_bm PySem.F.plainAttrs_list PySem.F.slot_list_append PySem.F.type_list_append (r := rAppend) mt_append ho h2 hbase (by rw [sb]; rfl) hline (sb _) (by rfl)).qof fun σ H Q ⟨env, ρ, st, m, st', hE, R, e, k⟩ => ?_
  obtain ⟨x, st1, e1, e⟩ := Out.bind_eq e
  obtain ⟨hl, e⟩ := chk_eq e
  obtain ⟨ms, st2, e2, e⟩ := Out.bind_eq e
  refine tE_one hE R e1 fun v ρ1 f H1 A hE1 r => ⟨?_, env, ρ1, st1, ms, st2, hE1, A.rl, e2, fun vs ρ2 g H2 B s => ?_⟩
  · obtain ⟨xs, hx⟩ := Option.isSome_iff_exists.mp hl
    obtain ⟨l, ws, _, rfl, hw, _, _⟩ := lstOf_rep A.rl r.rep hx
    exact .inl ⟨rfl, ws, SqL.of hw⟩
  · obtain ⟨y, st3, e3, e4⟩ := Out.bind_eq e2
    cases e4
    have ex : ∃ c, x = .ref c := by cases x <;> first | exact ⟨_, rfl⟩ | cases e
    obtain ⟨c, rfl⟩ := ex
    obtain ⟨l, rfl, hc⟩ := ref_at r.rep
    obtain ⟨w, rfl, rw'⟩ := s.rep.one
    have s1 : Res X.K [] H1 ρ2 H2 w y g := ⟨rw', s.nd, s.new⟩
    exact append_read (A.trans B noBl) (B.ix c l hc) (Res.from A s1) e k
theorem Reps.last {K : PySem.W.Frag} {ρ : List Addr} {H : Hp} {vs : List V} {ms : List MV} {y : MV} (r : Reps K ρ H vs ms []) (h : ms.getLast? = some y) : ∃ v, vs[vs.length - 1]? = some v ∧ Rep K ρ H v y [] ∧ Reps K ρ H vs.dropLast ms.dropLast [] := by
  rw [List.getLast?_eq_getElem?] at h
  obtain ⟨v, f, h1, h2, h3⟩ := r.get h
  have ef := List.sublist_nil.mp h3
  subst ef
  obtain ⟨g, h4, h5⟩ := r.take (ms.length - 1)
  have eg := List.sublist_nil.mp h5
  subst eg
  refine ⟨v, by rw [r.length]; exact h1, h2, ?_⟩
  rw [List.dropLast_eq_take, List.dropLast_eq_take, r.length]
  exact h4
theorem s_pop {apos : Pos} (ho : PE X a (tE X.K Φ pa)) (hbase : attributeBase a "pop" X.env (eval a X.env) = eval a X.env) (hline : (apos.endLine == pos.line) = true) : PE X (.Call (.Attribute a "pop" apos) [] [] pos) (tE X.K Φ (.mth .pop pa .nil)) := by
  refine (pe_bm0 PySem.F.plainAttrs_list PySem.F.slot_list_pop PySem.F.type_list_pop (r := rPop) mt_pop ho hbase hline).qof fun σ H Q ⟨env, ρ, st, m, st', hE, R, e, k⟩ => ?_
  obtain ⟨x, st1, e1, e⟩ := Out.bind_eq e
  obtain ⟨hl, e⟩ := chk_eq e
  have e : mthM .pop x [] st1 = .val m st' := e
  refine tE_one hE R e1 fun v ρ1 f H1 A hE1 r => ?_
  have ex : ∃ c, x = .ref c := by cases x <;> first | exact ⟨_, rfl⟩ | cases e
  obtain ⟨c, rfl⟩ := ex
  obtain ⟨l, rfl, hc⟩ := ref_at r.rep
  obtain ⟨cc, hcc, q⟩ := A.rl.at_ hc
  have e : (match st1[c]? with
    | some (.lst xs) => (match xs.getLast? with
      | some y => Out.val y (st1.set c (.lst xs.dropLast))
      | none => .bad)
    | _ => .bad) = .val m st' := e
  rw [hcc] at e
  cases q with
  | dct _ _ => cases e
  | obj _ _ _ => cases e
  | @lst vs ms h rs =>
    have e : (match ms.getLast? with
      | some y => Out.val y (st1.set c (.lst ms.dropLast))
      | none => .bad) = .val m st' := e
    cases hg : ms.getLast? with
    | none => rw [hg] at e; cases e
    | some y =>
      rw [hg] at e
      cases e
      obtain ⟨w, h1, h2, h3⟩ := rs.last hg
      refine ⟨.inl ⟨rfl, vs, SqL.of h⟩, l, vs, w, rfl, rfl, h, h1, ?_⟩
      have W := A.write (o := .lst vs.dropLast) (c := .lst ms.dropLast) hc True.intro (fun H4 hk h4 => .lst h4 (h3.move hk (fun _ _ z => z) fun _ z => nomatch z)) (A.mem (List.mem_of_getElem? hc))
      refine k.plain W (h2.move (⟨fun b zs q => ?_, fun b o u q => ?_⟩) (fun _ _ z => z) fun _ z => nomatch z)
      · have ne : b ≠ l := fun z => A.rl.wr.notTup q (by rw [z]; exact List.mem_of_getElem? hc)
        rw [upd_ne ne]
        exact q
      · have ne : b ≠ l := fun z => A.rl.wr.notFrz q (by rw [z]; exact List.mem_of_getElem? hc)
        rw [upd_ne ne]
        exact q
/-! pop(i), index -/
theorem Reps.erase {K : PySem.W.Frag} {ρ : List Addr} {H : Hp} : ∀ {vs : List V} {ms : List MV} {f : List Addr}, Reps K ρ H vs ms f → f = [] → ∀ n, Reps K ρ H (vs.eraseIdx n) (ms.eraseIdx n) []
  | _, _, _, .nil, _, n => by simpa using Reps.nil
  | _, _, _, .cons h r, e, 0 => by
    obtain ⟨_, e2⟩ := List.append_eq_nil_iff.mp e
    subst e2
    simpa using r
  | _, _, _, .cons h r, e, n + 1 => by
    obtain ⟨e1, e2⟩ := List.append_eq_nil_iff.mp e
    subst e1
    simpa using Reps.cons (f := []) (fs := []) h (Reps.erase r e2 n)
theorem s_popAt {apos : Pos} (ho : PE X a (tE X.K Φ pa)) (hb : PE X b (tE X.K Φ pb)) (hbase : attributeBase a "pop" X.env (eval a X.env) = eval a X.env) (hline : (apos.endLine == pos.line) = true) (sb : ∀ r, starEach (b :: r) X.env = (false, eval b X.env) :: starEach r X.env) :
    PE X (.Call (.Attribute a "pop" apos) [b] [] pos) (tE X.K Φ (.mth .pop pa (.cons pb .nil))) := by
  have h2 : PA X [b] (tEs X.K Φ (.cons pb .nil)) := s_cons hb s_nil (sb _)
  refine (pe_bm PySem.F.plainAttrs_list PySem.F.slot_list_pop PySem.F.type_list_pop (r := rPopAt) mt_popAt ho h2 hbase (by rw [sb]; rfl) hline (sb _) (by rfl)).qof fun σ H Q ⟨env, ρ, st, m, st', hE, R, e, k⟩ => ?_
  obtain ⟨x, st1, e1, e⟩ := Out.bind_eq e
  obtain ⟨hl, e⟩ := chk_eq e
  obtain ⟨ms, st2, e2, e⟩ := Out.bind_eq e
  refine tE_one hE R e1 fun v ρ1 f H1 A hE1 r => ⟨?_, env, ρ1, st1, ms, st2, hE1, A.rl, e2, fun vs ρ2 g H2 B s => ?_⟩
  · obtain ⟨xs, hx⟩ := Option.isSome_iff_exists.mp hl
    obtain ⟨l, ws, _, rfl, hw, _, _⟩ := lstOf_rep A.rl r.rep hx
    exact .inl ⟨rfl, ws, SqL.of hw⟩
  · obtain ⟨y, st3, e3, e4⟩ := Out.bind_eq e2
    cases e4
    have ex : (∃ c, x = .ref c) ∧ ∃ i, y = .int i := by cases x <;> cases y <;> first | exact ⟨⟨_, rfl⟩, _, rfl⟩ | cases e
    obtain ⟨⟨c, rfl⟩, i, rfl⟩ := ex
    obtain ⟨l, rfl, hc⟩ := ref_at r.rep
    obtain ⟨w, rfl, rw'⟩ := s.rep.one
    obtain ⟨rfl, _⟩ := rw'.int_inv
    have hc2 := B.ix c l hc
    have AB := A.trans B noBl
    obtain ⟨cc, hcc, q⟩ := AB.rl.at_ hc2
    have e : (match st2[c]? with
      | some (.lst xs) => chk (decide (0 ≤ i) && decide (i < 1000000)) (match xs[i.toNat]? with
        | some y => Out.val y (st2.set c (.lst (xs.eraseIdx i.toNat)))
        | none => .bad)
      | _ => .bad) = .val m st' := e
    rw [hcc] at e
    cases q with
    | dct _ _ => cases e
    | obj _ _ _ => cases e
    | @lst vs ms h rs =>
      obtain ⟨hb, e⟩ := chk_eq (show chk (decide (0 ≤ i) && decide (i < 1000000)) (match ms[i.toNat]? with
        | some y => Out.val y (st2.set c (.lst (ms.eraseIdx i.toNat)))
        | none => .bad) = .val m st' from e)
      simp only [Bool.and_eq_true, decide_eq_true_eq] at hb
      cases hg : ms[i.toNat]? with
      | none => rw [hg] at e; cases e
      | some y =>
        rw [hg] at e
        cases e
        obtain ⟨u, f2, hu, ru, su⟩ := rs.get hg
        have ef := List.sublist_nil.mp su
        subst ef
        have hlt := (List.getElem?_eq_some_iff.mp hu).1
        refine ⟨l, vs, i, i.toNat, u, rfl, rfl, h, by omega, by omega, ?_, hu, ?_⟩
        · obtain ⟨n, rfl⟩ := Int.eq_ofNat_of_zero_le hb.1
          unfold seqIndex?
          have h1 : ¬ ((n : Int) < 0) := by omega
          have h2 : (n : Int) < vs.length := by
            have : ((n : Int).toNat) < vs.length := hlt
            omega
          simp [h1, h2]
        · have W := AB.write (o := .lst (vs.eraseIdx i.toNat)) (c := .lst (ms.eraseIdx i.toNat)) hc2 True.intro (fun H4 hk h4 => .lst h4 ((Reps.erase rs rfl i.toNat).move hk (fun _ _ z => z) fun _ z => nomatch z)) (AB.mem (List.mem_of_getElem? hc2))
          refine k.plain W (ru.move (⟨fun b zs q => ?_, fun b o u q => ?_⟩) (fun _ _ z => z) fun _ z => nomatch z)
          · have ne : b ≠ l := fun z => AB.rl.wr.notTup q (by rw [z]; exact List.mem_of_getElem? hc2)
            rw [upd_ne ne]
            exact q
          · have ne : b ≠ l := fun z => AB.rl.wr.notFrz q (by rw [z]; exact List.mem_of_getElem? hc2)
            rw [upd_ne ne]
            exact q
theorem eqV_int {i j : Int} : L2.eqV (V.int i) (V.int j) = (i == j) := by simp [L2.eqV]
theorem s_index {apos : Pos} (ho : PE X a (tE X.K Φ pa)) (hb : PE X b (tE X.K Φ pb)) (hbase : attributeBase a "index" X.env (eval a X.env) = eval a X.env) (hline : (apos.endLine == pos.line) = true) (sb : ∀ r, starEach (b :: r) X.env = (false, eval b X.env) :: starEach r X.env) :
    PE X (.Call (.Attribute a "index" apos) [b] [] pos) (tE X.K Φ (.mth .index pa (.cons pb .nil))) := by
  have h2 : PA X [b] (tEs X.K Φ (.cons pb .nil)) := s_cons hb s_nil (sb _)
  refine (pe_bm PySem.F.plainAttrs_list PySem.F.slot_list_index PySem.F.type_list_index (r := rIndex X.K) mt_index ho h2 hbase (by rw [sb]; rfl) hline (sb _) (by rfl)).qof fun σ H Q ⟨env, ρ, st, m, st', hE, R, e, k⟩ => ?_
  obtain ⟨x, st1, e1, e⟩ := Out.bind_eq e
  obtain ⟨hl, e⟩ := chk_eq e
  obtain ⟨ms, st2, e2, e⟩ := Out.bind_eq e
  refine tE_one hE R e1 fun v ρ1 f H1 A hE1 r => ⟨?_, env, ρ1, st1, ms, st2, hE1, A.rl, e2, fun vs ρ2 g H2 B s => ?_⟩
  · obtain ⟨xs, hx⟩ := Option.isSome_iff_exists.mp hl
    obtain ⟨l, ws, _, rfl, hw, _, _⟩ := lstOf_rep A.rl r.rep hx
    exact .inl ⟨rfl, ws, SqL.of hw⟩
  · obtain ⟨y, st3, e3, e4⟩ := Out.bind_eq e2
    cases e4
    have ex : ∃ i, y = .int i := by cases y <;> first | exact ⟨_, rfl⟩ | cases x <;> cases e
    obtain ⟨i, rfl⟩ := ex
    obtain ⟨w, rfl, rw'⟩ := s.rep.one
    obtain ⟨rfl, _⟩ := rw'.int_inv
    have e : (match lstOf st2 x with
      | some xs => (match intsOf xs with
        | some ns => (match ns.findIdx? (· == i) with
          | some j => Out.val (MV.int (j : Nat)) st2
          | none => .bad)
        | none => .bad)
      | none => .bad) = .val m st' := by cases x <;> exact e
    cases h : lstOf st2 x with
    | none => rw [h] at e; cases e
    | some xs =>
      rw [h] at e
      have e : (match intsOf xs with
        | some ns => (match ns.findIdx? (· == i) with
          | some j => Out.val (MV.int (j : Nat)) st2
          | none => .bad)
        | none => .bad) = Out.val m st' := e
      cases q : intsOf xs with
      | none => rw [q] at e; cases e
      | some ns =>
        rw [q] at e
        have e : (match ns.findIdx? (· == i) with
          | some j => Out.val (MV.int (j : Nat)) st2
          | none => .bad) = Out.val m st' := e
        cases hf : ns.findIdx? (· == i) with
        | none => rw [hf] at e; cases e
        | some j =>
          rw [hf] at e
          cases e
          have AB := A.trans B noBl
          have r2 := Res.keep (bl := []) r A B
          obtain ⟨a, ws, f', rfl, ha, rr, _⟩ := lstOf_rep AB.rl r2.rep h
          rw [intsOf_map q] at rr
          have ew := rr.ints
          subst ew
          obtain ⟨hj, p1, p2⟩ := List.findIdx?_eq_some_iff_getElem.mp hf
          refine ⟨a, ns.map V.int, .int i, j, .int ns[j], rfl, rfl, SqL.of ha, rfl, ?_, ?_, ?_, fun m z hm hz => ?_, k.plain AB (.int _)⟩
          · rw [List.all_map, List.all_eq_true]
            intro _ _
            rfl
          · rw [List.getElem?_map, List.getElem?_eq_getElem hj]
            rfl
          · rw [eqV_int]
            exact p1
          · rw [List.getElem?_map] at hz
            obtain ⟨n, hn, rfl⟩ := Option.map_eq_some_iff.mp hz
            obtain ⟨hm2, rfl⟩ := List.getElem?_eq_some_iff.mp hn
            rw [eqV_int]
            simpa using p2 m hm
/-! {"a": x, "b": y, "c": z}[i] -/
section
variable {K : PySem.W.Frag} {ρ ρ' al fp f g : List Addr} {H H' : Hp} {vs : List V} {ms : List MV} {st st' : Store} {σ : L2.St} {env : Env} {D : Addr} {o o2 : HO}
theorem keeps_one (hD : H D = some o) (h1 : ∀ xs, o ≠ .tup xs) (h2 : ∀ b u, o ≠ .frz b u) : Keeps H (L2.upd H D o2) :=
  ⟨fun b zs q => by
    have ne : b ≠ D := fun z => by rw [z, hD] at q; exact h1 _ (Option.some.inj q)
    rw [upd_ne ne]; exact q, fun b o u q => by
    have ne : b ≠ D := fun z => by rw [z, hD] at q; exact h2 _ _ (Option.some.inj q)
    rw [upd_ne ne]; exact q⟩
theorem Aft.touchO (A : Aft K ρ al H st' ρ' H') (h0 : H D = Option.none) (hD : H' D = some o) (h1 : ∀ xs, o ≠ .tup xs) (h2 : ∀ b u, o ≠ .frz b u) (hr : D ∉ ρ') : Aft K ρ al H st' ρ' (L2.upd H' D o2) := by
  have hk : Keeps H' (L2.upd H' D o2) := keeps_one hD h1 h2
  refine ⟨A.pre, fun b o h h1 h2 => ?_, A.rl.len, A.rl.nd, fun i b c e1 e2 => (A.rl.cell i b c e1 e2).move hk (fun _ _ q => q) fun o q => ?_⟩
  · have ne : b ≠ D := fun z => by rw [z, h0] at h; cases h
    rw [upd_ne ne]
    exact A.fr b o h h1 h2
  · have ne : b ≠ D := fun z => hr (by rw [← z]; exact List.mem_of_getElem? e1)
    rw [upd_ne ne]
    exact q
theorem EnvR.touchO (hD : H D = some o) (h1 : ∀ xs, o ≠ .tup xs) (h2 : ∀ b u, o ≠ .frz b u) (h : EnvR K ρ H σ env) : EnvR K ρ (L2.upd H D o2) σ env :=
  ⟨h.1, fun i m e => by
    obtain ⟨v, e1, r⟩ := h.2 i m e
    exact ⟨v, e1, r.move (keeps_one hD h1 h2) (fun _ _ q => q) fun _ z => nomatch z⟩⟩
end
theorem pick_val {k1 k2 k3 : Str} {v1 v2 v3 : V} {m1 m2 m3 m : MV} {z : Str} (hn : [k1, k2, k3].Nodup) (h : pickO [k1, k2, k3] [m1, m2, m3] z = some m) :
    ∃ v, valV (mergeK [] [(Sum.inr k1, v1), (Sum.inr k2, v2), (Sum.inr k3, v3)]) (Sum.inr z : Key) = some v ∧ ((v = v1 ∧ m = m1) ∨ (v = v2 ∧ m = m2) ∨ (v = v3 ∧ m = m3)) := by
  simp only [List.nodup_cons, List.mem_cons, List.not_mem_nil, or_false, not_or, List.nodup_nil, and_true, not_false_eq_true] at hn
  obtain ⟨⟨n12, n13⟩, n23⟩ := hn
  have em : mergeK [] [(Sum.inr k1, v1), (Sum.inr k2, v2), (Sum.inr k3, v3)] = [((Sum.inr k1 : Key), v1), (Sum.inr k2, v2), (Sum.inr k3, v3)] := by
    simp [mergeK, putK, n12, n13, n23]
  rw [em]
  simp only [pickO] at h
  by_cases e1 : k1 = z
  · rw [if_pos e1] at h
    cases h
    exact ⟨v1, by simp [valV, e1], .inl ⟨rfl, rfl⟩⟩
  · rw [if_neg e1] at h
    by_cases e2 : k2 = z
    · rw [if_pos e2] at h
      cases h
      exact ⟨v2, by simp [valV, e1, e2], .inr (.inl ⟨rfl, rfl⟩)⟩
    · rw [if_neg e2] at h
      by_cases e3 : k3 = z
      · rw [if_pos e3] at h
        cases h
        exact ⟨v3, by simp [valV, e1, e2, e3], .inr (.inr ⟨rfl, rfl⟩)⟩
      · rw [if_neg e3] at h
        cases h
theorem s_pick3 (hu : X.A.units + 65 < cLine) {k1 k2 k3 : Str} {j1 j2 j3 : Nat} {q1 q2 q3 dp : Pos} {v1 v2 v3 ie : Expr} {p1 p2 p3 pi : E} (h1 : PE X v1 (tE X.K Φ p1)) (h2 : PE X v2 (tE X.K Φ p2)) (h3 : PE X v3 (tE X.K Φ p3)) (hi : PE X ie (tE X.K Φ pi)) (hs : NoSl ie) (hn : [k1, k2, k3].Nodup) :
    PE X (.Subscript (.Dict [some (.Constant (.str k1) j1 q1), some (.Constant (.str k2) j2 q2), some (.Constant (.str k3) j3 q3)] [v1, v2, v3] dp) ie pos) (tE X.K Φ (.pick [k1, k2, k3] (.cons p1 (.cons p2 (.cons p3 .nil))) pi)) := by
  refine (pe_dget (by omega) (pe_disp (pps_cons pe_str h1 (pps_cons pe_str h2 (pps_cons pe_str h3 pps_nil))) (by rfl) (by rfl) (by simp) (by simp)) hi hs).qof fun σ H Q ⟨env, ρ, st, m, st', hE, R, e, k⟩ => ?_
  obtain ⟨ms, st3, e0, e⟩ := Out.bind_eq e
  obtain ⟨hlst, e⟩ := chk_eq e
  obtain ⟨xz, st4, e4, e⟩ := Out.bind_eq e
  obtain ⟨m1, s1, e1, e0⟩ := Out.bind_eq e0
  obtain ⟨r1, s1', e0', e0⟩ := Out.bind_eq e0
  cases e0
  obtain ⟨m2, s2, e2, e0'⟩ := Out.bind_eq e0'
  obtain ⟨r2, s2', e0, e0''⟩ := Out.bind_eq e0'
  cases e0''
  obtain ⟨m3, s3, e3, e0⟩ := Out.bind_eq e0
  obtain ⟨r3, s3', e0', e0⟩ := Out.bind_eq e0
  cases e0
  cases e0'
  intro p hp
  have A0 : Aft X.K ρ [] H st ρ (upd H p (.dK [])) := (Aft.refl R).upd hp
  have hE0 := hE.after A0 R.wr noAl
  have hp0 : p ∉ ρ := (Aft.refl (al := []) R).notCell hp
  refine tE_one hE0 A0.rl e1 fun w1 ρ1 f1 H1 A1 hE1 r1 => tE_one hE1 A1.rl e2 fun w2 ρ2 f2 H2 A2 hE2 r2 => tE_one hE2 A2.rl e3 fun w3 ρ3 f3 H3 A3 hE3 r3 => ?_
  have A12 := A1.trans A2 noBl
  have A123 := A12.trans A3 noBl
  have R123 := Ress.cons A1 (A2.trans A3 noBl) r1 (Res.two A2 A3 r2 r3)
  have hpD : H3 p = some (.dK []) := A123.fr p _ upd_same hp0 (fun z => nomatch z)
  have hp3 : p ∉ ρ3 := A123.notNew upd_same hp0 (fun z => nomatch z)
  refine ⟨hpD, [(Sum.inr k1, w1), (Sum.inr k2, w2), (Sum.inr k3, w3)], rfl, by simp, ?_⟩
  have nt : ∀ xs, HO.dK [] ≠ .tup xs := fun _ z => nomatch z
  have nf : ∀ b u, HO.dK [] ≠ .frz b u := fun _ _ z => nomatch z
  have B : Aft X.K ρ [] H _ ρ3 (upd H3 p (.dK (mergeK [] [(Sum.inr k1, w1), (Sum.inr k2, w2), (Sum.inr k3, w3)]))) := (A0.trans A123 noBl).touchO hp hpD nt nf hp3
  have hE4 := hE3.touchO (o2 := .dK (mergeK [] [(Sum.inr k1, w1), (Sum.inr k2, w2), (Sum.inr k3, w3)])) hpD nt nf
  have rr := R123.rep
  have efp := noLsts_nil rr hlst
  rw [efp] at rr
  have rr4 := rr.move (keeps_one (o2 := .dK (mergeK [] [(Sum.inr k1, w1), (Sum.inr k2, w2), (Sum.inr k3, w3)])) hpD nt nf) (fun _ _ q => q) fun _ z => nomatch z
  refine tE_one hE4 B.rl e4 fun v ρ4 f4 H4 A4 hE5 r4 => ?_
  have ez : ∃ z, xz = .str z := by cases xz <;> first | exact ⟨_, rfl⟩ | cases e
  obtain ⟨z, rfl⟩ := ez
  obtain ⟨hpk, rfl⟩ := ofO_eq (show ofO (pickO [k1, k2, k3] [m1, m2, m3] z) st4 = .val m st' from e)
  obtain ⟨u, hv, hcase⟩ := pick_val (v1 := w1) (v2 := w2) (v3 := w3) hn hpk
  have hp4 : H4 p = some (.dK (mergeK [] [(Sum.inr k1, w1), (Sum.inr k2, w2), (Sum.inr k3, w3)])) := A4.fr p _ upd_same hp3 (fun z => nomatch z)
  obtain ⟨rfl, _⟩ := r4.rep.str_inv
  refine ⟨p, u, rfl, by rw [← hv]; exact DGet.k (k := Sum.inr z) hp4, ?_⟩
  have rr5 := rr4.after A4 B.rl.wr noAl (fun _ z => nomatch z)
  have B5 := B.trans A4 noBl
  have get : ∀ (i : Nat) (w : V) (mm : MV), [w1, w2, w3][i]? = some w → [m1, m2, m3][i]? = some mm → Rep X.K ρ4 H4 w mm [] := fun i w mm q1 q2 => by
    obtain ⟨w', f', q3, q4, q5⟩ := rr5.get q2
    rw [q1] at q3
    cases q3
    have := List.sublist_nil.mp q5
    subst this
    exact q4
  rcases hcase with ⟨rfl, rfl⟩ | ⟨rfl, rfl⟩ | ⟨rfl, rfl⟩
  · exact k.plain B5 (get 0 _ _ rfl rfl)
  · exact k.plain B5 (get 1 _ _ rfl rfl)
  · exact k.plain B5 (get 2 _ _ rfl rfl)
/-- a comparison with one list, some times -/
theorem dp_rep {K : PySem.W.Frag} {H : Hp} {v : V} {d : PyData} (h : Dp K H v d) : ∀ n : Nat, DpAll K H (List.replicate n [v]).flatten (List.replicate n d)
  | 0 => .nil
  | n + 1 => by
    rw [List.replicate_succ, List.replicate_succ, List.flatten_cons]
    exact .cons h (dp_rep h n)
theorem lay_rep {d : PyData} (h : d.canLay0 = true) : ∀ n : Nat, PyData.canLayAll0 (List.replicate n d) = true
  | 0 => by simp [PyData.canLayAll0]
  | n + 1 => by
    rw [List.replicate_succ]
    simp only [PyData.canLayAll0, h, lay_rep h n, Bool.and_self]
theorem dep_rep {d : PyData} {k : Nat} (h : d.depth ≤ k) : ∀ n : Nat, PyData.depthAll (List.replicate n d) ≤ k
  | 0 => by simp [PyData.depthAll]
  | n + 1 => by
    rw [List.replicate_succ]
    simp only [PyData.depthAll]
    have := dep_rep h n
    omega
theorem nerep_read {K : PySem.W.Frag} {ρ : List Addr} {H : Hp} {st st' : Store} {σ : L2.St} {env : Env} {m : MV} {Q : VK} {kk : Int} {pa pb : E} (h0 : 0 ≤ kk) (h1 : kk ≤ 1000) (hE : EnvR K ρ H σ env) (R : Rl K ρ st H) (e : ev Φ (.nerep pa pb kk) env st = .val m st') (k : Kont K ρ H m st' Q) :
    tOp (rCmp K .ne) (tE K Φ pa) (tOp (rMul4 K) (tLst (tCons (tE K Φ pb) tNil)) (tC (.int kk))) σ H Q := by
  obtain ⟨x, st1, e1, e⟩ := Out.bind_eq e
  obtain ⟨y, st2, e2, e⟩ := Out.bind_eq e
  obtain ⟨_, e⟩ := chk_eq e
  refine tE_one hE R e1 fun v ρ1 f1 H1 A1 hE1 r1 => ?_
  refine tE_one hE1 A1.rl e2 fun w ρ2 f2 H2 A2 hE2 r2 => ?_
  have A12 := A1.trans A2 noBl
  have R12 := Res.two A1 A2 r1 r2
  refine ⟨by rw [sizeLine_eq]; simp, fun p hp => ?_⟩
  refine .inr (.inr (.inr ⟨p, kk, [w], rfl, rfl, upd_same, by omega, by omega, ?_, fun q hq => ?_⟩))
  · rw [sizeLine_eq, List.length_singleton]
    omega
  have B := (A12.upd (o := .lst [w]) hp).upd (o := .lst (List.replicate kk.toNat [w]).flatten) hq
  have rr := (R12.rep.upd (o := .lst [w]) hp).upd (o := .lst (List.replicate kk.toNat [w]).flatten) hq
  obtain ⟨v1, w1, g1, g2, q1, q2, t1, t2⟩ := rr.two
  cases q1
  cases d1 : toD st2 9 x with
  | none => rw [d1] at e; cases e
  | some d =>
    cases d2 : toD st2 8 y with
    | none => rw [d1, d2] at e; cases e
    | some f =>
      rw [d1, d2] at e
      have e : Out.val (.bl (!PyData.eqv d (.list (List.replicate kk.toNat f)))) st2 = Out.val m st' := e
      cases e
      obtain ⟨a1, a2, a3⟩ := toD_rep B.rl 9 _ _ _ _ t1 d1
      obtain ⟨b1, b2, b3⟩ := toD_rep B.rl 8 _ _ _ _ t2 d2
      refine ⟨d, .list (List.replicate kk.toNat f), a1, .lst (.inl (.inl upd_same)) (dp_rep b1 _), shaped_of a2 a3 (by decide), shaped_of (n := 10) (by simpa [PyData.canLay0] using lay_rep b2 kk.toNat) (by
        simp only [PyData.depth]
        have := dep_rep b3 kk.toNat
        omega) (by decide), ?_⟩
      exact k.bl B
theorem s_nerep (hu : X.A.units + 65 < cLine) {a : Expr} {es : List Expr} {p1 p2 p3 p4 pos : Pos} {kk : Int} {j : Nat} {pa pb : E} (ha : PE X a (tE X.K Φ pa)) (hb : PE X (.List es p1) (tE X.K Φ pb)) (h0 : 0 ≤ kk) (h1 : kk ≤ 1000) :
    PE X (.Compare a [.NotEq] [.BinOp (.List [.List es p1] p2) .Mult (.Constant (.int kk) j p3) p4] pos) (tE X.K Φ (.nerep pa pb kk)) :=
  (pe_cmpR (op_cmp hu (op := .NotEq) (o := .ne) rfl) ha (pe_op op_mul4 (pe_lst (pa_cons hb pa_nil)) pe_int) (by rfl)).qof fun σ H Q ⟨env, ρ, st, m, st', hE, R, e, k⟩ => nerep_read h0 h1 hE R e k
theorem t_nerep (hu : X.A.units + 65 < cLine) {a : Expr} {es : List Expr} {p1 p2 p3 p4 pos : Pos} {kk : Int} {j : Nat} {pa pb : E} (ha : PE X a (tE X.K Φ pa)) (hb : PE X (.List es p1) (tE X.K Φ pb)) (h0 : 0 ≤ kk) (h1 : kk ≤ 1000) :
    PT X (.Compare a [.NotEq] [.BinOp (.List [.List es p1] p2) .Mult (.Constant (.int kk) j p3) p4] pos) (tT X.K Φ (.nerep pa pb kk)) :=
  (pt_cmpR (op_cmp hu (op := .NotEq) (o := .ne) rfl) ha (pe_op op_mul4 (pe_lst (pa_cons hb pa_nil)) pe_int) (by rfl)).qof fun σ H Q ⟨env, ρ, st, c, st', hE, R, e, k⟩ => nerep_read h0 h1 hE R e fun z ρ3 f3 H3 B rz => ⟨c, rz.rep.bl_inv.1, k ρ3 H3 B⟩
end
end QR

set_option Elab.async false
set_option linter.all false
set_option maxRecDepth 100000
set_option maxHeartbeats 1000000
/-! QObj: dicts made, instances: their attributes, methods; how often a text stands in a tuple. -/
namespace QR
open PySem PySem.Spec PyProof.Rows L2
section
variable {X : Cx} {Φ : Phi} {a b c e : Expr} {es : List Expr} {pa pb pc : E} {ps : Es} {pos p : Pos} {i k : Nat} {x : Str}
theorem attrBase1 {o : Expr} {attr : Str} {env : PySem.Env} (h : dotOk o = true) : attributeBase o attr env (eval o env) = eval o env := by
  cases o <;> first | rfl | (cases h; done) | skip
  rename_i f es kw p
  cases es with
  | nil => cases h
  | cons e es => cases f <;> rfl
theorem keyOf_inv {m : MV} {k : List Int} (h : keyOf m = some k) : m = .tup (k.map .int) := by
  cases m <;> first | (cases h; done) | skip
  rename_i xs
  rw [intsOf_map (show intsOf xs = some k from h)]
theorem Rep.key {K : PySem.W.Frag} {ρ f : List Addr} {H : Hp} {v : V} {k : List Int} (r : Rep K ρ H v (.tup (k.map .int)) f) : ∃ b, v = .ref b ∧ SqT K H b (k.map V.int) ∧ f = [] := by
  cases r with
  | tup h r =>
    have e := r.ints
    subst e
    refine ⟨_, rfl, h, ?_⟩
    exact noLsts_nil r (by
      clear r h
      induction k with
      | nil => rfl
      | cons i k ih =>
        show (noLst (.int i) && noLsts (k.map MV.int)) = true
        rw [ih]
        rfl)
/-- {k: True} -/
theorem s_dct (hu : X.A.units + 65 < cLine) {j : Nat} {q : Pos} (ha : PE X a (tE X.K Φ pa)) : PE X (.Dict [some a] [.Constant (.bool true) j q] pos) (tE X.K Φ (.dct pa)) := by
  refine (pe_dct1 (by omega) ha pe_bl).qof fun σ H Q ⟨env, ρ, st, m, st', hE, R, e, k⟩ => ?_
  obtain ⟨x, st1, e1, e⟩ := Out.bind_eq e
  cases ek : keyOf x with
  | none => rw [ek] at e; cases e
  | some kk =>
    rw [ek] at e
    cases e
    have ex := keyOf_inv ek
    subst ex
    intro p hp
    have A0 : Aft X.K ρ [] H st ρ (upd H p (DctO p [])) := (Aft.refl R).upd hp
    have hE0 := hE.after A0 R.wr noAl
    have hp0 : p ∉ ρ := (Aft.refl (al := []) R).notCell hp
    refine tE_one hE0 A0.rl e1 fun w ρ1 f1 H1 A1 hE1 r1 => ?_
    have hpD : H1 p = some (DctO p []) := A1.fr p _ upd_same hp0 (fun z => nomatch z)
    have hp1 : p ∉ ρ1 := A1.notNew upd_same hp0 (fun z => nomatch z)
    obtain ⟨b, rfl, hb, _⟩ := r1.rep.key
    have nt : ∀ xs, DctO p [] ≠ .tup xs := fun _ z => by unfold DctO at z; cases z
    have nf : ∀ b u, DctO p [] ≠ .frz b u := fun _ _ z => by unfold DctO at z; cases z
    refine ⟨(.ref b, .bl true), rfl, rfl, hpD, b, kk, rfl, hb, ?_⟩
    have B : Aft X.K ρ [] H _ ρ1 (upd H1 p (DctO p [(kk, b, .bool true)])) := (A0.trans A1 noBl).touchO hp hpD nt nf hp1
    have hb2 : SqT X.K (upd H1 p (DctO p [(kk, b, .bool true)])) b (kk.map V.int) := (keeps_one (o2 := DctO p [(kk, b, .bool true)]) hpD nt nf).sqT hb
    have C := B.snocC (a := p) (cc := .dct [kk]) (.inl hp) hp1 (.dct (xs := [(kk, b, .bool true)]) upd_same fun x hx => by
      have e : x = (kk, b, .bool true) := by simpa using hx
      rw [e]
      exact ⟨hb2, rfl⟩)
    refine k.plain C (.ref ?_)
    rw [← A1.rl.len]
    simp
/-! ### instances -/
/-- what is known of a class of ours -/
structure ClsG (X : Cx) (c : Str) : Prop where
  cls : Cls X.K (He.ga X.K c)
theorem look_cons {α : Type} {n g : Str} {v : α} {r : List (Str × α)} : ((g, v) :: r).lookup n = if n = g then some v else r.lookup n := by
  rw [List.lookup_cons]
  by_cases h : n = g
  · rw [if_pos h, beq_iff_eq.mpr h]
  · rw [if_neg h, beq_eq_false_iff_ne.mpr h]
theorem look_none {α β : Type} {n : Str} : ∀ {gs : List (Str × α)} {fs : List (Str × β)}, gs.map (·.1) = fs.map (·.1) → fs.lookup n = none → gs.lookup n = none
  | [], [], _, _ => rfl
  | [], _ :: _, h, _ => by cases h
  | _ :: _, [], h, _ => by cases h
  | (g, v) :: gs, (f, m) :: fs, h, e => by
    rw [List.map_cons, List.map_cons] at h
    injection h with a1 a2
    have a1 : g = f := a1
    rw [look_cons] at e ⊢
    rw [a1]
    by_cases q : n = f
    · rw [if_pos q] at e
      cases e
    · rw [if_neg q] at e ⊢
      exact look_none a2 e
/-- a value that is an instance -/
theorem isObj_inv {K : PySem.W.Frag} {ρ f : List Addr} {H : Hp} {v : V} {m : MV} {c n : Str} {st : Store} (R : Rl K ρ st H) (r : Rep K ρ H v m f) (h : isObj c n st m = true) :
    ∃ i l dx gs fs, m = .ref i ∧ v = .ref l ∧ ρ[i]? = some l ∧ st[i]? = some (.obj c fs) ∧ H l = some (.ins (He.ga K c) dx gs) ∧ gs.map (·.1) = fs.map (·.1) ∧ Reps K ρ H (gs.map (·.2)) (fs.map (·.2)) [] ∧ gs.lookup n = none ∧ fs.lookup n = none := by
  cases m <;> first | (cases h; done) | skip
  rename_i i
  obtain ⟨l, rfl, hl⟩ := ref_at r
  obtain ⟨cc, hc, q⟩ := R.at_ hl
  have h : (match st[i]? with
    | some (.obj d fs) => decide (d = c) && (fs.lookup n).isNone
    | _ => false) = true := h
  rw [hc] at h
  cases q with
  | lst _ _ => cases h
  | dct _ _ => cases h
  | @obj dx d gs fs h1 h2 h3 =>
    have h : (decide (d = c) && (fs.lookup n).isNone) = true := h
    simp only [Bool.and_eq_true, decide_eq_true_eq] at h
    obtain ⟨rfl, hn⟩ := h
    have hn2 : fs.lookup n = none := by simpa using hn
    exact ⟨i, l, dx, gs, fs, rfl, rfl, hl, hc, h1, h2, h3, look_none h2 hn2, hn2⟩
theorem look_rep {K : PySem.W.Frag} {ρ : List Addr} {H : Hp} {f : Str} {m : MV} : ∀ {gs : List (Str × V)} {fs : List (Str × MV)}, gs.map (·.1) = fs.map (·.1) → Reps K ρ H (gs.map (·.2)) (fs.map (·.2)) [] → fs.lookup f = some m → ∃ v, gs.lookup f = some v ∧ Rep K ρ H v m []
  | [], [], _, _, h => by cases h
  | [], _ :: _, h, _, _ => by cases h
  | _ :: _, [], h, _, _ => by cases h
  | (g, v) :: gs, (f', m') :: fs, h1, r, h => by
    rw [List.map_cons, List.map_cons] at h1 r
    injection h1 with a1 a2
    have a1 : g = f' := a1
    subst a1
    generalize hnil : ([] : List Addr) = z at r
    cases r with
    | cons h0 r0 =>
      obtain ⟨e1, e2⟩ := List.append_eq_nil_iff.mp hnil.symm
      subst e1 e2
      rw [look_cons] at h ⊢
      by_cases q : f = g
      · rw [if_pos q] at h ⊢
        cases h
        exact ⟨v, rfl, h0⟩
      · rw [if_neg q] at h ⊢
        exact look_rep a2 r0 h
theorem attr_read {K : PySem.W.Frag} {ρ ρ1 f : List Addr} {H H1 : Hp} {st1 st' : Store} {v : V} {y m : MV} {Q : VK} {cn fn : Str} (A : Aft K ρ [] H st1 ρ1 H1) (r : Res K [] H ρ1 H1 v y f) (hc : Cls K (He.ga K cn)) (hn : NoAttr K (He.ga K cn) fn) (e : getaM cn y fn st1 = .val m st') (k : Kont K ρ H m st' Q) :
    ∃ a C dx fs u, v = .ref a ∧ H1 a = some (.ins C dx fs) ∧ Cls K C ∧ NoAttr K C fn ∧ fs.lookup fn = some u ∧ Q u H1 := by
  cases y <;> first | (cases e; done) | skip
  rename_i i
  obtain ⟨l, rfl, hl⟩ := ref_at r.rep
  obtain ⟨cc, hcc, q⟩ := A.rl.at_ hl
  have e : (match st1[i]? with
    | some (.obj d fs) => chk (decide (d = cn)) (ofO (fs.lookup fn) st1)
    | _ => .bad) = Out.val m st' := e
  rw [hcc] at e
  cases q with
  | lst _ _ => cases e
  | dct _ _ => cases e
  | obj h1 h2 h3 =>
    obtain ⟨hb, e1⟩ := chk_eq e
    clear e
    have hb := of_decide_eq_true hb
    subst hb
    obtain ⟨e2, rfl⟩ := ofO_eq e1
    obtain ⟨u, hu, ru⟩ := look_rep h2 h3 e2
    exact ⟨l, _, _, _, u, rfl, h1, hc, hn, hu, k.plain A ru⟩
theorem s_attr {cn f : Str} (hc : Cls X.K (He.ga X.K cn)) (hn : NoAttr X.K (He.ga X.K cn) f) (ha : PE X a (tE X.K Φ pa)) (hb : attributeBase a f X.env (eval a X.env) = eval a X.env) : PE X (.Attribute a f pos) (tE X.K Φ (.attr cn pa f)) :=
  (pe_fld ha hb).qof fun σ H Q ⟨env, ρ, st, m, st', hE, R, e, k⟩ => by
    obtain ⟨y, st1, e1, e⟩ := Out.bind_eq e
    exact tE_one hE R e1 fun v ρ1 f1 H1 A hE1 r => attr_read A r hc hn e k
/-! a tuple that is known to be one, and nothing else -/
theorem strsOf_map : ∀ {xs : List MV} {zs : List Str}, strsOf xs = some zs → xs = zs.map MV.str
  | [], _, h => by
    cases h
    rfl
  | .str z :: r, _, h => by
    obtain ⟨ws, hw, rfl⟩ := Option.map_eq_some_iff.mp (show (strsOf r).map (z :: ·) = some _ from h)
    rw [strsOf_map hw]
    rfl
  | .non :: _, _, h => by cases h
  | .bl _ :: _, _, h => by cases h
  | .int _ :: _, _, h => by cases h
  | .tup _ :: _, _, h => by cases h
  | .lst _ :: _, _, h => by cases h
  | .rol _ :: _, _, h => by cases h
  | .ref _ :: _, _, h => by cases h
  | .xts _ :: _, _, h => by cases h
theorem Reps.strs {K : PySem.W.Frag} {ρ : List Addr} {H : Hp} : ∀ {zs : List Str} {vs : List V} {f : List Addr}, Reps K ρ H vs (zs.map MV.str) f → vs = zs.map V.str ∧ f = [] ∧ zs.all PyData.strOk = true
  | [], _, _, r => by
    cases r
    exact ⟨rfl, rfl, rfl⟩
  | z :: zs, _, _, r => by
    cases r with
    | cons h r =>
      cases h with
      | str _ hz =>
        obtain ⟨rfl, rfl, e⟩ := r.strs
        exact ⟨rfl, rfl, by rw [List.all_cons, hz, e]; rfl⟩
theorem s_xte {j : Nat} : PE X (.Tuple [] j pos) (tE X.K Φ .xte) := by
  refine ⟨fun pins s σ H Q I ⟨env, ρ, st, m, st', hE, R, e, k⟩ => ?_⟩
  cases e
  refine wpAny_Tuple_spliced (thn ((pa_nil (X := X)).run pos pins s σ H (fun xs H1 => xs = [] ∧ H1 = H) I ⟨rfl, rfl⟩) fun us s1 ⟨xs, H1, I1, r, ex, eH⟩ => ?_)
  subst ex eH
  cases r
  refine ⟨Nat.zero_le _, ?_⟩
  have hn := I1.hok.fresh (Nat.le_refl _)
  refine ⟨.ref _, _, I1.laid (t' := s1.toks) (o := .frz { cls := .type "tuple", data := .seq ([] : List Value).toArray } (.tup [])) (fun _ _ q => Heap.get?_push_of_some _ q) (Nat.le_refl _) ⟨Heap.get?_push_size _ rfl, Nat.zero_le _, [], .nil, IsTup.new _ _⟩, rfl, ?_⟩
  exact k.plain ((Aft.refl R).upd hn) (.xts (zs := []) ⟨_, upd_same, rfl, rfl⟩ rfl)
/-- how often it stands there -/
theorem count_eqU {w : Str} : ∀ {zs : List Str} {us : List Value}, Vals (zs.map V.str) us → us.countP (eqU (.str w)) = zs.count w
  | [], _, .nil => rfl
  | z :: zs, u :: us, .cons r t => by
    rw [List.countP_cons, List.count_cons, count_eqU t, eqU_of r rfl]
    rfl
theorem strs_flat : ∀ zs : List Str, (zs.map V.str).all flatV = true
  | [] => rfl
  | _ :: zs => by
    rw [List.map_cons, List.all_cons, strs_flat zs]
    rfl
def tOne (tb : TE) : TA := fun σ H Q => tb σ H fun y H1 => Q [y] H1
theorem s_cons0 {tb : TE} (hb : PE X b tb) (sb : starEach [b] X.env = (false, eval b X.env) :: starEach [] X.env) : PA X [b] (tOne tb) := (pa_cons hb pa_nil sb).qof fun _ _ _ h => h
def tCnt (to tb : TE) : TE := fun σ H Q => to σ H fun x H1 => ∃ (p : Addr) (zs : List Str), x = .ref p ∧ SqX H1 p (zs.map V.str) ∧ tb σ H1 fun y H2 => ∃ w : Str, [y] = [.str w] ∧ SqX H2 p (zs.map V.str) ∧ Q (.int (zs.count w : Nat)) H2
theorem pe_cnt {to tb : TE} {apos : Pos} (ho : PE X a to) (hb : PE X b tb) (hbase : attributeBase a "count" X.env (eval a X.env) = eval a X.env) (hline : (apos.endLine == pos.line) = true) (sb : starEach [b] X.env = (false, eval b X.env) :: starEach [] X.env) :
    PE X (.Call (.Attribute a "count" apos) [b] [] pos) (tCnt to tb) := by
  refine ⟨fun pins s σ H Q I h => ?_⟩
  refine wpAny_Call_method1_late hbase hline (by rw [sb]; rfl) (thn (ho.run pins s σ H _ I h) fun v s1 ⟨x, H1, I1, rx, p, zs, ex, hp, q⟩ => ?_)
  subst ex
  cases rx
  obtain ⟨o, ho1, hcls, hdict⟩ := id hp
  have hget := (I1.hok p _ ho1).1
  refine ⟨"tuple", "tuple.count", PySem.F.plainAttrs_tuple, PySem.F.slot_tuple_count, PySem.F.type_tuple_count, ⟨o, hget, hcls⟩, fun z ez => by cases ez; exact ⟨o, hget, hdict⟩, ?_⟩
  have hB := (s_cons0 hb sb).run pos pins s1 σ H1 (fun ys H2 => ∃ w : Str, ys = [V.str w] ∧ SqX H2 p (zs.map V.str) ∧ Q (.int (zs.count w : Nat)) H2) I1 q
  rw [sb] at hB
  refine Calls.callWith_builtin rfl (Calls.evalArgs_plain (thn hB fun us s2 ⟨ys, H2, I2, ry, w, ew, hp2, q2⟩ => ?_))
  subst ew
  obtain ⟨u, rfl, ru⟩ := ry.one
  obtain ⟨its, rv, ⟨⟨cls, dd, data, sl⟩, ho2, hc2, n, hd2⟩, _⟩ := I2.tuple (hp2.tup (K := X.K))
  simp only at hc2 hd2
  subst hc2 hd2
  refine call_meets PySem.F.slot_tuple_count ⟨_, ho2, rfl⟩ PySem.F.entry_tuple_count (PySem.F.args_tuple_count_2 _ _) (SeqAt.tuple_countAt p its.toArray n dd sl u (eqU (.str w))) ⟨ho2, fun u' hu' => mem_eqAt ru rfl rv (strs_flat zs) u' (by simpa using hu'), ?_⟩
  rw [show its.toArray.toList.countP (eqU (.str w)) = zs.count w from count_eqU rv]
  exact ⟨.int (zs.count w : Nat), H2, I2.tok _, ⟨_, rfl⟩, q2⟩
theorem s_cnt {apos : Pos} (ho : PE X a (tE X.K Φ pa)) (hb : PE X b (tE X.K Φ pb)) (hbase : attributeBase a "count" X.env (eval a X.env) = eval a X.env) (hline : (apos.endLine == pos.line) = true) (sb : starEach [b] X.env = (false, eval b X.env) :: starEach [] X.env) :
    PE X (.Call (.Attribute a "count" apos) [b] [] pos) (tE X.K Φ (.cnt pa pb)) :=
  (pe_cnt ho hb hbase hline sb).qof fun σ H Q ⟨env, ρ, st, m, st', hE, R, e, k⟩ => by
    obtain ⟨x, st1, e1, e⟩ := Out.bind_eq e
    obtain ⟨y, st2, e2, e⟩ := Out.bind_eq e
    have hx : ∃ zs w, x = .xts zs ∧ y = .str w := by
      cases x <;> first | (cases e; done) | skip
      cases y <;> first | (cases e; done) | exact ⟨_, _, rfl, rfl⟩
    obtain ⟨zs, w, rfl, rfl⟩ := hx
    cases e
    refine tE_one hE R e1 fun v ρ1 f H1 A hE1 r => ?_
    have rr := r.rep
    cases rr with
    | @xts p _ hp hz =>
      refine ⟨p, zs, rfl, hp, ?_⟩
      refine tE_one hE1 A.rl e2 fun v2 ρ2 f2 H2 B hE2 r2 => ?_
      refine ⟨w, by rw [r2.rep.str_inv.1], (B.keeps A.rl.wr noAl).sqX hp, k.plain (A.trans B noBl) (.int _)⟩
/-! calls of methods -/
theorem meth_tree {o : Expr} {m : Str} {apos pos : Pos} {es : List Expr} {env : PySem.Env} (hbase : attributeBase o m env (eval o env) = eval o env) (hline : (apos.endLine == pos.line) = true) (hl : es.length < 25) (hst : (backTo pos (starEach es env)).any (·.1) = false) :
    eval (.Call (.Attribute o m apos) es [] pos) env = (do
      let ov ← eval o env
      standAt apos.atName
      let (f, first) ← holding [ov] (getMethod ov m (do return (← importBound o env).getD true))
      callWith pos f first (backTo pos (starEach es env)) (backToKw pos (keywordEach [] env))) := by
  have hform : methodCallForm (es.length + ([] : List Keyword).length) (backTo pos (starEach es env)) (backToKw pos (keywordEach [] env)) = true := by
    unfold methodCallForm
    simp only [Bool.and_eq_true, decide_eq_true_eq]
    refine ⟨⟨?_, rfl⟩, ?_⟩
    · rw [List.all_eq_true]
      intro x hx
      have := List.any_eq_false.mp hst x hx
      simpa using this
    · show es.length + 0 + 0 < 30
      omega
  have hpos : methodCallPos true o env apos pos = pure pos := by
    unfold methodCallPos
    simp [hline]
  rw [arm_eval_Call, hbase]
  congr 1
  funext ov
  congr 1
  funext u
  unfold methodCall
  rw [hform, hpos]
  unfold calleeOf
  rw [if_pos rfl]
  congr 1
theorem pe_methR0 {CX : CXT} {C g : Addr} {m : Str} {sp : Sp} {E : XK} {o : Expr} {ta : TE} {apos pos : Pos} {pl : Sem Bool} (he : PE X o ta) (c : Cls X.K C) (hm : Meth X.K C m g) (F : FnR X.prog X.w X.K X.mg X.base CX k g sp) (hr : Room k X.A) (hx : Passes CX X E)
    (ht : eval (.Call (.Attribute o m apos) [] [] pos) X.env = (do
      let ov ← eval o X.env
      standAt apos.atName
      let (f, first) ← holding [ov] (getMethod ov m pl)
      callWith pos f first (backTo pos (starEach [] X.env)) (backToKw pos (keywordEach [] X.env)))) :
    PE X (.Call (.Attribute o m apos) [] [] pos) (tMethR C m sp E ta tNil) := by
  refine ⟨fun pins s σ H Q I h => ?_⟩
  refine PySem.W.methodCall_KW (pl := pl) (thn (he.run pins s σ H _ I h) fun u s1 ⟨x, H1, I1, rx, a, dx, fs, ex, ea, l, q⟩ => ?_) ht
  subst ex
  obtain rfl : u = Value.ref a := rx
  refine getmeth_ok I1 ea c hm l ?_
  exact PySem.W.callWith_K0 (first := [.ref a]) I1.kIn hm.kp (wpAny_call (run_fnR (us := [.ref a]) (vs := [.ref a]) F hr hx I1 (.cons rfl .nil) q))
/-- a promise with a star: what is left over stands in a new tuple -/
def spS (sp : Sp) : Sp := fun vs H Q E => ∃ v rest, vs = v :: rest ∧ rest.length ≤ sizeLine ∧ ∀ p o, H p = Option.none → o.cls = .type "tuple" → o.dict = Option.none → sp [v, .ref p] (upd H p (.frz o (.tup rest))) Q E
/-- what is known of a method -/
structure MthG (X : Cx) (Φ : Phi) (c m : Str) (k : Nat) (star : Bool) : Prop where
  cls : Cls X.K (He.ga X.K c)
  fn : ∃ (lvl : Nat) (g : Addr), Meth X.K (He.ga X.K c) m g ∧ Room (lvl + 1) X.A ∧ FnR X.prog X.w X.K X.mg X.base CX0 lvl g (match star with
    | true => spS (spF Φ X.K k)
    | false => spF Φ X.K k)
theorem call_readR {K : PySem.W.Frag} {ρ ρ1 fp : List Addr} {H H1 : Hp} {vs : List V} {ms : List MV} {st1 st' : Store} {m : MV} {Q : VK} (A : Aft K ρ [] H st1 ρ1 H1) (R : Ress K [] H ρ1 H1 vs ms fp) (e : Φ k ms st1 = .val m st') (kk : Kont K ρ H m st' Q) :
    spF Φ K k vs H1 Q E0 := by
  have := call_read (Q := Q) A R e kk
  rwa [List.append_nil] at this
theorem s_mcl {cn mn : Str} {o : Expr} {po : E} {apos : Pos} (g : MthG X Φ cn mn k false) (ho : PE X o (tE X.K Φ po)) (hp : dotOk o = true) (hline : (apos.endLine == pos.line) = true) (hl : es.length < 25) (ha : PA X es (tEs X.K Φ ps)) (h0 : es = [] → ps = .nil)
    (hst : ∀ e r, es = e :: r → starEach (e :: r) X.env = (false, eval e X.env) :: starEach r X.env) (hany : (backTo pos (starEach es X.env)).any (·.1) = false) (hany2 : ∀ e r, es = e :: r → (backTo pos (starEach r X.env)).any (·.1) = false) :
    PE X (.Call (.Attribute o mn apos) es [] pos) (tE X.K Φ (.mcl cn mn k po ps)) := by
  obtain ⟨lvl, g1, hm, hr, F⟩ := g.fn
  have hbase : attributeBase o mn X.env (eval o X.env) = eval o X.env := attrBase1 hp
  have ht := meth_tree hbase hline hl hany
  have key : ∀ {t : TA}, (∀ σ H Q, tEs X.K Φ ps σ H Q → t σ H Q) → PE X (.Call (.Attribute o mn apos) es [] pos) (tMethR (He.ga X.K cn) mn (spF Φ X.K k) E0 (tE X.K Φ po) t) → PE X (.Call (.Attribute o mn apos) es [] pos) (tE X.K Φ (.mcl cn mn k po ps)) := fun {t} hw h =>
    h.qof fun σ H Q ⟨env, ρ, st, m, st', hE, R, e, kk⟩ => by
      obtain ⟨x, st1, e1, e⟩ := Out.bind_eq e
      obtain ⟨hb, e⟩ := chk_eq e
      obtain ⟨ms, st2, e2, e⟩ := Out.bind_eq e
      obtain ⟨hb2, e⟩ := chk_eq e
      refine tE_one hE R e1 fun v ρ1 f H1 A hE1 r => ?_
      obtain ⟨i, l, dx, gs, fs, rfl, rfl, hl, hc, h1, h2, h3, h4, h5⟩ := isObj_inv A.rl r.rep hb
      refine ⟨l, dx, gs, rfl, h1, h4, hw _ _ _ ⟨env, ρ1, st1, ms, st2, hE1, A.rl, e2, fun vs ρ2 g H2 B s => ?_⟩⟩
      have AB := A.trans B noBl
      have rx : Ress X.K [] H ρ2 H2 (.ref l :: vs) (.ref i :: ms) ([] ++ g) := by
        have r0 : Res X.K [] H ρ1 H1 (.ref l) (.ref i) [] := ⟨.ref hl, List.nodup_nil, fun _ z => nomatch z⟩
        exact Ress.cons A B r0 s
      exact call_readR AB rx e kk
  cases es with
  | nil =>
    have e := h0 rfl
    subst e
    refine key (t := tNil) (fun σ H Q ⟨env, ρ, st, ms, st', hE, R, e, kk⟩ => ?_) (pe_methR0 ho g.cls hm F (hr.mono (Nat.le_succ _)) pass0 ht)
    cases e
    exact kk [] ρ [] H (Aft.refl R) ⟨.nil, List.nodup_nil, fun _ z => nomatch z⟩
  | cons e es => exact key (t := tEs X.K Φ ps) (fun _ _ _ z => z) (pe_methR ho g.cls hm F (hr.mono (Nat.le_succ _)) pass0 ha (hst _ _ rfl) (hany2 _ _ rfl) ht)
theorem Kont.base {K : PySem.W.Frag} {ρ : List Addr} {H : Hp} {m : MV} {st' : Store} {Q : VK} (k : Kont K ρ H m st' Q) : Kont K ρ H m st' Q := k
/-- o.m(..), the method's parameter takes all: what is new in the heap meanwhile is the tuple -/
theorem s_mcs {cn mn : Str} {o : Expr} {po : E} {apos : Pos} (g : MthG X Φ cn mn k true) (ho : PE X o (tE X.K Φ po)) (hp : dotOk o = true) (hline : (apos.endLine == pos.line) = true) (hl : es.length < 25) (ha : PA X es (tEs X.K Φ ps)) (h0 : es = [] → ps = .nil)
    (hst : ∀ e r, es = e :: r → starEach (e :: r) X.env = (false, eval e X.env) :: starEach r X.env) (hany : (backTo pos (starEach es X.env)).any (·.1) = false) (hany2 : ∀ e r, es = e :: r → (backTo pos (starEach r X.env)).any (·.1) = false) :
    PE X (.Call (.Attribute o mn apos) es [] pos) (tE X.K Φ (.mcs cn mn k po ps)) := by
  obtain ⟨lvl, g1, hm, hr, F⟩ := g.fn
  have hbase : attributeBase o mn X.env (eval o X.env) = eval o X.env := attrBase1 hp
  have ht := meth_tree hbase hline hl hany
  have key : ∀ {t : TA}, (∀ σ H Q, tEs X.K Φ ps σ H Q → t σ H Q) → PE X (.Call (.Attribute o mn apos) es [] pos) (tMethR (He.ga X.K cn) mn (spS (spF Φ X.K k)) E0 (tE X.K Φ po) t) → PE X (.Call (.Attribute o mn apos) es [] pos) (tE X.K Φ (.mcs cn mn k po ps)) := fun {t} hw h =>
    h.qof fun σ H Q ⟨env, ρ, st, m, st', hE, R, e, kk⟩ => by
      obtain ⟨x, st1, e1, e⟩ := Out.bind_eq e
      obtain ⟨hb, e⟩ := chk_eq e
      obtain ⟨ms, st2, e2, e⟩ := Out.bind_eq e
      obtain ⟨hb2, e⟩ := chk_eq e
      simp only [Bool.and_eq_true, decide_eq_true_eq] at hb2
      refine tE_one hE R e1 fun v ρ1 f H1 A hE1 r => ?_
      obtain ⟨i, l, dx, gs, fs, rfl, rfl, hl, hc, h1, h2, h3, h4, h5⟩ := isObj_inv A.rl r.rep hb
      refine ⟨l, dx, gs, rfl, h1, h4, hw _ _ _ ⟨env, ρ1, st1, ms, st2, hE1, A.rl, e2, fun vs ρ2 g H2 B s => ?_⟩⟩
      have AB := A.trans B noBl
      refine ⟨.ref l, vs, rfl, ?_, fun p o hp c1 c2 => ?_⟩
      · rw [s.rep.length, sizeLine_eq]
        omega
      have W := AB.upd (o := .frz o (.tup vs)) hp
      have B2 := B.upd (o := .frz o (.tup vs)) hp
      have r0 : Res X.K [] H ρ1 H1 (.ref l) (.ref i) [] := ⟨.ref hl, List.nodup_nil, fun _ z => nomatch z⟩
      have st : ∃ g, Res X.K [] H1 ρ2 (upd H2 p (.frz o (.tup vs))) (.ref p) (starV ms) g := by
        cases hz : strsOf ms with
        | none =>
          rw [show starV ms = .tup ms by unfold starV; rw [hz]]
          exact ⟨g, .tup (.inl (.inr ⟨o, upd_same⟩)) (s.rep.upd hp), s.nd, s.new⟩
        | some zs =>
          rw [show starV ms = .xts zs by unfold starV; rw [hz]]
          have em := strsOf_map hz
          subst em
          obtain ⟨rfl, rfl, e⟩ := s.rep.strs
          exact ⟨[], .xts ⟨o, upd_same, c1, c2⟩ e, List.nodup_nil, fun _ z => nomatch z⟩
      obtain ⟨g, st⟩ := st
      exact call_readR W (Res.two A B2 r0 st) e kk
  cases es with
  | nil =>
    have e := h0 rfl
    subst e
    refine key (t := tNil) (fun σ H Q ⟨env, ρ, st, ms, st', hE, R, e, kk⟩ => ?_) (pe_methR0 ho g.cls hm F (hr.mono (Nat.le_succ _)) pass0 ht)
    cases e
    exact kk [] ρ [] H (Aft.refl R) ⟨.nil, List.nodup_nil, fun _ z => nomatch z⟩
  | cons e es => exact key (t := tEs X.K Φ ps) (fun _ _ _ z => z) (pe_methR ho g.cls hm F (hr.mono (Nat.le_succ _)) pass0 ha (hst _ _ rfl) (hany2 _ _ rfl) ht)
/-! a new instance -/
structure MkG (X : Cx) (Φ : Phi) (c : Str) (k : Nat) : Prop where
  fn : ∃ (lvl : Nat) (g : Addr), Mk X.K (He.ga X.K c) g ∧ Room (lvl + 1) X.A ∧ FnR X.prog X.w X.K X.mg X.base CX0 lvl g (spF Φ X.K k)
  mg : X.mg c = some (.ref (He.ga X.K c))
theorem s_mk {cn : Str} (g : MkG X Φ cn k) (hg : Gl X cn) (hdb : (cn == ("__debug__" : Str)) = false) (ha : PA X (e :: es) (tEs X.K Φ ps)) (he : starEach (e :: es) X.env = (false, eval e X.env) :: starEach es X.env)
    (hpl : (backTo pos (starEach es X.env)).any (·.1) = false) : PE X (.Call (.Name cn p) (e :: es) [] pos) (tE X.K Φ (.mk cn k ps)) := by
  obtain ⟨lvl, g1, M, hr, F⟩ := g.fn
  refine (StX.pe_makeR (E := E0) M F hr hg g.mg pass0 ha hdb he hpl).qof fun σ H Q ⟨env, ρ, st, m, st', hE, R, e, kk⟩ => ?_
  obtain ⟨ms, st1, e1, e⟩ := Out.bind_eq e
  obtain ⟨u, st2, e2, e⟩ := Out.bind_eq e
  obtain ⟨hu, e⟩ := chk_eq e
  cases e
  have hun : u = .non := by cases u <;> first | rfl | cases hu
  subst hun
  refine ⟨env, ρ, st, ms, st1, hE, R, e1, fun vs ρ1 f H1 A r x dx hx hdx hne => ?_⟩
  have hx2 : upd H1 dx (.own x) x = Option.none := by rw [upd_ne (Ne.symm hne)]; exact hx
  have A2 : Aft X.K ρ [] H st1 ρ1 (upd (upd H1 dx (.own x)) x (.ins (He.ga X.K cn) dx [])) := (A.upd hdx).upd hx2
  have hxr : x ∉ ρ1 := A.notCell hx
  have A3 := A2.snocC (a := x) (cc := .obj cn []) (.inl (A.none hx)) hxr (.obj (gs := []) (fs := []) upd_same rfl .nil)
  have rr := (r.rep.upd (o := .own x) hdx).upd (o := .ins (He.ga X.K cn) dx []) hx2
  have ix : ∀ (i : Nat) (b : Addr), ρ1[i]? = some b → (ρ1 ++ [x])[i]? = some b := fun i b h => get_app h [x]
  have rr2 := rr.move (H' := upd (upd H1 dx (.own x)) x (.ins (He.ga X.K cn) dx [])) Keeps.refl ix fun _ _ _ q => q
  have hix : (ρ1 ++ [x])[st1.length]? = some x := by
    rw [← A.rl.len]
    simp
  refine ⟨ρ1 ++ [x], st1 ++ [.obj cn []], .ref st1.length :: ms, f, .non, st', A3.rl, .cons (f := []) (.ref hix) rr2, r.nd, fun b hb z => ?_, e2, fun v ρ2 fp' H2 B S => ?_⟩
  · rcases List.mem_append.mp z with z | z
    · exact (r.new b hb).2 z
    · have e : b = x := by simpa using z
      obtain ⟨ws, q⟩ := r.rep.fpSome b hb
      rw [e, hx] at q
      cases q
  · refine ⟨S.rep.non_inv.1, ?_⟩
    exact kk.plain (A3.trans B fun a ha => (r.new a ha).1) (.ref (B.ix _ _ hix))
/-! an attribute stored -/
theorem putF_rep {K : PySem.W.Frag} {ρ : List Addr} {H : Hp} {f : Str} {v : V} {m : MV} (hv : Rep K ρ H v m []) : ∀ {gs : List (Str × V)} {fs : List (Str × MV)}, gs.map (·.1) = fs.map (·.1) → Reps K ρ H (gs.map (·.2)) (fs.map (·.2)) [] →
    (L2.putF f v gs).map (·.1) = (QR.putF f m fs).map (·.1) ∧ Reps K ρ H ((L2.putF f v gs).map (·.2)) ((QR.putF f m fs).map (·.2)) []
  | [], [], _, _ => ⟨rfl, .cons (f := []) (fs := []) hv .nil⟩
  | [], _ :: _, h, _ => by cases h
  | _ :: _, [], h, _ => by cases h
  | (g, x) :: gs, (g', y) :: fs, h, r => by
    rw [List.map_cons, List.map_cons] at h r
    injection h with a1 a2
    have a1 : g = g' := a1
    subst a1
    generalize hnil : ([] : List Addr) = z at r
    cases r with
    | cons h0 r0 =>
      obtain ⟨e1, e2⟩ := List.append_eq_nil_iff.mp hnil.symm
      subst e1 e2
      unfold L2.putF QR.putF
      by_cases q : g = f
      · rw [if_pos q, if_pos q]
        exact ⟨by rw [List.map_cons, List.map_cons, a2], .cons (f := []) (fs := []) hv r0⟩
      · rw [if_neg q, if_neg q]
        obtain ⟨b1, b2⟩ := putF_rep (f := f) hv a2 r0
        exact ⟨by rw [List.map_cons, List.map_cons, b1], .cons (f := []) (fs := []) h0 b2⟩
/-! len of an instance -/
theorem len_own {prog : Program} {w : World} {A : Around} {E : Value → Shared → Prop} {s : Shared} {K : PySem.W.Frag} {x C f : Addr} {ox : Obj} {odd : Option Obj} {Q : Value → Shared → Prop} (X : K.In s.heap) (I : PySem.W.InstAt s.heap x ox C odd) (hs : PySem.W.findIn K (.ref C) "__len__" = some (some (.ref f))) (hf : PySem.W.isFn K (.ref f) = true)
    (h : wpAny (model prog w) A.in1 (PySem.call (.ref f) [.ref x]) (fun r s₁ => ∃ n u, r = Value.int n u ∧ 0 ≤ n ∧ n < 1000000 ∧ ∀ t tk, Q (.int n t) { s₁ with toks := tk }) E s) : wpAny (model prog w) A (PySem.call (.builtin "len") [.ref x]) Q E s := by
  refine Calls.call_function_entry kind_len plain_len entry_len (args_len1 _) ?_
  unfold Builtin.«len»
  refine wpAny_bind (m := oneArg "len" _) (wpAny_pure ?_)
  refine wpAny_bind (m := callSpecial? (.ref x) (Str.ofString "__len__")) (PySem.W.special_fn X I hs (beq_iff_eq.mp hf) (wpAny_mono h (fun r s' hr => ?_) fun _ _ y => y))
  obtain ⟨n, u, rfl, h0, h1, hq⟩ := hr
  refine wpAny_bind (wpAny_holding (wpAny_pure ?_))
  refine wpAny_bind (wpAny_letGo ?_)
  show wpAny _ _ (if n < 0 then _ else _) _ _ _
  rw [if_neg (by omega)]
  show wpAny _ _ (if n ≥ 2 ^ 63 then _ else _) _ _ _
  rw [if_neg (by omega)]
  exact wpAny_bind (wpAny_mkInt (wpAny_pure ⟨_, rfl, hq _ _⟩))
def rLenO (C : Addr) (sp : Sp) (E : XK) : List V → Hp → VK → Prop := fun xs H Q => ∃ a dx fs, xs = [V.ref a] ∧ H a = some (.ins C dx fs) ∧ sp [.ref a] H (fun z H' => ∃ i, z = .int i ∧ 0 ≤ i ∧ i < 1000000 ∧ Q z H') E
theorem call_lenO {C g : Addr} {sp : Sp} {E : XK} {CX : CXT} (hs : PySem.W.findIn X.K (.ref C) "__len__" = some (some (.ref g))) (hf : PySem.W.isFn X.K (.ref g) = true) (F : FnR X.prog X.w X.K X.mg X.base CX k g sp) (hr : Room (k + 1) X.A) (hx : Passes CX X E) : CallR X (.builtin "len") (rLenO C sp E) := by
  intro pins s σ H xs us Q I r h
  obtain ⟨a, dx, fs, rfl, ha, q⟩ := h
  obtain ⟨u, rfl, ru⟩ := r.one
  cases (show u = Value.ref a from ru)
  obtain ⟨mA, O, _⟩ := ins_get I.hok ha
  obtain ⟨od, J, _⟩ := O.look
  refine len_own I.kIn J hs hf (wpAny_mono (wpAny_call (SlX.run_at (us := [.ref a]) (ws := [.ref a]) F hr.in1 I.env0.in1 hx I (.cons rfl .nil) q)) (fun w s' z => ?_) fun _ _ x => x)
  obtain ⟨z', H', I', rz, i, ei, h0, h1, qz⟩ := z
  subst ei
  obtain ⟨t, e⟩ := (show ∃ t, w = Value.int i t from rz)
  cases e
  exact ⟨i, t, rfl, h0, h1, fun t' tk => ⟨.int i, H', I'.tok _, ⟨t', rfl⟩, qz⟩⟩
theorem s_lenO {cn : Str} {o : Expr} {po : E} {p pos : Pos} (g : MthG X Φ cn "__len__" k false) (hg : Gl X "len") (hm : X.mg "len" = none) (ho : PE X o (tE X.K Φ po)) (he : starEach [o] X.env = (false, eval o X.env) :: starEach [] X.env) :
    PE X (.Call (.Name "len" p) [o] [] pos) (tE X.K Φ (.lenO cn k po)) := by
  obtain ⟨lvl, g1, hmt, hr, F⟩ := g.fn
  have h2 : PA X [o] (tEs X.K Φ (.cons po .nil)) := s_cons ho s_nil he
  refine (pe_callB (call_lenO (E := E0) hmt.at_ hmt.fn F hr pass0) hg hm PySem.boot_len h2 (by decide) (by decide) he (by rfl)).qof fun σ H Q ⟨env, ρ, st, m, st', hE, R, e, kk⟩ => ?_
  obtain ⟨x, st1, e1, e⟩ := Out.bind_eq e
  obtain ⟨hb, e⟩ := chk_eq e
  obtain ⟨u, st2, e2, e⟩ := Out.bind_eq e
  have hui : ∃ i, u = .int i := by cases u <;> first | exact ⟨_, rfl⟩ | cases e
  obtain ⟨i, rfl⟩ := hui
  obtain ⟨hi, e⟩ := chk_eq (show chk (decide (0 ≤ i) && decide (i < 1000000)) (.val (.int i) st2) = Out.val m st' from e)
  cases e
  simp only [Bool.and_eq_true, decide_eq_true_eq] at hi
  refine ⟨env, ρ, st, [x], st1, hE, R, by show (ev Φ po env st).bind (fun x st => .val [x] st) = _; rw [e1]; rfl, fun vs ρ1 f H1 A r => ?_⟩
  obtain ⟨v, rfl, rv⟩ := r.rep.one
  obtain ⟨j, l, dx, gs, fs, rfl, rfl, hl, hc, h1, h2, h3, h4, h5⟩ := isObj_inv A.rl rv hb
  refine ⟨l, dx, gs, rfl, h1, ?_⟩
  refine call_readR (m := .int i) A (vs := [.ref l]) (ms := [.ref j]) (fp := []) ⟨.cons (f := []) (fs := []) (.ref hl) .nil, List.nodup_nil, fun _ z => nomatch z⟩ e2 fun z ρ2 f2 H2 B S => ?_
  exact ⟨i, S.rep.int_inv.1, hi.1, hi.2, kk z ρ2 f2 H2 B S⟩
end
end QR

set_option Elab.async false
set_option linter.all false
set_option maxRecDepth 100000
set_option maxHeartbeats 1000000
/-! QSoundC: targets, what is walked, comprehensions. -/
namespace L2
open PySem PySem.Spec PyProof.Rows
theorem PI.qof {X : Cx} {tg e : Expr} {t t' : TI} (h : PI X tg e t) (w : ∀ σ H Q, t' σ H Q → t σ H Q) : PI X tg e t' := ⟨fun pins s σ H Q I q => h.run pins s σ H Q I (w σ H Q q)⟩
theorem PS.qof {X : Cx} {s : Stmt} {t t' : TS} (h : PS X s t) (w : ∀ D σ H, t' D σ H → t D σ H) : PS X s t' := ⟨fun pins s σ H D I q => h.run pins s σ H D I (w D σ H q)⟩
theorem PSs.qof {X : Cx} {s : List Stmt} {t t' : TS} (h : PSs X s t) (w : ∀ D σ H, t' D σ H → t D σ H) : PSs X s t' := ⟨fun pins s σ H D I q => h.run pins s σ H D I (w D σ H q)⟩
end L2
namespace QR
open PySem PySem.Spec PyProof.Rows L2

structure Fit (X : Cx) (ce : CEnv) : Prop where
  N : ce.N = X.N
  sc : ce.sc = X.env.scope
  fn : ∀ x, blkOwn ce x = true → locB ce.sc x = true → X.fn x = true ∨ X.env.scope.names.lookup x = some .local
/-! ### targets -/
def gNms : List Nat → TGs
  | [] => gNil
  | i :: is => gCons (gName i) (gNms is)
def gT (K : PySem.W.Frag) : Tg → TG
  | .nm i => gName i
  | .nms is => gTup K is.length (gNms is)
section
variable {X : Cx} {ce : CEnv} {x : Str} {i : Nat} {pos : Pos}
theorem badName_no (h : badName x = false) : (x == ("__debug__" : Str)) = false ∧ (x == ("__classdict__" : Str)) = false ∧ x ≠ ("__name__" : Str) := by
  unfold badName at h
  simp only [Bool.or_eq_false_iff] at h
  exact ⟨h.1, h.2.1, fun e => by rw [e] at h; simp at h⟩
theorem idx0 {N : List Str} (h : idx x N 0 = some i) : N[i]? = some x := by
  have := (idx_get h).2
  rwa [Nat.sub_zero] at this
theorem slotS_inv (h : slotS ce x = some i) : badName x = false ∧ locB ce.sc x = true ∧ blkOwn ce x = true ∧ ce.N[i]? = some x := by
  unfold slotS at h
  split at h
  · rename_i hb
    simp only [Bool.and_eq_true, Bool.not_eq_true'] at hb
    exact ⟨hb.1, hb.2.1, hb.2.2, idx0 h⟩
  · cases h
theorem locB_loc {sc : Scope} (h : locB sc x = true) : Loc sc x := by
  unfold locB at h
  split at h
  · rename_i e; exact .inl e
  · rename_i e; exact .inr e
  · cases h
theorem visB_vis {sc : Scope} (h : visB sc x = true) : Vis sc x := by
  unfold visB at h
  split at h
  · rename_i e; exact .inl e
  · rename_i e; exact .inr (.inl e)
  · rename_i e; exact .inr (.inr e)
  · cases h
theorem slot_pg (F : Fit X ce) (nd : X.N.Nodup) (h : slotS ce x = some i) : PG X (.Name x pos) (gName i) := by
  obtain ⟨h1, h2, h3, h4⟩ := slotS_inv h
  exact pg_name nd (F.N ▸ h4) (F.sc ▸ locB_loc h2) (F.fn x h3 h2)
theorem nms_pgs (F : Fit X ce) (nd : X.N.Nodup) : ∀ {es : List Expr} {is : List Nat}, nmsOf ce es = some is → PGs X es (gNms is) ∧ (assignEach es X.env).length = is.length ∧ (assignEach es X.env).findIdx? (·.1) = none
  | [], is, h => by
    cases h
    exact ⟨pgs_nil, rfl, rfl⟩
  | e :: r, is, h => by
    cases e with
    | Name x p =>
      simp only [nmsOf] at h
      cases h1 : slotS ce x with
      | none => rw [h1] at h; cases h
      | some i =>
        rw [h1] at h
        cases h2 : nmsOf ce r with
        | none => rw [h2] at h; cases h
        | some js =>
          rw [h2] at h
          cases h
          obtain ⟨a1, a2, a3⟩ := nms_pgs F nd h2
          refine ⟨pgs_cons (slot_pg F nd h1) a1 rfl, ?_, ?_⟩
          · show _ + 1 = _ + 1
            rw [a2]
          · show List.findIdx? (·.1) ((false, assign (.Name x p) X.env) :: assignEach r X.env) = none
            rw [List.findIdx?_cons, a3]
            rfl
    | _ => cases h
theorem tg_pg (F : Fit X ce) (nd : X.N.Nodup) (hc : X.calm = true) {tg : Expr} {t : Tg} (h : compTg ce tg = some t) : PG X tg (gT X.K t) := by
  cases tg with
  | Name x p =>
    simp only [compTg] at h
    cases h1 : slotS ce x with
    | none => rw [h1] at h; cases h
    | some i =>
      rw [h1] at h
      cases h
      exact slot_pg F nd h1
  | Tuple es k p =>
    simp only [compTg] at h
    cases h1 : nmsOf ce es with
    | none => rw [h1] at h; cases h
    | some is =>
      rw [h1] at h
      cases h
      obtain ⟨a1, a2, a3⟩ := nms_pgs F nd h1
      exact pg_tup hc a1 a2 a3
  | _ => cases h
end
section
variable {K : PySem.W.Frag} {Φ : Phi} {ρ ρ' ρ1 ρ2 al fp f g : List Addr} {H H' H1 H2 : Hp} {v w : V} {vs ws : List V} {m x y : MV} {ms xs ys : List MV} {st st' st1 st2 : Store} {Q : VK} {σ σ' : L2.St} {env env' : Env} {is js : List Nat} {i : Nat}
/-- the names' values, but for those at js -/
def EnvX (js : List Nat) (K : PySem.W.Frag) (ρ : List Addr) (H : Hp) (σ : L2.St) (env : Env) : Prop :=
  env.length = σ.length ∧ ∀ (i : Nat) (m : MV), i ∉ js → env[i]? = some (some m) → ∃ v, σ[i]? = some (some v) ∧ Rep K ρ H v m []
theorem EnvR.toX (h : EnvR K ρ H σ env) : EnvX js K ρ H σ env := ⟨h.1, fun i m _ e => h.2 i m e⟩
theorem EnvX.toR (h : EnvX [] K ρ H σ env) : EnvR K ρ H σ env := ⟨h.1, fun i m e => h.2 i m (by simp) e⟩
theorem EnvX.after (A : Aft K ρ al H st' ρ' H') (w : Wr ρ H) (hal : ∀ a ∈ al, ∃ vs, H a = some (.lst vs)) (h : EnvX js K ρ H σ env) : EnvX js K ρ' H' σ env :=
  ⟨h.1, fun i m hj e => by
    obtain ⟨v, e1, r⟩ := h.2 i m hj e
    exact ⟨v, e1, r.after A w hal fun _ z => nomatch z⟩⟩
theorem EnvX.set (h : EnvX (i :: js) K ρ H σ env) (r : Rep K ρ H v m []) : EnvX js K ρ H (σ.set i (some v)) (env.set i (some m)) := by
  refine ⟨by rw [List.length_set, List.length_set]; exact h.1, fun j m' hj e => ?_⟩
  by_cases q : j = i
  · subst q
    have hlt : j < env.length := by
      have := (List.getElem?_eq_some_iff.mp e).1
      rwa [List.length_set] at this
    rw [List.getElem?_set_self hlt] at e
    cases e
    exact ⟨v, List.getElem?_set_self (by rw [← h.1]; exact hlt), r⟩
  · rw [List.getElem?_set_ne (fun z => q z.symm)] at e
    obtain ⟨u, h1, h2⟩ := h.2 j m' (fun z => by
      rcases List.mem_cons.mp z with z | z
      · exact q z
      · exact hj z) e
    exact ⟨u, by rw [List.getElem?_set_ne (fun z => q z.symm)]; exact h1, h2⟩
/-- what a target has left alone -/
structure Left (is : List Nat) (σ σ' : L2.St) : Prop where
  len : σ'.length = σ.length
  out : ∀ j, j ∉ is → σ'[j]? = σ[j]?
theorem Left.refl : Left is σ σ := ⟨rfl, fun _ _ => rfl⟩
theorem Left.set {v : Option V} (h : i ∈ is) : Left is σ (σ.set i v) := ⟨List.length_set, fun j hj => List.getElem?_set_ne (fun z => hj (by rw [← z]; exact h))⟩
theorem Left.trans {σ2 : L2.St} (a : Left is σ σ') (b : Left is σ' σ2) : Left is σ σ2 := ⟨b.len.trans a.len, fun j hj => (b.out j hj).trans (a.out j hj)⟩
theorem Left.wipe (h : Left is σ σ') : wipe σ' is = wipe σ is := by
  apply List.ext_getElem?
  intro j
  by_cases hj : j ∈ is
  · have none_of : ∀ {σ : L2.St} {l : List Nat}, j ∈ l → j < σ.length → (L2.wipe σ l)[j]? = some none := by
      intro σ l
      induction l with
      | nil => intro h; cases h
      | cons k r ih =>
        intro h hlt
        show ((L2.wipe σ r).set k none)[j]? = some none
        by_cases e : k = j
        · subst e
          rw [List.getElem?_set_self (by rw [wipe_length]; exact hlt)]
        · rw [List.getElem?_set_ne e]
          rcases List.mem_cons.mp h with q | q
          · exact absurd q.symm e
          · exact ih q hlt
    by_cases hl : j < σ.length
    · rw [none_of hj hl, none_of hj (by rw [h.len]; exact hl)]
    · rw [List.getElem?_eq_none (by rw [wipe_length, h.len]; exact Nat.le_of_not_lt hl), List.getElem?_eq_none (by rw [wipe_length]; exact Nat.le_of_not_lt hl)]
  · rw [wipe_out hj, wipe_out hj, h.out j hj]
theorem gNms_read {Qs : L2.St → Hp → Prop} {all : List Nat} : ∀ {is : List Nat} {vs : List V} {ms : List MV} {σ : L2.St} {env : Env}, is.length = ms.length → (∀ i ∈ is, i ∈ all) → Reps K ρ H vs ms [] → EnvX is K ρ H σ env →
    (∀ σ', Left all σ σ' → EnvR K ρ H σ' (asgs is ms env) → Qs σ' H) → gNms is vs σ H Qs
  | [], vs, ms, σ, env, hl, _, r, hE, k => by
    cases ms with
    | nil =>
      cases r
      exact ⟨rfl, k σ .refl (by unfold asgs; exact hE.toR)⟩
    | cons _ _ => cases hl
  | i :: is, vs, ms, σ, env, hl, ha, r, hE, k => by
    cases ms with
    | nil => cases hl
    | cons m ms =>
      generalize hf : ([] : List Addr) = f0 at r
      cases r with
      | @cons v _ f vs _ fs h r =>
        obtain ⟨e1, e2⟩ := List.append_eq_nil_iff.mp hf.symm
        subst e1 e2
        refine ⟨v, vs, rfl, ?_⟩
        show gNms is vs (σ.set i (some v)) H Qs
        refine gNms_read (Nat.succ.inj hl) (fun j hj => ha j (List.mem_cons_of_mem _ hj)) r (hE.set h) fun σ' hL hE' => k σ' ((Left.set (ha i List.mem_cons_self)).trans hL) ?_
        unfold asgs
        exact hE'
/-- a value that has come is given to a target -/
theorem asgT_read {Qs : L2.St → Hp → Prop} {t : Tg} (A : Aft K ρ al H st ρ1 H1) (R : Res K al H ρ1 H1 v x fp) (hal : ∀ a ∈ fp, ∃ vs, H1 a = some (.lst vs)) (hE : EnvX (tgIs t) K ρ1 H1 σ env) (e : asgT t x env st = .val env' st2)
    (k : ∀ σ' ρ2, Aft K ρ al H st2 ρ2 H1 → Aft K ρ1 fp H1 st2 ρ2 H1 → Left (tgIs t) σ σ' → EnvR K ρ2 H1 σ' env' → Qs σ' H1) : gT K t v σ H1 Qs := by
  cases t with
  | nm i =>
    obtain ⟨ρ2, A2, B, r2⟩ := R.stored A
    cases e
    have hE2 := hE.after B A.rl.wr hal
    exact k _ ρ2 A2 B (Left.set (by simp [tgIs])) (hE2.set r2).toR
  | nms is =>
    cases x with
    | tup xs =>
      obtain ⟨hb, e⟩ := chk_eq (show chk (decide (xs.length = is.length)) (.val (asgs is (allocs xs st).1 env) (allocs xs st).2) = Out.val env' st2 from e)
      cases e
      have hb := of_decide_eq_true hb
      have hr := R.rep
      generalize hx : MV.tup xs = x0 at hr
      cases hr with
      | @tup a vs _ f h r =>
        cases hx
        have Rs : Ress K al H ρ1 H1 vs xs fp := ⟨r, R.nd, R.new⟩
        obtain ⟨ρ2, A2, B, r2⟩ := Rs.stored A
        have hE2 := hE.after B A.rl.wr hal
        refine ⟨a, vs, rfl, h, by rw [r.length]; exact hb, ?_⟩
        exact gNms_read (all := is) (by rw [← r2.length, r.length]; exact hb.symm) (fun _ z => z) r2 hE2 fun σ' hL hE' => k σ' ρ2 A2 B hL hE'
      | _ => cases hx
    | _ => cases e
theorem Res.fpl (R : Res K al H ρ1 H1 v x fp) : ∀ a ∈ fp, ∃ vs, H1 a = some (.lst vs) := R.rep.fpSome

/-! ### what is walked -/
structure WalkR (K : PySem.W.Frag) (J : L2.It) (lk : Locks) (items : List MV) (ρ : List Addr) (H : Hp) : Prop where
  go : ∀ (ρ' : List Addr) (st' : Store) (H' : Hp), Aft K ρ [] H st' ρ' H' → held lk st' = true → ∀ (i : Nat) (x : MV), items[i]? = some x → J.go i H' ∧ ∀ v H'', J.yld i H' v H'' → Aft K ρ' [] H' st' ρ' H'' ∧ Rep K ρ' H'' v x []
  stop : ∀ (ρ' : List Addr) (st' : Store) (H' : Hp), Aft K ρ [] H st' ρ' H' → held lk st' = true → J.stop items.length H'
def tI (K : PySem.W.Frag) (Φ : Phi) (it : It) : TI := fun σ H R => ∃ (env : Env) (ρ : List Addr) (st : Store) (lk : Locks) (items : List MV) (st' : Store), EnvR K ρ H σ env ∧ Rl K ρ st H ∧ evi Φ it env st = .val (lk, items) st' ∧
  ∀ (J : L2.It) (ρ' : List Addr) (H' : Hp), Aft K ρ [] H st' ρ' H' → WalkR K J lk items ρ' H' → R J H'
theorem allocs_id : ∀ {ms : List MV} {st : Store}, noLsts ms = true → allocs ms st = (ms, st) := by
  have one : ∀ (n : Nat) (m : MV), sizeOf m < n → ∀ st, noLst m = true → alloc m st = (m, st) := by
    intro n
    induction n with
    | zero => intro m h; omega
    | succ n ih =>
      have many : ∀ (ms : List MV), sizeOf ms < n + 1 → ∀ st, noLsts ms = true → allocs ms st = (ms, st) := by
        intro ms
        induction ms with
        | nil => intro _ st _; simp [allocs]
        | cons m ms ih2 =>
          intro hs st h
          simp only [noLsts, Bool.and_eq_true] at h
          have h1 : sizeOf m < n := by simp at hs; omega
          have h2 : sizeOf ms < n + 1 := by simp at hs; omega
          simp only [allocs]
          rw [ih m h1 st h.1, ih2 h2 st h.2]
      intro m hs st h
      cases m with
      | tup xs =>
        simp only [noLst] at h
        simp only [alloc]
        rw [many xs (by simp at hs; omega) st h]
      | lst xs => simp [noLst] at h
      | _ => simp [alloc]
  intro ms
  induction ms with
  | nil => intro st _; simp [allocs]
  | cons m ms ih =>
    intro st h
    simp only [noLsts, Bool.and_eq_true] at h
    simp only [allocs]
    rw [one _ m (Nat.lt_succ_self _) st h.1, ih h.2]
theorem noLst_of_rep : ∀ {m : MV} {v : V}, Rep K ρ H v m [] → noLst m = true := by
  have go : ∀ (n : Nat) (m : MV), sizeOf m < n → ∀ (v : V) (f : List Addr), Rep K ρ H v m f → f = [] → noLst m = true := by
    intro n
    induction n with
    | zero => intro m h; omega
    | succ n ih =>
      have many : ∀ (ms : List MV), sizeOf ms < n + 1 → ∀ (vs : List V) (f : List Addr), Reps K ρ H vs ms f → f = [] → noLsts ms = true := by
        intro ms
        induction ms with
        | nil => intro _ _ _ _ _; simp [noLsts]
        | cons m ms ih2 =>
          intro hs vs f r e
          cases r with
          | cons h r =>
            obtain ⟨e1, e2⟩ := List.append_eq_nil_iff.mp e
            simp only [noLsts, Bool.and_eq_true]
            exact ⟨ih m (by simp at hs; omega) _ _ h e1, ih2 (by simp at hs; omega) _ _ r e2⟩
      intro m hs v f r e
      cases r with
      | tup h r =>
        simp only [noLst]
        exact many _ (by simp at hs; omega) _ _ r e
      | lst h r => cases e
      | _ => simp [noLst]
  exact fun {m v} r => go _ m (Nat.lt_succ_self _) v [] r rfl
theorem noLsts_of_reps : ∀ {ms : List MV} {vs : List V} {f : List Addr}, Reps K ρ H vs ms f → f = [] → noLsts ms = true
  | [], _, _, _, _ => by simp [noLsts]
  | m :: ms, _, _, r, e => by
    cases r with
    | cons h r =>
      obtain ⟨e1, e2⟩ := List.append_eq_nil_iff.mp e
      subst e1
      simp only [noLsts, Bool.and_eq_true]
      exact ⟨noLst_of_rep h, noLsts_of_reps r e2⟩
/-- a sequence stays what it is while its cell is held -/
theorem stab (R : Rl K ρ1 st H1) (r : Rep K ρ1 H1 v x fp) (nd : fp.Nodup) (fr : ∀ a ∈ fp, a ∉ ρ1) (h : seqOf st x = some xs) :
    ∃ a vs f, v = .ref a ∧ Reps K ρ1 H1 vs xs f ∧ List.Sublist f fp ∧ ((isTup x = true ∧ SqT K H1 a vs) ∨ (isTup x = false ∧ SqL K H1 a vs)) ∧
      ∀ (ρ2 : List Addr) (items : List MV) (st2 : Store), Aft K ρ1 f H1 st2 ρ2 H1 → Reps K ρ2 H1 vs items [] → (noLsts xs = true → items = xs) →
        ∀ (ρ' : List Addr) (st' : Store) (H' : Hp), Aft K ρ2 [] H1 st' ρ' H' → held (lockOf st x) st' = true → ∃ vs', ((isTup x = true ∧ SqT K H' a vs') ∨ (isTup x = false ∧ SqL K H' a vs')) ∧ Reps K ρ' H' vs' items [] := by
  cases r with
  | @lst a vs _ f h1 rr =>
    have e : _ = xs := Option.some.inj h
    subst e
    obtain ⟨n1, n2⟩ := List.nodup_cons.mp nd
    refine ⟨a, vs, f, rfl, rr, List.sublist_cons_self _ _, .inr ⟨rfl, SqL.of h1⟩, fun ρ2 items st2 B ri _ ρ' st' H' C _ => ⟨vs, .inr ⟨rfl, ?_⟩, ri.after C B.rl.wr noAl fun _ z => nomatch z⟩⟩
    have ha : a ∉ ρ2 := B.notNew h1 (fr a List.mem_cons_self) n1
    exact SqL.of (C.fr a _ h1 ha (fun z => nomatch z))
  | @ref i a hi =>
    obtain ⟨c, hc, q⟩ := R.at_ hi
    simp only [seqOf, hc] at h
    cases q with
    | dct _ _ => cases h
    | obj _ _ _ => cases h
    | @lst vs ms h1 rr =>
      have e : ms = xs := Option.some.inj h
      subst e
      refine ⟨a, vs, [], rfl, rr, List.nil_sublist _, .inr ⟨rfl, SqL.of h1⟩, fun ρ2 items st2 B ri hit ρ' st' H' C hd => ?_⟩
      have eit := hit (noLsts_of_reps rr rfl)
      subst eit
      have hd2 : held [(i, items)] st' = true := by
        have e : lockOf st (.ref i) = [(i, items)] := by simp only [lockOf, hc]
        rw [← e]
        exact hd
      simp only [held, List.all_cons, List.all_nil, Bool.and_true] at hd2
      obtain ⟨c2, hc2, q2⟩ := C.rl.at_ (C.ix i a (B.ix i a hi))
      rw [hc2] at hd2
      have e2 := Cell.beq_eq hd2
      subst e2
      cases q2 with
      | @lst vs' _ h2 r2 => exact ⟨vs', .inr ⟨rfl, SqL.of h2⟩, r2⟩
  | tup h1 rr =>
    rename_i a vs ms
    have e : _ = xs := Option.some.inj h
    subst e
    exact ⟨a, vs, fp, rfl, rr, List.Sublist.refl _, .inl ⟨rfl, h1⟩, fun ρ2 items st2 B ri _ ρ' st' H' C _ => ⟨vs, .inl ⟨rfl, (C.keeps B.rl.wr noAl).sqT h1⟩, ri.after C B.rl.wr noAl fun _ z => nomatch z⟩⟩
  | rol h1 =>
    rename_i a ns
    have e : _ = xs := Option.some.inj h
    subst e
    exact ⟨a, ns.map V.int, [], rfl, reps_ints, List.nil_sublist _, .inr ⟨rfl, h1.seq⟩, fun ρ2 items st2 B ri _ ρ' st' H' C _ => ⟨_, .inr ⟨rfl, ((C.keeps B.rl.wr noAl).rol h1).seq⟩, ri.after C B.rl.wr noAl fun _ z => nomatch z⟩⟩
  | xts h1 hz =>
    rename_i a zs
    have e : _ = xs := Option.some.inj h
    subst e
    exact ⟨a, zs.map V.str, [], rfl, reps_strs hz, List.nil_sublist _, .inl ⟨rfl, h1.tup⟩, fun ρ2 items st2 B ri _ ρ' st' H' C _ => ⟨_, .inl ⟨rfl, ((C.keeps B.rl.wr noAl).sqX h1).tup⟩, ri.after C B.rl.wr noAl fun _ z => nomatch z⟩⟩
  | non => cases h
  | bl _ => cases h
  | int _ => cases h
  | str _ _ => cases h
theorem walk_lst {a : Addr} {lk : Locks} {items : List MV} (h : ∀ (ρ' : List Addr) (st' : Store) (H' : Hp), Aft K ρ [] H st' ρ' H' → held lk st' = true → ∃ vs', SqL K H' a vs' ∧ Reps K ρ' H' vs' items []) : WalkR K (Itl K a) lk items ρ H where
  go := fun ρ' st' H' A hd i x hx => by
    obtain ⟨vs', h1, h2⟩ := h ρ' st' H' A hd
    obtain ⟨v, f, hv, rv, hf⟩ := h2.get hx
    have ef := List.sublist_nil.mp hf
    subst ef
    refine ⟨⟨vs', v, h1, hv⟩, fun u H'' ⟨e1, e2⟩ => ?_⟩
    subst e1
    have e3 := e2 vs' h1
    rw [hv] at e3
    cases e3
    exact ⟨Aft.refl A.rl, rv⟩
  stop := fun ρ' st' H' A hd => by
    obtain ⟨vs', h1, h2⟩ := h ρ' st' H' A hd
    exact ⟨vs', h1, by rw [h2.length]; exact Nat.le_refl _⟩
theorem walk_tup {a : Addr} {lk : Locks} {items : List MV} (h : ∀ (ρ' : List Addr) (st' : Store) (H' : Hp), Aft K ρ [] H st' ρ' H' → held lk st' = true → ∃ vs', SqT K H' a vs' ∧ Reps K ρ' H' vs' items []) : WalkR K (Itt K a) lk items ρ H where
  go := fun ρ' st' H' A hd i x hx => by
    obtain ⟨vs', h1, h2⟩ := h ρ' st' H' A hd
    obtain ⟨v, f, hv, rv, hf⟩ := h2.get hx
    have ef := List.sublist_nil.mp hf
    subst ef
    refine ⟨⟨vs', v, h1, hv⟩, fun u H'' ⟨e1, e2⟩ => ?_⟩
    subst e1
    have e3 := e2 vs' h1
    rw [hv] at e3
    cases e3
    exact ⟨Aft.refl A.rl, rv⟩
  stop := fun ρ' st' H' A hd => by
    obtain ⟨vs', h1, h2⟩ := h ρ' st' H' A hd
    exact ⟨vs', h1, by rw [h2.length]; exact Nat.le_refl _⟩
theorem enum_get : ∀ {xs : List MV} {n : Int} {i : Nat} {x : MV}, (enumFrom n xs)[i]? = some x → ∃ y, xs[i]? = some y ∧ x = .tup [.int (n + (i : Nat)), y]
  | [], _, _, _, h => by simp [enumFrom] at h
  | y :: ys, n, 0, x, h => by
    simp [enumFrom] at h
    exact ⟨y, rfl, by rw [← h]; simp⟩
  | y :: ys, n, i + 1, x, h => by
    have h2 : (enumFrom (n + 1) ys)[i]? = some x := by simpa [enumFrom] using h
    obtain ⟨z, h3, h4⟩ := enum_get h2
    refine ⟨z, by simpa using h3, ?_⟩
    rw [h4]
    congr 3
    omega
theorem enum_len : ∀ (xs : List MV) (n : Int), (enumFrom n xs).length = xs.length
  | [], _ => rfl
  | x :: xs, n => by
    show _ + 1 = _ + 1
    rw [enum_len xs (n + 1)]
/-- a new pair -/
theorem pair_new {a b : MV} {va vb : V} {T : Addr} (R : Rl K ρ st H) (hT : H T = none) (ra : Rep K ρ H va a []) (rb : Rep K ρ H vb b []) : Aft K ρ [] H st ρ (upd H T (.tup [va, vb])) ∧ Rep K ρ (upd H T (.tup [va, vb])) (.ref T) (.tup [a, b]) [] :=
  ⟨(Aft.refl R).upd hT, .tup (SqT.of upd_same) (.cons (f := []) (ra.upd hT) (.cons (f := []) (fs := []) (rb.upd hT) .nil))⟩
theorem walk_enumL {a : Addr} {lk : Locks} (h : ∀ (ρ' : List Addr) (st' : Store) (H' : Hp), Aft K ρ [] H st' ρ' H' → held lk st' = true → ∃ vs', SqL K H' a vs' ∧ Reps K ρ' H' vs' xs []) : WalkR K (Ite K a) lk (enumFrom 0 xs) ρ H where
  go := fun ρ' st' H' A hd i x hx => by
    obtain ⟨y, hy, rfl⟩ := enum_get hx
    obtain ⟨vs', h1, h2⟩ := h ρ' st' H' A hd
    obtain ⟨v, f, hv, rv, hf⟩ := h2.get hy
    have ef := List.sublist_nil.mp hf
    subst ef
    refine ⟨⟨vs', v, h1, hv⟩, fun u H'' ⟨T, z, e1, e2, e3, e4⟩ => ?_⟩
    subst e1 e3
    have e5 := e4 vs' h1
    rw [hv] at e5
    cases e5
    have ei : (0 : Int) + (i : Nat) = (i : Nat) := by omega
    rw [ei]
    exact pair_new A.rl e2 (.int _) rv
  stop := fun ρ' st' H' A hd => by
    obtain ⟨vs', h1, h2⟩ := h ρ' st' H' A hd
    exact ⟨vs', h1, by rw [enum_len, h2.length]; exact Nat.le_refl _⟩
theorem walk_enumT {a : Addr} {lk : Locks} (h : ∀ (ρ' : List Addr) (st' : Store) (H' : Hp), Aft K ρ [] H st' ρ' H' → held lk st' = true → ∃ vs', SqT K H' a vs' ∧ Reps K ρ' H' vs' xs []) : WalkR K (ItqT K a) lk (enumFrom 0 xs) ρ H where
  go := fun ρ' st' H' A hd i x hx => by
    obtain ⟨y, hy, rfl⟩ := enum_get hx
    obtain ⟨vs', h1, h2⟩ := h ρ' st' H' A hd
    obtain ⟨v, f, hv, rv, hf⟩ := h2.get hy
    have ef := List.sublist_nil.mp hf
    subst ef
    refine ⟨⟨vs', v, h1, hv⟩, fun u H'' ⟨T, z, e1, e2, e3, e4⟩ => ?_⟩
    subst e1 e3
    have e5 := e4 vs' h1
    rw [hv] at e5
    cases e5
    have ei : (0 : Int) + (i : Nat) = (i : Nat) := by omega
    rw [ei]
    exact pair_new A.rl e2 (.int _) rv
  stop := fun ρ' st' H' A hd => by
    obtain ⟨vs', h1, h2⟩ := h ρ' st' H' A hd
    exact ⟨vs', h1, by rw [enum_len, h2.length]; exact Nat.le_refl _⟩
theorem pair_get : ∀ {xs ys : List MV} {i : Nat} {x : MV}, (pairUp xs ys)[i]? = some x → ∃ a b, xs[i]? = some a ∧ ys[i]? = some b ∧ x = .tup [a, b]
  | [], _, _, _, h => by simp [pairUp] at h
  | _ :: _, [], _, _, h => by simp [pairUp] at h
  | a :: xs, b :: ys, 0, x, h => by
    simp [pairUp] at h
    exact ⟨a, b, rfl, rfl, h.symm⟩
  | a :: xs, b :: ys, i + 1, x, h => by
    have h2 : (pairUp xs ys)[i]? = some x := by simpa [pairUp] using h
    obtain ⟨c, d, h3, h4, h5⟩ := pair_get h2
    exact ⟨c, d, by simpa using h3, by simpa using h4, h5⟩
theorem pair_len : ∀ (xs ys : List MV), xs.length ≤ (pairUp xs ys).length ∨ ys.length ≤ (pairUp xs ys).length
  | [], _ => .inl (Nat.zero_le _)
  | _ :: _, [] => .inr (Nat.zero_le _)
  | a :: xs, b :: ys => by
    rcases pair_len xs ys with h | h
    · exact .inl (Nat.succ_le_succ h)
    · exact .inr (Nat.succ_le_succ h)
theorem held_app {l1 l2 : Locks} (h : held (l1 ++ l2) st = true) : held l1 st = true ∧ held l2 st = true := by
  unfold held at h ⊢
  rw [List.all_append, Bool.and_eq_true] at h
  exact h
theorem walk_zipL {a b : Addr} {l1 l2 : Locks} (h : ∀ (ρ' : List Addr) (st' : Store) (H' : Hp), Aft K ρ [] H st' ρ' H' → held l1 st' = true → ∃ vs', SqL K H' a vs' ∧ Reps K ρ' H' vs' xs [])
    (g : ∀ (ρ' : List Addr) (st' : Store) (H' : Hp), Aft K ρ [] H st' ρ' H' → held l2 st' = true → ∃ vs', SqL K H' b vs' ∧ Reps K ρ' H' vs' ys []) : WalkR K (Itz K a b) (l1 ++ l2) (pairUp xs ys) ρ H where
  go := fun ρ' st' H' A hd i x hx => by
    obtain ⟨c, d, hc, hdd, rfl⟩ := pair_get hx
    obtain ⟨d1, d2⟩ := held_app hd
    obtain ⟨vs', h1, h2⟩ := h ρ' st' H' A d1
    obtain ⟨ws', g1, g2⟩ := g ρ' st' H' A d2
    obtain ⟨v, f, hv, rv, hf⟩ := h2.get hc
    obtain ⟨w, f2, hw, rw', hf2⟩ := g2.get hdd
    have ef := List.sublist_nil.mp hf
    have ef2 := List.sublist_nil.mp hf2
    subst ef ef2
    refine ⟨⟨vs', ws', v, w, h1, g1, hv, hw⟩, fun u H'' ⟨T, z1, z2, e1, e2, e3, e4, e5⟩ => ?_⟩
    subst e1 e3
    have e6 := e4 vs' h1
    have e7 := e5 ws' g1
    rw [hv] at e6
    rw [hw] at e7
    cases e6
    cases e7
    exact pair_new A.rl e2 rv rw'
  stop := fun ρ' st' H' A hd => by
    obtain ⟨d1, d2⟩ := held_app hd
    obtain ⟨vs', h1, h2⟩ := h ρ' st' H' A d1
    obtain ⟨ws', g1, g2⟩ := g ρ' st' H' A d2
    refine ⟨vs', ws', h1, g1, ?_⟩
    rw [h2.length, g2.length]
    exact pair_len xs ys
theorem walk_zipT {a b : Addr} {l1 l2 : Locks} (h : ∀ (ρ' : List Addr) (st' : Store) (H' : Hp), Aft K ρ [] H st' ρ' H' → held l1 st' = true → ∃ vs', SqT K H' a vs' ∧ Reps K ρ' H' vs' xs [])
    (g : ∀ (ρ' : List Addr) (st' : Store) (H' : Hp), Aft K ρ [] H st' ρ' H' → held l2 st' = true → ∃ vs', SqT K H' b vs' ∧ Reps K ρ' H' vs' ys []) : WalkR K (RZ.ItzT K a b) (l1 ++ l2) (pairUp xs ys) ρ H where
  go := fun ρ' st' H' A hd i x hx => by
    obtain ⟨c, d, hc, hdd, rfl⟩ := pair_get hx
    obtain ⟨d1, d2⟩ := held_app hd
    obtain ⟨vs', h1, h2⟩ := h ρ' st' H' A d1
    obtain ⟨ws', g1, g2⟩ := g ρ' st' H' A d2
    obtain ⟨v, f, hv, rv, hf⟩ := h2.get hc
    obtain ⟨w, f2, hw, rw', hf2⟩ := g2.get hdd
    have ef := List.sublist_nil.mp hf
    have ef2 := List.sublist_nil.mp hf2
    subst ef ef2
    refine ⟨⟨vs', ws', v, w, h1, g1, hv, hw⟩, fun u H'' ⟨T, z1, z2, e1, e2, e3, e4, e5⟩ => ?_⟩
    subst e1 e3
    have e6 := e4 vs' h1
    have e7 := e5 ws' g1
    rw [hv] at e6
    rw [hw] at e7
    cases e6
    cases e7
    exact pair_new A.rl e2 rv rw'
  stop := fun ρ' st' H' A hd => by
    obtain ⟨d1, d2⟩ := held_app hd
    obtain ⟨vs', h1, h2⟩ := h ρ' st' H' A d1
    obtain ⟨ws', g1, g2⟩ := g ρ' st' H' A d2
    refine ⟨vs', ws', h1, g1, ?_⟩
    rw [h2.length, g2.length]
    exact pair_len xs ys
theorem range_get {a b : Int} {i : Nat} {x : MV} (h : (range a b)[i]? = some x) : i < (b - a).toNat ∧ x = .int (a + (i : Nat)) := by
  unfold range at h
  rw [List.getElem?_map] at h
  by_cases hi : i < (b - a).toNat
  · rw [List.getElem?_range hi] at h
    cases h
    exact ⟨hi, rfl⟩
  · rw [List.getElem?_eq_none (by rw [List.length_range]; exact Nat.le_of_not_lt hi)] at h
    cases h
theorem range_len (a b : Int) : (range a b).length = (b - a).toNat := by
  unfold range
  rw [List.length_map, List.length_range]
theorem walk_range (a b : Int) {lk : Locks} : WalkR K (Itr a (b - a).toNat) lk (range a b) ρ H where
  go := fun ρ' st' H' A hd i x hx => by
    obtain ⟨h1, rfl⟩ := range_get hx
    refine ⟨h1, fun u H'' ⟨e1, e2⟩ => ?_⟩
    subst e1 e2
    exact ⟨Aft.refl A.rl, .int _⟩
  stop := fun ρ' st' H' A hd => by
    show (b - a).toNat ≤ _
    rw [range_len]
    exact Nat.le_refl _
end
section
variable {X : Cx} {Φ : Phi} {a b : Expr} {pa pb : E} {pos p : Pos}
theorem i_ex {tg : Expr} (ha : PE X a (tE X.K Φ pa)) : PI X tg a (tI X.K Φ (.ex pa)) :=
  L2.PI.qof (pi_seq ha) fun σ H Q ⟨env, ρ, st, lk, items, st', hE, R, e, k⟩ => by
    obtain ⟨x, st1, e1, e⟩ := Out.bind_eq e
    cases hs : seqOf st1 x with
    | none => rw [hs] at e; cases e
    | some xs =>
      rw [hs] at e
      cases e
      refine tE_one hE R e1 fun v ρ1 fp H1 A _ r => ?_
      obtain ⟨a, vs, f, rfl, rr, hf, hq, hstab⟩ := stab A.rl r.rep r.nd (fun a ha => (r.new a ha).2) hs
      have Rs : Ress X.K [] H ρ1 H1 vs xs f := ⟨rr, r.nd.sublist hf, fun a ha => r.new a (hf.subset ha)⟩
      obtain ⟨ρ2, A2, B, ri⟩ := Rs.stored A
      have hh := hstab ρ2 _ _ B ri (fun h => by rw [allocs_id h])
      refine ⟨a, vs, rfl, ?_⟩
      rcases hq with ⟨ht, hq⟩ | ⟨ht, hq⟩
      · refine .inr ⟨hq, k _ ρ2 H1 A2 (walk_tup fun ρ' st' H' C hd => ?_)⟩
        obtain ⟨vs', h1, h2⟩ := hh ρ' st' H' C hd
        rcases h1 with ⟨_, h1⟩ | ⟨z, _⟩
        · exact ⟨vs', h1, h2⟩
        · rw [ht] at z; cases z
      · refine .inl ⟨hq, k _ ρ2 H1 A2 (walk_lst fun ρ' st' H' C hd => ?_)⟩
        obtain ⟨vs', h1, h2⟩ := hh ρ' st' H' C hd
        rcases h1 with ⟨z, _⟩ | ⟨_, h1⟩
        · rw [ht] at z; cases z
        · exact ⟨vs', h1, h2⟩
theorem i_rng2 {tg : Expr} (hg : Gl X "range") (hm : X.mg "range" = none) (ha : PE X a (tE X.K Φ pa)) (hb : PE X b (tE X.K Φ pb)) (sa : ∀ r, starEach (a :: r) X.env = (false, eval a X.env) :: starEach r X.env) (sb : ∀ r, starEach (b :: r) X.env = (false, eval b X.env) :: starEach r X.env) :
    PI X tg (.Call (.Name "range" p) [a, b] [] pos) (tI X.K Φ (.rng pa pb)) := by
  have hs : PA X [a, b] (tEs X.K Φ (.cons pa (.cons pb .nil))) := s_cons ha (s_cons hb s_nil (sb _)) (sa _)
  refine L2.PI.qof (pi_range2 hg hm hs (by rw [sa, sb]; rfl) (by rw [sb]; rfl)) fun σ H Q ⟨env, ρ, st, lk, items, st', hE, R, e, k⟩ => ?_
  obtain ⟨x, st1, e1, e⟩ := Out.bind_eq e
  obtain ⟨y, st2, e2, e⟩ := Out.bind_eq e
  have hx : ∃ i j, x = .int i ∧ y = .int j := by cases x <;> cases y <;> first | exact ⟨_, _, rfl, rfl⟩ | cases e
  obtain ⟨i, j, rfl, rfl⟩ := hx
  obtain ⟨hb, e⟩ := chk_eq (show chk (decide (-(2 ^ 62) ≤ i) && (decide (i < 2 ^ 62) && (decide (-(2 ^ 62) ≤ j) && decide (j < 2 ^ 62)))) (.val ([], range i j) st2) = Out.val (lk, items) st' from e)
  cases e
  simp only [Bool.and_eq_true, decide_eq_true_eq] at hb
  refine ⟨env, ρ, st, [.int i, .int j], st', hE, R, by simp [evs, e1, e2], fun vs ρ1 f H1 A r => ⟨i, j, two_int r, hb, k _ ρ1 H1 A (walk_range i j)⟩⟩
theorem i_rng1 {tg : Expr} (hg : Gl X "range") (hm : X.mg "range" = none) (hb : PE X b (tE X.K Φ pb)) (sb : ∀ r, starEach (b :: r) X.env = (false, eval b X.env) :: starEach r X.env) :
    PI X tg (.Call (.Name "range" p) [b] [] pos) (tI X.K Φ (.rng (.cst (.int 0)) pb)) := by
  have hs : PA X [b] (tEs X.K Φ (.cons pb .nil)) := s_cons hb s_nil (sb _)
  refine L2.PI.qof (pi_range1 hg hm hs (by rw [sb]; rfl)) fun σ H Q ⟨env, ρ, st, lk, items, st', hE, R, e, k⟩ => ?_
  obtain ⟨y, st2, e2, e⟩ := Out.bind_eq e
  have hx : ∃ j, y = .int j := by cases y <;> first | exact ⟨_, rfl⟩ | cases e
  obtain ⟨j, rfl⟩ := hx
  obtain ⟨hb, e⟩ := chk_eq (show chk (decide (-(2 ^ 62) ≤ (0 : Int)) && (decide ((0 : Int) < 2 ^ 62) && (decide (-(2 ^ 62) ≤ j) && decide (j < 2 ^ 62)))) (.val ([], range 0 j) st2) = Out.val (lk, items) st' from e)
  cases e
  simp only [Bool.and_eq_true, decide_eq_true_eq] at hb
  refine ⟨env, ρ, st, [.int j], st', hE, R, by simp [evs, e2], fun vs ρ1 f H1 A r => ⟨j, one_int r, hb.2.2.1, hb.2.2.2, ?_⟩⟩
  have w := walk_range (K := X.K) (ρ := ρ1) (H := H1) (lk := []) 0 j
  rw [Int.sub_zero] at w
  exact k _ ρ1 H1 A w
theorem i_enum {elts : List Expr} {kk : Nat} {tpos : Pos} (hg : Gl X "enumerate") (hm : X.mg "enumerate" = none) (hb : PE X b (tE X.K Φ pb)) (sb : ∀ r, starEach (b :: r) X.env = (false, eval b X.env) :: starEach r X.env) :
    PI X (.Tuple elts kk tpos) (.Call (.Name "enumerate" p) [b] [] pos) (tI X.K Φ (.enum pb)) := by
  have hs : PA X [b] (tEs X.K Φ (.cons pb .nil)) := s_cons hb s_nil (sb _)
  refine L2.PI.qof (pi_enumA hg hm hs (by rw [sb]; rfl)) fun σ H Q ⟨env, ρ, st, lk, items, st', hE, R, e, k⟩ => ?_
  obtain ⟨x, st1, e1, e⟩ := Out.bind_eq e
  cases hsq : seqOf st1 x with
  | none => rw [hsq] at e; cases e
  | some xs =>
    rw [hsq] at e
    obtain ⟨hn, e⟩ := chk_eq e
    cases e
    refine ⟨env, ρ, st, [x], st', hE, R, by simp [evs, e1], fun vs0 ρ1 fp H1 A r0 => ?_⟩
    obtain ⟨v, rfl, r⟩ := r0.rep.one
    obtain ⟨a, vs, f, rfl, rr, hf, hq, hstab⟩ := stab A.rl r r0.nd (fun a ha => (r0.new a ha).2) hsq
    have ef := noLsts_nil rr hn
    subst ef
    have hh := hstab ρ1 _ _ (Aft.refl A.rl) rr (fun _ => rfl)
    refine ⟨a, vs, rfl, ?_⟩
    rcases hq with ⟨ht, hq⟩ | ⟨ht, hq⟩
    · refine .inr ⟨hq, k _ ρ1 H1 A (walk_enumT fun ρ' st' H' C hd => ?_)⟩
      obtain ⟨vs', h1, h2⟩ := hh ρ' st' H' C hd
      rcases h1 with ⟨_, h1⟩ | ⟨z, _⟩
      · exact ⟨vs', h1, h2⟩
      · rw [ht] at z; cases z
    · refine .inl ⟨hq, k _ ρ1 H1 A (walk_enumL fun ρ' st' H' C hd => ?_)⟩
      obtain ⟨vs', h1, h2⟩ := hh ρ' st' H' C hd
      rcases h1 with ⟨z, _⟩ | ⟨_, h1⟩
      · rw [ht] at z; cases z
      · exact ⟨vs', h1, h2⟩
theorem i_zip {elts : List Expr} {kk : Nat} {tpos : Pos} (hg : Gl X "zip") (hm : X.mg "zip" = none) (ha : PE X a (tE X.K Φ pa)) (hb : PE X b (tE X.K Φ pb)) (sa : ∀ r, starEach (a :: r) X.env = (false, eval a X.env) :: starEach r X.env) (sb : ∀ r, starEach (b :: r) X.env = (false, eval b X.env) :: starEach r X.env) :
    PI X (.Tuple elts kk tpos) (.Call (.Name "zip" p) [a, b] [] pos) (tI X.K Φ (.zip pa pb)) := by
  have hs : PA X [a, b] (tEs X.K Φ (.cons pa (.cons pb .nil))) := s_cons ha (s_cons hb s_nil (sb _)) (sa _)
  refine L2.PI.qof (RZ.pi_zipA hg hm hs (sa _) (by rw [sb]; rfl)) fun σ H Q ⟨env, ρ, st, lk, items, st', hE, R, e, k⟩ => ?_
  obtain ⟨x, st1, e1, e⟩ := Out.bind_eq e
  obtain ⟨y, st2, e2, e⟩ := Out.bind_eq e
  obtain ⟨ht, e⟩ := chk_eq e
  cases hx : seqOf st2 x with
  | none => rw [hx] at e; cases e
  | some xs =>
    cases hy : seqOf st2 y with
    | none => rw [hx, hy] at e; cases e
    | some ys =>
      rw [hx, hy] at e
      obtain ⟨hn, e⟩ := chk_eq e
      cases e
      simp only [Bool.and_eq_true] at hn
      refine ⟨env, ρ, st, [x, y], st', hE, R, by simp [evs, e1, e2], fun vs0 ρ1 fp H1 A r0 => ?_⟩
      obtain ⟨v, w, f1, f2, rfl, ef, r1, r2⟩ := r0.rep.two
      have n1 : f1.Nodup := (List.nodup_append.mp (ef ▸ r0.nd)).1
      have n2 : f2.Nodup := (List.nodup_append.mp (ef ▸ r0.nd)).2.1
      obtain ⟨a, vs, f, rfl, rr, hf, hq, hstab⟩ := stab A.rl r1 n1 (fun a ha => (r0.new a (by rw [ef]; exact List.mem_append_left _ ha)).2) hx
      obtain ⟨b, ws, g, rfl, sr, hg, hq2, hstab2⟩ := stab A.rl r2 n2 (fun a ha => (r0.new a (by rw [ef]; exact List.mem_append_right _ ha)).2) hy
      have e3 := noLsts_nil rr hn.1
      have e4 := noLsts_nil sr hn.2
      subst e3 e4
      have hh := hstab ρ1 _ _ (Aft.refl A.rl) rr (fun _ => rfl)
      have hh2 := hstab2 ρ1 _ _ (Aft.refl A.rl) sr (fun _ => rfl)
      have ht2 : isTup x = isTup y := eq_of_beq ht
      refine ⟨a, b, vs, ws, rfl, ?_⟩
      rcases hq with ⟨t1, hq⟩ | ⟨t1, hq⟩
      · have t2 : isTup y = true := ht2 ▸ t1
        rcases hq2 with ⟨_, hq2⟩ | ⟨z, _⟩
        · refine .inr ⟨hq, hq2, k _ ρ1 H1 A (walk_zipT (fun ρ' st' H' C hd => ?_) fun ρ' st' H' C hd => ?_)⟩
          · obtain ⟨vs', h1, h2⟩ := hh ρ' st' H' C hd
            rcases h1 with ⟨_, h1⟩ | ⟨z, _⟩
            · exact ⟨vs', h1, h2⟩
            · rw [t1] at z; cases z
          · obtain ⟨vs', h1, h2⟩ := hh2 ρ' st' H' C hd
            rcases h1 with ⟨_, h1⟩ | ⟨z, _⟩
            · exact ⟨vs', h1, h2⟩
            · rw [t2] at z; cases z
        · rw [t2] at z; cases z
      · have t2 : isTup y = false := ht2 ▸ t1
        rcases hq2 with ⟨z, _⟩ | ⟨_, hq2⟩
        · rw [t2] at z; cases z
        · refine .inl ⟨hq, hq2, k _ ρ1 H1 A (walk_zipL (fun ρ' st' H' C hd => ?_) fun ρ' st' H' C hd => ?_)⟩
          · obtain ⟨vs', h1, h2⟩ := hh ρ' st' H' C hd
            rcases h1 with ⟨z, _⟩ | ⟨_, h1⟩
            · rw [t1] at z; cases z
            · exact ⟨vs', h1, h2⟩
          · obtain ⟨vs', h1, h2⟩ := hh2 ρ' st' H' C hd
            rcases h1 with ⟨z, _⟩ | ⟨_, h1⟩
            · rw [t2] at z; cases z
            · exact ⟨vs', h1, h2⟩
end
end QR

set_option Elab.async false
set_option linter.all false
set_option maxRecDepth 100000
set_option maxHeartbeats 1000000
/-! QSoundD: comprehensions, statements. -/
namespace QR
open PySem PySem.Spec PyProof.Rows L2
section
variable {K : PySem.W.Frag} {Φ : Phi} {ρ ρ' ρ1 ρ2 al fp f g : List Addr} {H H' H1 H2 : Hp} {v w : V} {vs ws : List V} {m x y : MV} {ms xs ys : List MV} {st st' st1 st2 : Store} {Q : VK} {σ σ' : L2.St} {env env' : Env} {is js : List Nat} {i : Nat} {pa pb : E} {D : Addr} {acc acc2 : List V}
/-- a list that is being made is written -/
theorem Aft.touch (A : Aft K ρ al H st' ρ' H') (h0 : H D = Option.none ∨ D ∈ al) (hD : H' D = some (.lst acc)) (hr : D ∉ ρ') : Aft K ρ al H st' ρ' (L2.upd H' D (.lst acc2)) := by
  have hk : Keeps H' (L2.upd H' D (.lst acc2)) := ⟨fun b zs q => by
      have ne : b ≠ D := fun z => by rw [z, hD] at q; cases q
      rw [upd_ne ne]; exact q, fun b o u q => by
      have ne : b ≠ D := fun z => by rw [z, hD] at q; cases q
      rw [upd_ne ne]; exact q⟩
  refine ⟨A.pre, fun b o h h1 h2 => ?_, A.rl.len, A.rl.nd, fun i b c e1 e2 => (A.rl.cell i b c e1 e2).move hk (fun _ _ q => q) fun o q => ?_⟩
  · have ne : b ≠ D := fun z => by
      rcases h0 with h0 | h0
      · rw [z, h0] at h; cases h
      · exact h2 (by rw [z]; exact h0)
    rw [upd_ne ne]
    exact A.fr b o h h1 h2
  · have ne : b ≠ D := fun z => hr (by rw [← z]; exact List.mem_of_getElem? e1)
    rw [upd_ne ne]
    exact q
theorem Reps.touch (hD : H D = some (.lst acc)) (r : Reps K ρ H vs ms fp) (h : D ∉ fp) : Reps K ρ (L2.upd H D (.lst acc2)) vs ms fp := by
  have hk : Keeps H (L2.upd H D (.lst acc2)) := ⟨fun b zs q => by
      have ne : b ≠ D := fun z => by rw [z, hD] at q; cases q
      rw [upd_ne ne]; exact q, fun b o u q => by
      have ne : b ≠ D := fun z => by rw [z, hD] at q; cases q
      rw [upd_ne ne]; exact q⟩
  refine r.move hk (fun _ _ q => q) fun a ha zs q => ?_
  have ne : a ≠ D := fun z => h (by rw [← z]; exact ha)
  rw [upd_ne ne]
  exact q
theorem EnvR.touch (hD : H D = some (.lst acc)) (h : EnvR K ρ H σ env) : EnvR K ρ (L2.upd H D (.lst acc2)) σ env :=
  ⟨h.1, fun i m e => by
    obtain ⟨v, e1, r⟩ := h.2 i m e
    have r1 : Reps K ρ H [v] [m] [] := .cons (f := []) (fs := []) r .nil
    obtain ⟨w, e2, r2⟩ := (Reps.touch (acc2 := acc2) hD r1 (fun z => nomatch z)).one
    cases e2
    exact ⟨v, e1, r2⟩⟩
/-- a comprehension's turns -/
def turnM (Φ : Phi) (tg : Tg) (pc pe : E) (env : Env) (x : MV) (st : Store) : Out (Option MV) :=
  (asgT tg x env st).bind fun env' st => (ev Φ pc env' st).bind fun t st => (boolOf t st).bind fun k st => match k with
    | true => (ev Φ pe env' st).bind fun y st => .val (some y) st
    | false => .val none st
theorem bool_invG {α : Type} {a : α} {o : Out MV} {f : Bool → Store → Out α} (h : (o.bind fun x st => (boolOf x st).bind f) = .val a st') : ∃ b st1, o = .val (.bl b) st1 ∧ f b st1 = .val a st' := by
  obtain ⟨x, st1, h1, h2⟩ := Out.bind_eq h
  cases x with
  | bl b => exact ⟨b, st1, h1, h2⟩
  | _ => cases h2
def pushO (r : Option MV) (ys : List MV) : List MV := match r with
  | some y => y :: ys
  | none => ys
theorem comp_eq {tg : Tg} {it : It} {pc pe : E} : ev Φ (.comp pe tg it pc) env st = (evi Φ it env st).bind fun p st => chk (decide (p.2.length ≤ big)) ((cloop p.1 (turnM Φ tg pc pe env) p.2 st).bind fun ys st => .val (.lst ys) st) := rfl
theorem comp_read {X : Cx} {Φ : Phi} {tg : Tg} {it : It} {pc pe : E} {σ : L2.St} {H : Hp} {Q : VK} (h : tE X.K Φ (.comp pe tg it pc) σ H Q) : tLc (tI X.K Φ it) (gT X.K tg) (tT X.K Φ pc) (tE X.K Φ pe) (tgIs tg) σ H Q := by
  obtain ⟨env, ρ, st, m, st', hE, R, e, k⟩ := h
  rw [comp_eq] at e
  obtain ⟨⟨lk, items⟩, st1, e1, e⟩ := Out.bind_eq e
  obtain ⟨hbig, e⟩ := chk_eq e
  have hbig : items.length ≤ big := of_decide_eq_true hbig
  obtain ⟨total, stF, e2, e⟩ := Out.bind_eq e
  obtain ⟨rfl, rfl⟩ : MV.lst total = m ∧ stF = st' := by
    injection e with q1 q2
    exact ⟨q1, q2⟩
  refine ⟨env, ρ, st, lk, items, st1, hE, R, e1, fun J ρ1 H1 A W D hD => ?_⟩
  have hD0 : H D = none := A.none hD
  have hE1 := hE.after A R.wr noAl
  refine ⟨fun i n H' => n = items.length - i ∧ i ≤ items.length ∧ ∃ (ρ' : List Addr) (s' : Store) (acc : List V) (ys zs : List MV) (fp : List Addr), Aft X.K ρ1 [] H1 s' ρ' H' ∧ H' D = some (.lst acc) ∧ D ∉ ρ' ∧ D ∉ fp ∧ EnvR X.K ρ' H' σ env ∧
    Reps X.K ρ' H' acc ys fp ∧ fp.Nodup ∧ (∀ a ∈ fp, H1 a = none ∧ a ∉ ρ') ∧ acc.length ≤ i ∧ cloop lk (turnM Φ tg pc pe env) (items.drop i) s' = .val zs stF ∧ total = ys ++ zs,
    ⟨items.length, by simp, Nat.zero_le _, ρ1, st1, [], [], total, [], (Aft.refl A.rl).upd hD, upd_same, A.notCell hD, (fun z => nomatch z), ?_, .nil, List.nodup_nil, (fun _ z => nomatch z), Nat.le_refl _, by simpa using e2, rfl⟩, ?_⟩
  · exact ⟨hE1.1, fun i m e => by
      obtain ⟨v, q1, q2⟩ := hE1.2 i m e
      exact ⟨v, q1, q2.upd hD⟩⟩
  · rintro i n H' ⟨rfl, hi, ρ', s', acc, ys, zs, fp, B, hDa, hDr, hDf, hE', ra, nd, fresh, hlen, ec, etot⟩
    by_cases hlt : i < items.length
    · -- a turn
      have hx : items[i]? = some items[i] := List.getElem?_eq_getElem hlt
      have hdrop : items.drop i = items[i] :: items.drop (i + 1) := List.drop_eq_getElem_cons hlt
      rw [hdrop] at ec
      obtain ⟨hheld, ec⟩ := chk_eq (show chk (held lk s') ((turnM Φ tg pc pe env items[i] s').bind fun r st => (cloop lk (turnM Φ tg pc pe env) (items.drop (i + 1)) st).bind fun ys st => .val (pushO r ys) st) = Out.val zs stF from ec)
      obtain ⟨r, s2, et, ec⟩ := Out.bind_eq ec
      obtain ⟨zs', s3, ec2, ec⟩ := Out.bind_eq ec
      obtain ⟨rfl, rfl⟩ : pushO r zs' = zs ∧ s3 = stF := by
        injection ec with q1 q2
        exact ⟨q1, q2⟩
      obtain ⟨hgo, hy⟩ := W.go ρ' s' H' B hheld i _ hx
      refine .inr ⟨hgo, fun H5 => ∃ (ρ5 : List Addr) (acc5 : List V) (ys5 : List MV) (fp5 : List Addr) (zz : List MV), Aft X.K ρ1 [] H1 s2 ρ5 H5 ∧ H5 D = some (.lst acc5) ∧ D ∉ ρ5 ∧ D ∉ fp5 ∧ EnvR X.K ρ5 H5 σ env ∧ Reps X.K ρ5 H5 acc5 ys5 fp5 ∧ fp5.Nodup ∧
        (∀ a ∈ fp5, H1 a = none ∧ a ∉ ρ5) ∧ acc5.length ≤ i + 1 ∧ cloop lk (turnM Φ tg pc pe env) (items.drop (i + 1)) s2 = .val zz s3 ∧ total = ys5 ++ zz, ?_, fun v H2 hyl => ?_⟩
      · rintro H5 ⟨ρ5, acc5, ys5, fp5, zz, p1, p2, p3, p4, p5, p6, p7, p8, p9, p10, p11⟩
        exact ⟨items.length - (i + 1), by omega, rfl, hlt, ρ5, s2, acc5, ys5, zz, fp5, p1, p2, p3, p4, p5, p6, p7, p8, p9, p10, p11⟩
      · obtain ⟨C, rv⟩ := hy v H2 hyl
        -- the target
        have hD2 : H2 D = some (.lst acc) := C.fr D _ hDa hDr (fun z => nomatch z)
        have hE2 := hE'.after C B.rl.wr noAl
        have hW : EnvX (tgIs tg) X.K ρ' H2 (wipe σ (tgIs tg)) env := ⟨by rw [wipe_length]; exact hE2.1, fun j m hj e => by
          obtain ⟨u, q1, q2⟩ := hE2.2 j m e
          exact ⟨u, by rw [wipe_out hj]; exact q1, q2⟩⟩
        obtain ⟨env2, s4, e4, et⟩ := Out.bind_eq et
        refine asgT_read (Aft.refl (al := []) C.rl) (Res.plain rv) noAl hW e4 fun σ2 ρ3 C3 _ hL hE3 => ⟨?_, ?_⟩
        · rw [hL.wipe, (⟨by rw [wipe_length], fun j hj => by rw [wipe_out hj]⟩ : Left (tgIs tg) σ (wipe σ (tgIs tg))).wipe]
        · -- the test
          have hD3 : D ∉ ρ3 := C3.notNew hD2 hDr (fun z => nomatch z)
          obtain ⟨kk, s5, e5, et⟩ := bool_invG et
          refine tT_mk hE3 C3.rl e5 fun ρ4 H4 C4 hE4 => ?_
          have hD4 : H4 D = some (.lst acc) := C4.fr D _ hD2 hD3 (fun z => nomatch z)
          have hD4r : D ∉ ρ4 := C4.notNew hD2 hD3 (fun z => nomatch z)
          have C23 : Aft X.K ρ' [] H2 s5 ρ4 H4 := C3.trans C4 noBl
          have BC : Aft X.K ρ' [] H' s5 ρ4 H4 := C.trans C23 noBl
          have B4 : Aft X.K ρ1 [] H1 s5 ρ4 H4 := B.trans BC noBl
          have ra4 : Reps X.K ρ4 H4 acc ys fp := ra.after BC B.rl.wr noAl fun a ha => ⟨(fresh a ha).2, fun z => nomatch z⟩
          have fr4 : ∀ a ∈ fp, H1 a = none ∧ a ∉ ρ4 := fun a ha => ⟨(fresh a ha).1, by
            obtain ⟨zs, q⟩ := ra.fpSome a ha
            exact BC.notNew q (fresh a ha).2 (fun z => nomatch z)⟩
          cases kk with
          | false =>
            cases et
            rw [if_neg Bool.false_ne_true]
            exact ⟨ρ4, acc, ys, fp, zs', B4, hD4, hD4r, hDf, hE'.after BC B.rl.wr noAl, ra4, nd, fr4, Nat.le_succ_of_le hlen, ec2, etot⟩
          | true =>
            rw [if_pos rfl]
            obtain ⟨y, s6, e6, et⟩ := Out.bind_eq et
            cases et
            refine tE_one hE4 C4.rl e6 fun u ρ5 g H5 C5 _ ru => ?_
            have hD5 : H5 D = some (.lst acc) := C5.fr D _ hD4 hD4r (fun z => nomatch z)
            have hD5r : D ∉ ρ5 := C5.notNew hD4 hD4r (fun z => nomatch z)
            have BC5 : Aft X.K ρ' [] H' _ ρ5 H5 := BC.trans C5 noBl
            have B5 : Aft X.K ρ1 [] H1 _ ρ5 H5 := B.trans BC5 noBl
            have ra5 : Reps X.K ρ5 H5 acc ys fp := ra4.after C5 C4.rl.wr noAl fun a ha => ⟨(fr4 a ha).2, fun z => nomatch z⟩
            have ru1 : Res X.K [] H1 ρ5 H5 u y g := Res.from B4 ru
            have hDg : D ∉ g := fun z => by
              rcases (ru.new D z).1 with q | q
              · rw [hD4] at q; cases q
              · exact nomatch q
            have apart : ∀ a ∈ fp, ∀ b ∈ g, a ≠ b := fun a ha b hb e => by
              subst e
              obtain ⟨zs, q⟩ := ra4.fpSome a ha
              rcases (ru.new a hb).1 with z | z
              · rw [q] at z; cases z
              · exact nomatch z
            have rr : Reps X.K ρ5 H5 (acc ++ [u]) (ys ++ [y]) (fp ++ g) := ra5.app ru.one.rep
            have hDfg : D ∉ fp ++ g := fun z => by
              rcases List.mem_append.mp z with z | z
              · exact hDf z
              · exact hDg z
            refine ⟨acc, hD5, ?_, ρ5, acc ++ [u], ys ++ [y], fp ++ g, zs', B5.touch (.inl hD) hD5 hD5r, upd_same, hD5r, hDfg, (hE'.after BC5 B.rl.wr noAl).touch hD5, rr.touch hD5 hDfg, List.nodup_append.mpr ⟨nd, ru.nd, apart⟩, fun a ha => ?_, ?_, ec2, ?_⟩
            · have := big_le
              omega
            · rcases List.mem_append.mp ha with ha | ha
              · refine ⟨(fr4 a ha).1, ?_⟩
                obtain ⟨zs, q⟩ := ra4.fpSome a ha
                exact C5.notNew q (fr4 a ha).2 (fun z => nomatch z)
              · refine ⟨?_, (ru1.new a ha).2⟩
                rcases (ru1.new a ha).1 with q | q
                · exact q
                · exact nomatch q
            · rw [List.length_append]
              exact Nat.succ_le_succ hlen
            · rw [etot, List.append_assoc]
              rfl
    · have ei : i = items.length := by omega
      subst ei
      rw [List.drop_length] at ec
      obtain ⟨hheld, ec⟩ := chk_eq ec
      cases ec
      refine .inl ⟨W.stop ρ' _ H' B hheld, ?_⟩
      have AB : Aft X.K ρ [] H _ ρ' H' := A.trans B noBl
      rw [List.append_nil] at etot
      subst etot
      refine k _ ρ' (D :: fp) H' AB ⟨.lst hDa ra, List.nodup_cons.mpr ⟨hDf, nd⟩, fun a ha => ?_⟩
      rcases List.mem_cons.mp ha with e | ha
      · subst e
        exact ⟨.inl hD0, hDr⟩
      · exact ⟨.inl (A.none (fresh a ha).1), (fresh a ha).2⟩
theorem relabel_eq (scope : Scope) (env : PySem.Env) : PySem.relabel scope env = relS scope env.scope := rfl
theorem s_comp {X : Cx} {Φ : Phi} {elt tgx iter : Expr} {ifs : List Expr} {scope : Scope} {own : List (Str × Nat)} {pos : Pos} {tg : Tg} {it : It} {pc pe : E} (hc : X.calm = true) (hN : X.N.Nodup) (hi : PI X tgx iter (tI X.K Φ it)) (ok : BlkOk X.N X.env.scope scope own) (hown : own.map (·.2) = tgIs tg)
    (hg : ∀ (s : Shared) (H : Hp) (C : Addr) (cl : List (Str × Addr)) (fp : List Addr), PG (X.blk s H scope (compEnvC scope cl C X.env) fp) tgx (gT X.K tg)) (ht : ∀ (s : Shared) (H : Hp) (C : Addr) (cl : List (Str × Addr)) (fp : List Addr), PTs (X.blk s H scope (compEnvC scope cl C X.env) fp) ifs (tT X.K Φ pc))
    (he : ∀ (s : Shared) (H : Hp) (C : Addr) (cl : List (Str × Addr)) (fp : List Addr), PE (X.blk s H scope (compEnvC scope cl C X.env) fp) elt (tE X.K Φ pe)) (hs : ∀ x, foldedSetIterable iter X.env x = pure x) :
    PE X (.ListComp elt [⟨tgx, iter, ifs, 0⟩] scope pos) (tE X.K Φ (.comp pe tg it pc)) :=
  (pe_lc hc hN hi ok hg ht he hs).qof fun σ H Q h => by
    rw [hown]
    exact comp_read h

/-! ### statements -/
/-- what is wanted behind a statement, as the small language says what it does -/
def SKont (K : PySem.W.Frag) (ρ : List Addr) (H : Hp) (D : Ends) : SOut → Prop
  | .next env' st' => ∀ (σ' : L2.St) (ρ' : List Addr) (H' : Hp), Aft K ρ [] H st' ρ' H' → EnvR K ρ' H' σ' env' → D.nx σ' H'
  | .ret m st' => Kont K ρ H m st' D.rt
  | _ => False
def tS (K : PySem.W.Frag) (Φ : Phi) (p : S) : TS := fun D σ H => ∃ (env : Env) (ρ : List Addr) (st : Store), EnvR K ρ H σ env ∧ Rl K ρ st H ∧ SKont K ρ H D (ex Φ p env st)
def tSs (K : PySem.W.Frag) (Φ : Phi) (p : Ss) : TS := fun D σ H => ∃ (env : Env) (ρ : List Addr) (st : Store), EnvR K ρ H σ env ∧ Rl K ρ st H ∧ SKont K ρ H D (exs Φ p env st)
theorem SKont.shift {D : Ends} {o : SOut} (k : SKont K ρ H D o) (A : Aft K ρ [] H st1 ρ1 H1) : SKont K ρ1 H1 D o := by
  cases o with
  | next env' st' => exact fun σ' ρ' H' B hE => k σ' ρ' H' (A.trans B noBl) hE
  | ret m st' => exact Kont.shift k A
  | exc e st' => exact k
  | bad => exact k
theorem bindS_eq {α : Type} {D : Ends} {o : Out α} {h : α → Store → SOut} (k : SKont K ρ H D (o.bindS h)) : ∃ a st1, o = .val a st1 ∧ SKont K ρ H D (h a st1) := by
  cases o with
  | val a st => exact ⟨a, st, rfl, k⟩
  | exc e st => exact k.elim
  | bad => exact k.elim
theorem boolS_eq {D : Ends} {o : Out MV} {h : Bool → Store → SOut} (k : SKont K ρ H D (o.bindS fun x st => (boolOf x st).bindS h)) : ∃ b st1, o = .val (.bl b) st1 ∧ SKont K ρ H D (h b st1) := by
  obtain ⟨x, st1, e, k⟩ := bindS_eq k
  cases x with
  | bl b => exact ⟨b, st1, e, k⟩
  | _ => exact k.elim
end
section
variable {X : Cx} {Φ : Phi} {a b c e : Expr} {pa pb pc : E} {ps : S} {pss pss2 : Ss} {pos : Pos} {i : Nat} {x : Str}
theorem ss_nil : PSs X [] (tSs X.K Φ .nil) :=
  L2.PSs.qof pss_nil fun D σ H ⟨env, ρ, st, hE, R, k⟩ => k σ ρ H (Aft.refl R) hE
theorem ss_cons {s : Stmt} {r : List Stmt} (h1 : PS X s (tS X.K Φ ps)) (h2 : PSs X r (tSs X.K Φ pss)) : PSs X (s :: r) (tSs X.K Φ (.cons ps pss)) :=
  L2.PSs.qof (pss_cons h1 h2) fun D σ H ⟨env, ρ, st, hE, R, k⟩ => by
    refine ⟨env, ρ, st, hE, R, ?_⟩
    have k : SKont X.K ρ H D ((ex Φ ps env st).seq fun env st => exs Φ pss env st) := k
    cases o : ex Φ ps env st with
    | next env1 st1 =>
      rw [o] at k
      exact fun σ1 ρ1 H1 A hE1 => ⟨env1, ρ1, st1, hE1, A.rl, k.shift A⟩
    | ret m st' =>
      rw [o] at k
      exact k
    | exc e st' =>
      rw [o] at k
      exact k
    | bad =>
      rw [o] at k
      exact k
theorem st_pass : PS X (.Pass pos) (tS X.K Φ .pass) :=
  L2.PS.qof ps_pass fun D σ H ⟨env, ρ, st, hE, R, k⟩ => k σ ρ H (Aft.refl R) hE
theorem st_raise {s : Stmt} {k : Nat} : PS X s (tS X.K Φ (.raise k)) :=
  L2.PS.qof ps_never fun D σ H ⟨env, ρ, st, hE, R, k⟩ => k
theorem st_ret (he : PE X e (tE X.K Φ pa)) : PS X (.Return (some e) pos) (tS X.K Φ (.ret pa)) :=
  L2.PS.qof (ps_ret he) fun D σ H ⟨env, ρ, st, hE, R, k⟩ => by
    obtain ⟨m, st1, e1, k⟩ := bindS_eq k
    exact tE_mk hE R e1 k
theorem st_exp (he : PE X e (tE X.K Φ pa)) (hs : swapsWith e none pos.line X.env = pure false) : PS X (.Expr e pos) (tS X.K Φ (.exp pa)) :=
  L2.PS.qof (ps_expr he hs) fun D σ H ⟨env, ρ, st, hE, R, k⟩ => by
    obtain ⟨m, st1, e1, k⟩ := bindS_eq k
    exact tE_one hE R e1 fun v ρ1 f H1 A hE1 r => k σ ρ1 H1 A hE1
theorem st_if {s1 s2 : List Stmt} (hc : PT X c (tT X.K Φ pc)) (h1 : PSs X s1 (tSs X.K Φ pss)) (h2 : PSs X s2 (tSs X.K Φ pss2)) : PS X (.If c s1 s2 pos) (tS X.K Φ (.iff pc pss pss2)) :=
  L2.PS.qof (ps_if hc h1 h2) fun D σ H ⟨env, ρ, st, hE, R, k⟩ => by
    obtain ⟨b, st1, e1, k⟩ := boolS_eq k
    refine tT_mk hE R e1 fun ρ1 H1 A hE1 => ?_
    cases b with
    | true => exact ⟨env, ρ1, st1, hE1, A.rl, k.shift A⟩
    | false => exact ⟨env, ρ1, st1, hE1, A.rl, k.shift A⟩
/-- a value given to a target, at the end of a statement -/
theorem asg_end {K : PySem.W.Frag} {ρ : List Addr} {H : Hp} {st : Store} {σ : L2.St} {env : Env} {t : Tg} {D : Ends} (hE : EnvR K ρ H σ env) (R : Rl K ρ st H) (k : SKont K ρ H D (ex Φ (.asg t pa) env st)) : tE K Φ pa σ H fun v H1 => gT K t v σ H1 D.nx := by
  obtain ⟨m, st1, e1, k⟩ := bindS_eq k
  obtain ⟨env2, st2, e2, k⟩ := bindS_eq k
  exact tE_one hE R e1 fun v ρ1 f H1 A hE1 r => asgT_read A r r.fpl hE1.toX e2 fun σ' ρ2 A2 _ _ hE2 => k σ' ρ2 H1 A2 hE2
theorem st_asg {tg : Expr} {t : Tg} (he : PE X e (tE X.K Φ pa)) (hg : PG X tg (gT X.K t)) (hs : swapsWithSole [tg] e pos.line X.env = pure false) (hw : swappedStores [tg] e X.env = pure none) (h1 : (assignEach [tg] X.env).map (·.2) = [assign tg X.env]) :
    PS X (.Assign [tg] e pos) (tS X.K Φ (.asg t pa)) :=
  L2.PS.qof (ps_asg he hg hs hw h1) fun D σ H ⟨env, ρ, st, hE, R, k⟩ => asg_end hE R k
theorem st_set {pos' : Pos} (hN : X.N.Nodup) (hi : X.N[i]? = some x) (hx : Loc X.env.scope x) (he : PE X e (tE X.K Φ pa)) (hs : swapsWith e (some (.Name x pos')) pos.line X.env = pure false) (hf : X.fn x = true ∨ X.env.scope.names.lookup x = some .local) :
    PS X (.Assign [.Name x pos'] e pos) (tS X.K Φ (.asg (.nm i) pa)) :=
  L2.PS.qof (ps_set hN hi hx he hs hf) fun D σ H ⟨env, ρ, st, hE, R, k⟩ => asg_end hE R k
theorem st_setLc {py : Pos} {elt tgx iter : Expr} {ifs : List Expr} {scope : Scope} {own : List (Str × Nat)} {pos spos : Pos} {tg : Tg} {it : It} {pe : E} (hc : X.calm = true) (hN : X.N.Nodup) (hy : X.N[i]? = some x) (hyl : X.env.scope.names.lookup x = some .local)
    (hsw : swapsWith (.ListComp elt [⟨tgx, iter, ifs, 0⟩] scope pos) (some (.Name x py)) spos.line X.env = pure true) (hi : PI X tgx iter (tI X.K Φ it)) (ok : BlkOk X.N X.env.scope scope own) (hown : own.map (·.2) = tgIs tg)
    (hg : ∀ (s : Shared) (H : Hp) (C : Addr) (cl : List (Str × Addr)) (fp : List Addr), PG (X.blk s H scope (compEnvC scope cl C X.env) fp) tgx (gT X.K tg)) (ht : ∀ (s : Shared) (H : Hp) (C : Addr) (cl : List (Str × Addr)) (fp : List Addr), PTs (X.blk s H scope (compEnvC scope cl C X.env) fp) ifs (tT X.K Φ pc))
    (he : ∀ (s : Shared) (H : Hp) (C : Addr) (cl : List (Str × Addr)) (fp : List Addr), PE (X.blk s H scope (compEnvC scope cl C X.env) fp) elt (tE X.K Φ pe)) (hs : ∀ x, foldedSetIterable iter X.env x = pure x) :
    PS X (.Assign [.Name x py] (.ListComp elt [⟨tgx, iter, ifs, 0⟩] scope pos) spos) (tS X.K Φ (.asg (.nm i) (.comp pe tg it pc))) :=
  L2.PS.qof (ps_setLc hc hN hy hyl hsw hi ok hg ht he hs) fun D σ H ⟨env, ρ, st, hE, R, k⟩ => by
    have q := asg_end (t := .nm i) hE R k
    rw [hown]
    exact comp_read q
theorem st_aug {pos' : Pos} (hN : X.N.Nodup) (hi : X.N[i]? = some x) (hx : Loc X.env.scope x) (he : PE X e (tE X.K Φ pa)) (hf : X.fn x = true ∨ X.env.scope.names.lookup x = some .local) : PS X (.AugAssign (.Name x pos') .Add e pos) (tS X.K Φ (.aug i pa)) :=
  L2.PS.qof (ps_aug hN hi hx he ip_add hf) fun D σ H ⟨env, ρ, st, hE, R, k⟩ => by
    obtain ⟨y, st1, e1, k⟩ := bindS_eq k
    have hxy : ∃ n j, env[i]? = some (some (.int n)) ∧ y = .int j := by
      cases h : env[i]? with
      | none => simp [h, SKont] at k
      | some o =>
        cases o with
        | none => simp [h, SKont] at k
        | some z =>
          cases z <;> first | (cases y <;> first | exact ⟨_, _, rfl, rfl⟩ | simp [h, SKont] at k) | simp [h, SKont] at k
    obtain ⟨n, j, hn, rfl⟩ := hxy
    obtain ⟨v, hv, rv⟩ := hE.2 i _ hn
    refine ⟨v, hv, tE_one hE R e1 fun w ρ1 f H1 A hE1 r => ⟨n, j, rv.int_inv.1, r.rep.int_inv.1, ?_⟩⟩
    rw [hn] at k
    have k : SKont X.K ρ H D (.next (env.set i (some (.int (n + j)))) st1) := k
    exact k _ ρ1 H1 A (hE1.toX.set (js := []) (.int _)).toR
/-! loops -/
theorem st_for {tg iter : Expr} {body : List Stmt} {t : Tg} {it : It} (hx : X.xe = fun _ _ => False) (hc : X.calm = true) (hi : PI X tg iter (tI X.K Φ it)) (hg : PG X tg (gT X.K t)) (hb : PSs X body (tSs X.K Φ pss)) (hs : ∀ x, foldedSetIterable iter X.env x = pure x) :
    PS X (.For tg iter body [] pos) (tS X.K Φ (.for t it pss)) :=
  L2.PS.qof (ps_for (by rw [hx]; exact PassesOwn.never) hc hi hg hb hs) fun D σ H ⟨env, ρ, st, hE, R, k⟩ => by
    obtain ⟨⟨lk, items⟩, st1, e1, k⟩ := bindS_eq k
    refine ⟨env, ρ, st, lk, items, st1, hE, R, e1, fun J ρ1 H1 A W => ?_⟩
    have hE1 := hE.after A R.wr noAl
    refine ⟨fun i n σ' H' => n = items.length - i ∧ i ≤ items.length ∧ ∃ (env' : Env) (ρ' : List Addr) (s' : Store), Aft X.K ρ1 [] H1 s' ρ' H' ∧ EnvR X.K ρ' H' σ' env' ∧ SKont X.K ρ1 H1 D (floop lk t (exs Φ pss) (items.drop i) env' s'),
      ⟨items.length, by simp, Nat.zero_le _, env, ρ1, st1, Aft.refl A.rl, hE1, by simpa using k.shift A⟩, ?_⟩
    rintro i n σ' H' ⟨rfl, hi, env', ρ', s', B, hE', k⟩
    by_cases hlt : i < items.length
    · have hx : items[i]? = some items[i] := List.getElem?_eq_getElem hlt
      have hdrop : items.drop i = items[i] :: items.drop (i + 1) := List.drop_eq_getElem_cons hlt
      rw [hdrop] at k
      have k : SKont X.K ρ1 H1 D ((chk (held lk s') (asgT t items[i] env' s')).bindS fun env st => (exs Φ pss env st).seq fun env st => floop lk t (exs Φ pss) (items.drop (i + 1)) env st) := k
      obtain ⟨env2, s2, e2, k⟩ := bindS_eq k
      obtain ⟨hheld, e2⟩ := chk_eq e2
      obtain ⟨hgo, hy⟩ := W.go ρ' s' H' B hheld i _ hx
      refine .inr ⟨hgo, fun σ5 H5 => ∃ (env5 : Env) (ρ5 : List Addr) (s5 : Store), Aft X.K ρ1 [] H1 s5 ρ5 H5 ∧ EnvR X.K ρ5 H5 σ5 env5 ∧ SKont X.K ρ1 H1 D (floop lk t (exs Φ pss) (items.drop (i + 1)) env5 s5), ?_, fun v H2 hyl => ?_⟩
      · rintro σ5 H5 ⟨env5, ρ5, s5, p1, p2, p3⟩
        exact ⟨items.length - (i + 1), by omega, rfl, hlt, env5, ρ5, s5, p1, p2, p3⟩
      · obtain ⟨C, rv⟩ := hy v H2 hyl
        have hE2 := hE'.after C B.rl.wr noAl
        refine asgT_read (Aft.refl (al := []) C.rl) (Res.plain rv) noAl hE2.toX e2 fun σ2 ρ3 C3 _ _ hE3 => ?_
        have BC : Aft X.K ρ1 [] H1 s2 ρ3 H2 := (B.trans C noBl).trans C3 noBl
        refine ⟨env2, ρ3, s2, hE3, C3.rl, ?_⟩
        cases o : exs Φ pss env2 s2 with
        | next env5 s5 =>
          rw [o] at k
          exact fun σ5 ρ5 H5 C5 hE5 => ⟨env5, ρ5, s5, BC.trans C5 noBl, hE5, k⟩
        | ret m s5 =>
          rw [o] at k
          exact Kont.shift (show Kont X.K ρ1 H1 m s5 D.rt from k) BC
        | exc e s5 =>
          rw [o] at k
          exact k
        | bad =>
          rw [o] at k
          exact k
    · have ei : i = items.length := by omega
      subst ei
      rw [List.drop_length] at k
      have k : SKont X.K ρ1 H1 D ((chk (held lk s') (.val () s')).bindS fun _ st => .next env' st) := k
      obtain ⟨_, s2, e2, k⟩ := bindS_eq k
      obtain ⟨hheld, e2⟩ := chk_eq e2
      cases e2
      exact .inl ⟨W.stop ρ' _ H' B hheld, k σ' ρ' H' B hE'⟩
theorem st_while {body : List Stmt} (hx : X.xe = fun _ _ => False) (hc : PT X c (tT X.K Φ pc)) (hb : PSs X body (tSs X.K Φ pss)) : PS X (.While c body [] pos) (tS X.K Φ (.whl pc pss)) :=
  L2.PS.qof (ps_while (by rw [hx]; exact PassesOwn.never) hc hb) fun D σ H ⟨env, ρ, st, hE, R, k⟩ => by
    refine ⟨fun n σ' H' => ∃ (env' : Env) (ρ' : List Addr) (s' : Store), Aft X.K ρ [] H s' ρ' H' ∧ EnvR X.K ρ' H' σ' env' ∧ SKont X.K ρ H D (wloop (fun env st => (ev Φ pc env st).bind fun x st => boolOf x st) (exs Φ pss) n env' s'),
      ⟨fuel, env, ρ, st, Aft.refl R, hE, k⟩, ?_⟩
    rintro n σ' H' ⟨env', ρ', s', B, hE', k⟩
    cases n with
    | zero => exact k.elim
    | succ n =>
      have k : SKont X.K ρ H D (((ev Φ pc env' s').bind fun x st => boolOf x st).bindS fun k st => match k with
        | true => (exs Φ pss env' st).seq fun env st => wloop (fun env st => (ev Φ pc env st).bind fun x st => boolOf x st) (exs Φ pss) n env st
        | false => .next env' st) := k
      obtain ⟨bb, s2, e2, k⟩ := bindS_eq k
      obtain ⟨y, s3, e3, e4⟩ := Out.bind_eq e2
      have hy : y = .bl bb ∧ s3 = s2 := by
        cases y <;> first | (cases e4; exact ⟨rfl, rfl⟩) | cases e4
      obtain ⟨rfl, rfl⟩ := hy
      refine tT_mk hE' B.rl e3 fun ρ2 H2 C hE2 => ?_
      have BC : Aft X.K ρ [] H s3 ρ2 H2 := B.trans C noBl
      cases bb with
      | false => exact k σ' ρ2 H2 BC hE2
      | true =>
        rw [if_pos rfl]
        have k : SKont X.K ρ H D ((exs Φ pss env' s3).seq fun env st => wloop (fun env st => (ev Φ pc env st).bind fun x st => boolOf x st) (exs Φ pss) n env st) := k
        refine ⟨fun σ5 H5 => ∃ (env5 : Env) (ρ5 : List Addr) (s5 : Store), Aft X.K ρ [] H s5 ρ5 H5 ∧ EnvR X.K ρ5 H5 σ5 env5 ∧ SKont X.K ρ H D (wloop (fun env st => (ev Φ pc env st).bind fun x st => boolOf x st) (exs Φ pss) n env5 s5), ?_, env', ρ2, s3, hE2, BC.rl, ?_⟩
        · rintro σ5 H5 ⟨env5, ρ5, s5, p1, p2, p3⟩
          exact ⟨n, Nat.lt_succ_self _, env5, ρ5, s5, p1, p2, p3⟩
        · cases o : exs Φ pss env' s3 with
          | next env5 s5 =>
            rw [o] at k
            exact fun σ5 ρ5 H5 C5 hE5 => ⟨env5, ρ5, s5, BC.trans C5 noBl, hE5, k⟩
          | ret m s5 =>
            rw [o] at k
            exact Kont.shift (show Kont X.K ρ H m s5 D.rt from k) BC
          | exc e s5 =>
            rw [o] at k
            exact k
          | bad =>
            rw [o] at k
            exact k
end
end QR

set_option Elab.async false
set_option linter.all false
set_option maxRecDepth 100000
set_option maxHeartbeats 4000000
/-! QSound: what is compiled is sound (expressions). -/
namespace QR
open PySem PySem.Spec PyProof.Rows L2

structure Good (X : Cx) (G : List (Str × GK)) (Φ : Phi) : Prop where
  calm : X.calm = true
  nd : X.N.Nodup
  xe : X.xe = fun _ _ => False
  un : X.A.units + 65 < cLine
  fn : ∀ x k, G.lookup x = some (.fn k) → FnG X Φ x k
  cst : ∀ x m, G.lookup x = some (.cst m) → ∃ (u : Value) (v : V), X.mg x = some u ∧ RelV v u ∧ ∀ ρ H, Rep X.K ρ H v m []
  free : ∀ x, G.lookup x = some .free → X.mg x = none
  cls : ∀ x k, G.lookup x = some (.cls k) → MkG X Φ x k
  mth : ∀ x c m k star, G.lookup x = some (.mth c m k star) → MthG X Φ c m k star
  fld : ∀ x c f, G.lookup x = some (.fld c f) → Cls X.K (He.ga X.K c) ∧ NoAttr X.K (He.ga X.K c) f
  kind : X.env.scope.kind = .function
/-- an expression with nothing odd about it -/
def plainB : Expr → Bool
  | .Starred .. => false
  | .Slice .. => false
  | .Set .. => false
  | .SetComp .. => false
  | .DictComp .. => false
  | _ => true
theorem comp_plain {n : Nat} {ce : CEnv} {e : Expr} {p : E} (h : compE n ce e = some p) : plainB e = true := by
  cases n with
  | zero => simp [compE] at h
  | succ n => cases e <;> first | rfl | simp [compE] at h
theorem star1 {e : Expr} (h : plainB e = true) (es : List Expr) (env : PySem.Env) : starEach (e :: es) env = (false, eval e env) :: starEach es env := by
  cases e <;> first | rfl | cases h
theorem star_any {pos : Pos} {env : PySem.Env} : ∀ {es : List Expr}, (∀ e ∈ es, plainB e = true) → (backTo pos (starEach es env)).any (·.1) = false
  | [], _ => rfl
  | e :: es, h => by
    rw [star1 (h e List.mem_cons_self)]
    exact star_any (es := es) fun z hz => h z (List.mem_cons_of_mem _ hz)
theorem behind1 {e : Expr} (h : plainB e = true) (op : CmpOp) : behindInMarks op e = false := by
  cases e <;> first | rfl | cases h
theorem plainIx1 {e : Expr} (h : plainB e = true) : PlainIx e := by
  intro o i
  cases e <;> first | rfl | cases h
theorem fold1 {e : Expr} (h : plainB e = true) (env : PySem.Env) (x : Value) : foldedSetIterable e env x = pure x := by
  cases e <;> first | rfl | cases h
theorem compEs_len {ce : CEnv} : ∀ {n : Nat} {es : List Expr} {ps : Es}, compEs n ce es = some ps → (∀ e ∈ es, plainB e = true) ∧ ∀ {Φ : Phi} {env : Env} {ms : List MV} {st st' : Store}, evs Φ ps env st = .val ms st' → ms.length = es.length
  | 0, _, _, h => by simp [compEs] at h
  | n + 1, [], ps, h => by
    simp only [compEs, Option.some.injEq] at h
    subst h
    refine ⟨(fun _ z => nomatch z), fun e => ?_⟩
    cases e
    rfl
  | n + 1, e :: es, ps, h => by
    simp only [compEs, Option.bind_eq_some_iff, Option.map_eq_some_iff] at h
    obtain ⟨x, h1, xs, h2, rfl⟩ := h
    obtain ⟨q1, q2⟩ := compEs_len h2
    refine ⟨fun z hz => ?_, fun {Φ env ms st st'} e => ?_⟩
    · rcases List.mem_cons.mp hz with r | r
      · subst r
        exact comp_plain h1
      · exact q1 z r
    · obtain ⟨y, st1, e1, e⟩ := Out.bind_eq (show (ev Φ x env st).bind (fun x st => (evs Φ xs env st).bind fun xs st => .val (x :: xs) st) = .val ms st' from e)
      obtain ⟨ys, st2, e2, e⟩ := Out.bind_eq e
      cases e
      exact congrArg (· + 1) (q2 e2)
section
variable {X : Cx} {ce : CEnv} {Φ : Phi} {G : List (Str × GK)} {x : Str} {i : Nat} {pos : Pos}
theorem slot_inv (h : slot ce x = some i) : badName x = false ∧ visB ce.sc x = true ∧ ce.N[i]? = some x := by
  unfold slot at h
  split at h
  · rename_i hb
    simp only [Bool.and_eq_true, Bool.not_eq_true'] at hb
    exact ⟨hb.1, hb.2, idx0 h⟩
  · cases h
theorem glob_inv {g : GK} (h : glob ce x = some g) : badName x = false ∧ gloB ce.sc x = true ∧ ce.G.lookup x = some g := by
  unfold glob at h
  split at h
  · rename_i hb
    simp only [Bool.and_eq_true, Bool.not_eq_true'] at hb
    exact ⟨hb.1, hb.2, h⟩
  · cases h
theorem gloB_gl (F : Fit X ce) (h : gloB ce.sc x = true) : Gl X x := by
  unfold gloB at h
  show X.env.scope.names.lookup x = some .globalImplicit
  rw [← F.sc]
  split at h
  · rename_i e; exact e
  · cases h
theorem mthG_inv (g : Good X ce.G Φ) {m c : Str} {k : Nat} {star : Bool} (h : mthG ce m = some (c, k, star)) : MthG X Φ c m k star := by
  unfold mthG at h
  split at h
  · rename_i c' m2 k' star' e
    split at h
    · rename_i hm
      cases h
      exact hm ▸ g.mth _ _ _ _ _ e
    · cases h
  · cases h
theorem fldG_inv (g : Good X ce.G Φ) {f c : Str} (h : fldG ce f = some c) : Cls X.K (He.ga X.K c) ∧ NoAttr X.K (He.ga X.K c) f := by
  unfold fldG at h
  split at h
  · rename_i c' f2 e
    split at h
    · rename_i hm
      cases h
      exact hm ▸ g.fld _ _ _ e
    · cases h
  · cases h
theorem isBlt_inv (g : Good X ce.G Φ) (F : Fit X ce) (h : isBlt ce x = true) : Gl X x ∧ X.mg x = none ∧ badName x = false := by
  unfold isBlt at h
  split at h
  · rename_i e
    obtain ⟨h1, h2, h3⟩ := glob_inv e
    exact ⟨gloB_gl F h2, g.free x h3, h1⟩
  · cases h
theorem callOf_inv (g : Good X ce.G Φ) (F : Fit X ce) {y : Str} (h : callOf ce y x = true) : x = y ∧ Gl X y ∧ X.mg y = none := by
  unfold callOf at h
  simp only [Bool.and_eq_true, decide_eq_true_eq] at h
  obtain ⟨rfl, h⟩ := h
  obtain ⟨h1, h2, _⟩ := isBlt_inv g F h
  exact ⟨rfl, h1, h2⟩
theorem Good.blk (g : Good X G Φ) (s : Shared) (H : Hp) (scope : Scope) (cl : List (Str × Addr)) (C : Addr) (fp : List Addr) (hk : scope.kind = .function) : Good (X.blk s H scope (compEnvC scope cl C X.env) fp) G Φ :=
  ⟨g.calm, g.nd, rfl, g.un, g.fn, g.cst, g.free, (fun x k e => ⟨(g.cls x k e).fn, (g.cls x k e).mg⟩), (fun x c m k star e => ⟨(g.mth x c m k star e).cls, (g.mth x c m k star e).fn⟩), g.fld, hk⟩
theorem Fit.blk (F : Fit X ce) (s : Shared) (H : Hp) (scope : Scope) (cl : List (Str × Addr)) (C : Addr) (fp : List Addr) : Fit (X.blk s H scope (compEnvC scope cl C X.env) fp) ⟨ce.N, relS scope ce.sc, ce.G, some scope⟩ := by
  refine ⟨F.N, ?_, fun x h1 h2 => ?_⟩
  · show relS scope ce.sc = relS scope X.env.scope
    rw [F.sc]
  · have h1 : locB scope x = true := h1
    unfold locB at h1
    split at h1
    · rename_i e
      exact .inr (lookup_relS_keep (by decide) e)
    · rename_i e
      refine .inl ?_
      show (scope.names.lookup x == some .cell) = true
      rw [e]
      rfl
    · cases h1
theorem bltOf_val {b : Blt} (h : bltOf x = some b) : (∀ t, b ≠ .isi t) ∧ bootBuiltins x = some (bltV b) := by
  unfold bltOf at h
  repeat' split at h
  all_goals first
    | (rename_i e; subst e; cases h; exact ⟨(fun _ z => nomatch z), rfl⟩)
    | cases h
/-- what is wanted of an expression -/
structure SE (X : Cx) (Φ : Phi) (e : Expr) (p : E) : Prop where
  pe : PE X e (tE X.K Φ p)
  pt : PT X e (tT X.K Φ p)
  pw : ∀ op vs pos, e = .BoolOp op vs pos → PW X e (tT X.K Φ p)
theorem SE.of {e : Expr} {p : E} (h : PE X e (tE X.K Φ p)) (he : ∀ whole, isTrue e X.env whole = (do let v ← whole; standAt e.pos; holding [v] (truthy v)) := by intro _; rfl) (hb : ∀ op vs pos, e ≠ .BoolOp op vs pos := by intros; simp) : SE X Φ e p :=
  ⟨h, s_test h he, fun op vs pos z => absurd z (hb op vs pos)⟩
theorem SE.mk2 {e : Expr} {p : E} (h : PE X e (tE X.K Φ p)) (h2 : PT X e (tT X.K Φ p)) (hb : ∀ op vs pos, e ≠ .BoolOp op vs pos := by intros; simp) : SE X Φ e p :=
  ⟨h, h2, fun op vs pos z => absurd z (hb op vs pos)⟩

theorem badName_ne (h : badName x = false) : (x == ("__debug__" : Str)) = false ∧ (x == ("__classdict__" : Str)) = false ∧ x ≠ ("__name__" : Str) := badName_no h
theorem s_call_any {k : Nat} {es : List Expr} {ps : Es} {p : Pos} {n : Nat} (F : FnG X Φ x k) (hg : Gl X x) (hdb : (x == ("__debug__" : Str)) = false) (h : compEs n ce es = some ps) (ha : PA X es (tEs X.K Φ ps)) : PE X (.Call (.Name x p) es [] pos) (tE X.K Φ (.call k ps)) := by
  obtain ⟨q1, q2⟩ := compEs_len h
  cases es with
  | nil =>
    cases n with
    | zero => simp [compEs] at h
    | succ n =>
      simp only [compEs, Option.some.injEq] at h
      subst h
      exact s_call0 F hg hdb
  | cons e es => exact s_call F hg hdb ha (star1 (q1 e List.mem_cons_self) es X.env) (star_any fun z hz => q1 z (List.mem_cons_of_mem _ hz))
theorem s_blt_any {b : Blt} {es : List Expr} {ps : Es} {p : Pos} {e : Expr} {n : Nat} (g : Good X G Φ) (hg : Gl X x) (hm : X.mg x = none) (hx : badName x = false) (hb : bltOf x = some b) (h : compEs n ce (e :: es) = some ps) (ha : PA X (e :: es) (tEs X.K Φ ps)) :
    PE X (.Call (.Name x p) (e :: es) [] pos) (tE X.K Φ (.blt b ps)) := by
  obtain ⟨q1, q2⟩ := compEs_len h
  obtain ⟨b1, b2, b3⟩ := badName_ne hx
  obtain ⟨v1, v2⟩ := bltOf_val hb
  exact s_blt g.calm g.un v1 hg hm v2 b3 b1 ha (star1 (q1 e List.mem_cons_self) es X.env) (star_any fun z hz => q1 z (List.mem_cons_of_mem _ hz))
/-- one argument, compiled by itself -/
theorem s_blt_one {b : Blt} {e : Expr} {p : Pos} {pa : E} (g : Good X G Φ) (hg : Gl X x) (hm : X.mg x = none) (hx : badName x = false) (hb : bltOf x = some b) (h : plainB e = true) (ha : PE X e (tE X.K Φ pa)) :
    PE X (.Call (.Name x p) [e] [] pos) (tE X.K Φ (.blt b (.cons pa .nil))) := by
  obtain ⟨b1, b2, b3⟩ := badName_ne hx
  obtain ⟨v1, v2⟩ := bltOf_val hb
  exact s_blt g.calm g.un v1 hg hm v2 b3 b1 (s_cons ha s_nil (star1 h [] X.env)) (star1 h [] X.env) (star_any fun z hz => nomatch hz)
/-- all that is wanted at one depth -/
structure SD (Φ : Phi) (n : Nat) : Prop where
  e : ∀ (X : Cx) (ce : CEnv) (e : Expr) (p : E), Good X ce.G Φ → Fit X ce → compE n ce e = some p → SE X Φ e p
  es : ∀ (X : Cx) (ce : CEnv) (es : List Expr) (ps : Es), Good X ce.G Φ → Fit X ce → compEs n ce es = some ps → PA X es (tEs X.K Φ ps)
  it : ∀ (X : Cx) (ce : CEnv) (tg e : Expr) (t : It), Good X ce.G Φ → Fit X ce → compI n ce e = some t → tgOk tg t = true → PI X tg e (tI X.K Φ t)
theorem sd_es {n : Nat} (D : SD Φ n) (X : Cx) (ce : CEnv) (es : List Expr) (ps : Es) (g : Good X ce.G Φ) (F : Fit X ce) (h : compEs (n + 1) ce es = some ps) : PA X es (tEs X.K Φ ps) := by
  cases es with
  | nil =>
    simp only [compEs, Option.some.injEq] at h
    subst h
    exact s_nil
  | cons e es =>
    simp only [compEs, Option.bind_eq_some_iff, Option.map_eq_some_iff] at h
    obtain ⟨x, h1, xs, h2, rfl⟩ := h
    exact s_cons (D.e X ce e x g F h1).pe (D.es X ce es xs g F h2) (star1 (comp_plain h1) es X.env)
theorem isTup_of {tg : Expr} (h : (match tg with
    | .Tuple _ _ _ => true
    | _ => false) = true) : ∃ es k p, tg = .Tuple es k p := by
  cases tg <;> first | exact ⟨_, _, _, rfl⟩ | cases h
theorem sd_it {n : Nat} (D : SD Φ n) (X : Cx) (ce : CEnv) (tg e : Expr) (t : It) (g : Good X ce.G Φ) (F : Fit X ce) (h : compI (n + 1) ce e = some t) (ht : tgOk tg t = true) : PI X tg e (tI X.K Φ t) := by
  have one : ∀ {e : Expr} {p : E}, compE n ce e = some p → PI X tg e (tI X.K Φ (.ex p)) := fun h => i_ex (D.e X ce _ _ g F h).pe
  have st : ∀ {e : Expr} {p : E}, compE n ce e = some p → ∀ r, starEach (e :: r) X.env = (false, eval e X.env) :: starEach r X.env := fun h r => star1 (comp_plain h) r X.env
  simp only [compI] at h
  split at h
  · rename_i f fp a pos
    split at h
    · rename_i hc
      obtain ⟨rfl, h1, h2⟩ := callOf_inv g F hc
      obtain ⟨x, hx, rfl⟩ := Option.map_eq_some_iff.mp h
      exact i_rng1 h1 h2 (D.e X ce _ _ g F hx).pe (st hx)
    · split at h
      · rename_i hc
        obtain ⟨rfl, h1, h2⟩ := callOf_inv g F hc
        obtain ⟨x, hx, rfl⟩ := Option.map_eq_some_iff.mp h
        obtain ⟨es, k, p, rfl⟩ := isTup_of ht
        exact i_enum h1 h2 (D.e X ce _ _ g F hx).pe (st hx)
      · obtain ⟨x, hx, rfl⟩ := Option.map_eq_some_iff.mp h
        exact one hx
  · rename_i f fp a b pos
    split at h
    · rename_i hc
      obtain ⟨rfl, h1, h2⟩ := callOf_inv g F hc
      simp only [Option.bind_eq_some_iff, Option.map_eq_some_iff] at h
      obtain ⟨x, hx, y, hy, rfl⟩ := h
      exact i_rng2 h1 h2 (D.e X ce _ _ g F hx).pe (D.e X ce _ _ g F hy).pe (st hx) (st hy)
    · split at h
      · rename_i hc
        obtain ⟨rfl, h1, h2⟩ := callOf_inv g F hc
        simp only [Option.bind_eq_some_iff, Option.map_eq_some_iff] at h
        obtain ⟨x, hx, y, hy, rfl⟩ := h
        obtain ⟨es, k, p, rfl⟩ := isTup_of ht
        exact i_zip h1 h2 (D.e X ce _ _ g F hx).pe (D.e X ce _ _ g F hy).pe (st hx) (st hy)
      · obtain ⟨x, hx, rfl⟩ := Option.map_eq_some_iff.mp h
        exact one hx
  · obtain ⟨x, hx, rfl⟩ := Option.map_eq_some_iff.mp h
    exact one hx
end
end QR

set_option Elab.async false
set_option linter.all false
set_option maxRecDepth 100000
set_option maxHeartbeats 4000000
/-! QSoundE: what is compiled is sound (expressions, joined). -/
namespace QR
open PySem PySem.Spec PyProof.Rows L2
section
variable {X : Cx} {ce : CEnv} {Φ : Phi} {x : Str} {i : Nat} {pos : Pos} {n : Nat}
theorem bopOf_ok {op : Operator} {o : Bop} (h : bopOf op = some o) : True := trivial
theorem lenOf_inv {f : Str} {es : List Expr} {c : Str} {k : Nat} {o : Expr} (h : lenOf ce f es = some (c, k, o)) : f = "len" ∧ es = [o] ∧ mthG ce "__len__" = some (c, k, false) ∧ ∃ x p, o = .Name x p := by
  unfold lenOf at h
  split at h
  · split at h
    · rename_i hf
      split at h
      · rename_i c' k' e
        cases h
        exact ⟨hf.1, rfl, e, _, _, rfl⟩
      · cases h
    · cases h
  · cases h
theorem plain_any {ps : Es} {es : List Expr} (g : compEs n ce es = some ps) (pos : Pos) (env : PySem.Env) : (backTo pos (starEach es env)).any (·.1) = false := star_any (compEs_len g).1
theorem compEs_nil {ps : Es} (h : compEs n ce [] = some ps) : ps = .nil := by
  cases n with
  | zero => simp [compEs] at h
  | succ n => simpa [compEs] using h.symm
theorem tyOf_ty {t : Ty} (h : tyOf x = some t) : x = tyS t := by
  unfold tyOf at h
  repeat' split at h
  all_goals first
    | (rename_i e; cases h; exact e)
    | cases h
theorem mthOf_name {k : Mth} (h : mthOf x = some k) : (x = "append" ∧ k = .append) ∨ (x = "pop" ∧ k = .pop) ∨ (x = "index" ∧ k = .index) := by
  unfold mthOf at h
  split at h
  · rename_i e; cases h; exact .inl ⟨e, rfl⟩
  · split at h
    · rename_i e; cases h; exact .inr (.inl ⟨e, rfl⟩)
    · split at h
      · rename_i e; cases h; exact .inr (.inr ⟨e, rfl⟩)
      · cases h
theorem sd_comp (D : SD Φ n) (X : Cx) (ce : CEnv) (g : Good X ce.G Φ) (F : Fit X ce) {elt tg iter : Expr} {ifs : List Expr} {scope : Scope} {it : It} {t : Tg} {x y : E} (h1 : compI n ce iter = some it) (hk : L2.blkC ce.N ce.sc scope (ownOf ce.N (tgNames tg)) = true) (hto : tgOk tg it = true)
    (h2 : compTg ⟨ce.N, relS scope ce.sc, ce.G, some scope⟩ tg = some t) (h3 : (ownOf ce.N (tgNames tg)).map (·.2) = tgIs t) (h4 : compE n ⟨ce.N, relS scope ce.sc, ce.G, some scope⟩ elt = some x)
    (h5 : (ifs = [] ∧ y = .cst (.bl true)) ∨ ∃ c, ifs = [c] ∧ compE n ⟨ce.N, relS scope ce.sc, ce.G, some scope⟩ c = some y) (hs : ∀ v, foldedSetIterable iter X.env v = pure v) :
    BlkOk X.N X.env.scope scope (ownOf ce.N (tgNames tg)) ∧ PI X tg iter (tI X.K Φ it) ∧
      (∀ (s : Shared) (H : Hp) (C : Addr) (cl : List (Str × Addr)) (fp : List Addr), PG (X.blk s H scope (compEnvC scope cl C X.env) fp) tg (gT X.K t)) ∧
      (∀ (s : Shared) (H : Hp) (C : Addr) (cl : List (Str × Addr)) (fp : List Addr), PTs (X.blk s H scope (compEnvC scope cl C X.env) fp) ifs (tT X.K Φ y)) ∧
      (∀ (s : Shared) (H : Hp) (C : Addr) (cl : List (Str × Addr)) (fp : List Addr), PE (X.blk s H scope (compEnvC scope cl C X.env) fp) elt (tE X.K Φ x)) := by
  have ok := blkOk_by hk
  have ok' : BlkOk X.N X.env.scope scope (ownOf ce.N (tgNames tg)) := by
    rw [← F.sc, ← F.N]
    exact ok
  have gb := fun s H cl C fp => g.blk s H scope cl C fp ok.kind
  have Fb := fun s H cl C fp => F.blk s H scope cl C fp
  refine ⟨ok', D.it X ce tg iter it g F h1 hto, fun s H C cl fp => ?_, fun s H C cl fp => ?_, fun s H C cl fp => ?_⟩
  · exact tg_pg (Fb s H cl C fp) (gb s H cl C fp).nd (gb s H cl C fp).calm h2
  · rcases h5 with ⟨rfl, rfl⟩ | ⟨c, rfl, h5⟩
    · refine ⟨fun pins s' σ H' Q I hw => pts_nil.run pins s' σ H' Q I ?_⟩
      obtain ⟨env, ρ, st, b, st', hE, R, e, k⟩ := hw
      cases e
      exact k ρ H' (Aft.refl R)
    · exact pts_one (D.e _ ⟨ce.N, relS scope ce.sc, ce.G, some scope⟩ c y (gb s H cl C fp) (Fb s H cl C fp) h5).pt
  · exact (D.e _ ⟨ce.N, relS scope ce.sc, ce.G, some scope⟩ elt x (gb s H cl C fp) (Fb s H cl C fp) h4).pe
/-- what the comprehension's compilation says -/
theorem comp_inv {p : E} {elt tg iter : Expr} {ifs : List Expr} {scope : Scope} {a : Int} (h : compE (n + 1) ce (.ListComp elt [⟨tg, iter, ifs, a⟩] scope pos) = some p) :
    ∃ it t x y, a = 0 ∧ p = .comp x t it y ∧ compI n ce iter = some it ∧ L2.blkC ce.N ce.sc scope (ownOf ce.N (tgNames tg)) = true ∧ tgOk tg it = true ∧ compTg ⟨ce.N, relS scope ce.sc, ce.G, some scope⟩ tg = some t ∧ (ownOf ce.N (tgNames tg)).map (·.2) = tgIs t ∧
      compE n ⟨ce.N, relS scope ce.sc, ce.G, some scope⟩ elt = some x ∧ ((ifs = [] ∧ y = .cst (.bl true)) ∨ ∃ c, ifs = [c] ∧ compE n ⟨ce.N, relS scope ce.sc, ce.G, some scope⟩ c = some y) := by
  simp only [compE] at h
  split at h
  · rename_i ha
    obtain ⟨it, hi, h⟩ := Option.bind_eq_some_iff.mp h
    split at h
    · rename_i hb
      simp only [Bool.and_eq_true] at hb
      obtain ⟨t, ht, h⟩ := Option.bind_eq_some_iff.mp h
      split at h
      · rename_i hc
        simp only [Bool.and_eq_true, decide_eq_true_eq] at hc
        obtain ⟨x, hx, h⟩ := Option.bind_eq_some_iff.mp h
        split at h
        · cases h
          exact ⟨it, t, x, _, ha, rfl, hi, hb.1, hb.2, ht, hc.1, hx, .inl ⟨rfl, rfl⟩⟩
        · obtain ⟨y, hy, rfl⟩ := Option.map_eq_some_iff.mp h
          exact ⟨it, t, x, y, ha, rfl, hi, hb.1, hb.2, ht, hc.1, hx, .inr ⟨_, rfl, hy⟩⟩
        · cases h
      · cases h
    · cases h
  · cases h
theorem compI_plain {e : Expr} {t : It} (h : compI n ce e = some t) : plainB e = true := by
  cases n with
  | zero => simp [compI] at h
  | succ n =>
    simp only [compI] at h
    split at h
    · rfl
    · rfl
    · obtain ⟨x, hx, rfl⟩ := Option.map_eq_some_iff.mp h
      exact comp_plain hx
theorem sd_e (D : SD Φ n) (X : Cx) (ce : CEnv) (e : Expr) (p : E) (g : Good X ce.G Φ) (F : Fit X ce) (h : compE (n + 1) ce e = some p) : SE X Φ e p := by
  have de : ∀ {e : Expr} {p : E}, compE n ce e = some p → SE X Φ e p := fun h => D.e X ce _ _ g F h
  have st : ∀ {e : Expr} {p : E}, compE n ce e = some p → ∀ r, starEach (e :: r) X.env = (false, eval e X.env) :: starEach r X.env := fun h r => star1 (comp_plain h) r X.env
  have h0 := h
  simp only [compE] at h
  split at h
  · -- a name
    rename_i x pos
    split at h
    · rename_i i hs
      cases h
      obtain ⟨h1, h2, h3⟩ := slot_inv hs
      obtain ⟨b1, b2, b3⟩ := badName_no h1
      exact .of (s_var (F.N ▸ h3) (F.sc ▸ visB_vis h2) b1 b2)
    · split at h
      · rename_i m hg
        cases h
        obtain ⟨h1, h2, h3⟩ := glob_inv hg
        obtain ⟨b1, b2, b3⟩ := badName_no h1
        obtain ⟨u, v, q1, q2, q3⟩ := g.cst x m h3
        exact .of (s_cst (pe_glob (gloB_gl F h2) q1 q2 b1) q3)
      · cases h
  · cases h
    exact .of (s_cst pe_int fun ρ H => .int _)
  · cases h
    exact .of (s_cst pe_bl fun ρ H => .bl _)
  · cases h
    exact .of (s_cst pe_non fun ρ H => .non)
  · split at h
    · rename_i hx
      cases h
      exact .of (s_cst pe_str fun ρ H => .str _ hx)
    · cases h
  · simp only [Option.bind_eq_some_iff, Option.map_eq_some_iff] at h
    obtain ⟨o, ho, x, hx, y, hy, rfl⟩ := h
    exact .of (s_bin ho (de hx).pe (de hy).pe)
  · obtain ⟨x, hx, rfl⟩ := Option.map_eq_some_iff.mp h
    exact .mk2 (s_not (de hx).pe) (t_not (de hx).pt)
  · obtain ⟨x, hx, rfl⟩ := Option.map_eq_some_iff.mp h
    exact .of (s_neg (de hx).pe)
  · -- and, or
    rename_i op a r pp
    obtain ⟨x, hx, h⟩ := Option.bind_eq_some_iff.mp h
    split at h
    · obtain rfl := Option.some.inj h
      have hw : PW X (.BoolOp op [a] pp) (tT X.K Φ x) := by
        cases op with
        | And => exact pw_and1 (de hx).pt
        | Or => exact pw_or1 (de hx).pt
      exact ⟨pe_one (de hx).pe, hw.pt, fun op' vs pos' z => hw⟩
    · rename_i b r
      obtain ⟨y, hy, rfl⟩ := Option.map_eq_some_iff.mp h
      have q := de hy
      cases op with
      | And =>
        have hw := t_and (de hx).pt (q.pw _ _ _ rfl)
        exact ⟨s_and (de hx).pe q.pe, hw.pt, fun op' vs pos' z => hw⟩
      | Or =>
        have hw := t_or (de hx).pt (q.pw _ _ _ rfl)
        exact ⟨s_or (de hx).pe q.pe, hw.pt, fun op' vs pos' z => hw⟩
  · obtain ⟨x, hx, h⟩ := Option.bind_eq_some_iff.mp h
    split at h
    · rename_i hr
      obtain ⟨y, hy, rfl⟩ := Option.map_eq_some_iff.mp h
      obtain ⟨es, p1, p2, p3, p4, j, rfl, rfl, rfl, h0, h1⟩ := repOf_inv hr
      exact .mk2 (s_nerep g.un (de hx).pe (de hy).pe h0 h1) (t_nerep g.un (de hx).pe (de hy).pe h0 h1)
    · obtain ⟨y, hy, rfl⟩ := Option.map_eq_some_iff.mp h
      exact .mk2 (s_cmp g.un (de hx).pe (de hy).pe (behind1 (comp_plain hy) _)) (t_cmp g.un (de hx).pe (de hy).pe (behind1 (comp_plain hy) _))
  · simp only [Option.bind_eq_some_iff, Option.map_eq_some_iff] at h
    obtain ⟨x, hx, y, hy, z, hz, rfl⟩ := h
    exact .mk2 (s_chn g.un (de hx).pe (de hy).pe (de hz).pe (behind1 (comp_plain hz) _)) (t_chn g.un (de hx).pe (de hy).pe (de hz).pe (behind1 (comp_plain hz) _))
  · simp only [Option.bind_eq_some_iff, Option.map_eq_some_iff] at h
    obtain ⟨z, hz, x, hx, y, hy, rfl⟩ := h
    exact .mk2 (s_ite (de hz).pt (de hx).pe (de hy).pe) (t_ite (de hz).pt (de hx).pt (de hy).pt)
  · split at h
    · rename_i hl
      have hl := of_decide_eq_true hl
      obtain ⟨xs, hx, rfl⟩ := Option.map_eq_some_iff.mp h
      exact .of (s_tup (fun e => by rw [(compEs_len hx).2 e]; exact hl) (D.es X ce _ _ g F hx))
    · cases h
  · split at h
    · rename_i hl
      have hl := of_decide_eq_true hl
      obtain ⟨xs, hx, rfl⟩ := Option.map_eq_some_iff.mp h
      exact .of (s_lst (fun e => by rw [(compEs_len hx).2 e]; exact hl) (D.es X ce _ _ g F hx))
    · cases h
  · simp only [Option.bind_eq_some_iff, Option.map_eq_some_iff] at h
    obtain ⟨x, hx, y, hy, rfl⟩ := h
    exact .of (s_upto (de hx).pe (de hy).pe)
  · simp only [Option.bind_eq_some_iff, Option.map_eq_some_iff] at h
    obtain ⟨x, hx, y, hy, rfl⟩ := h
    exact .of (s_frm (de hx).pe (de hy).pe)
  · obtain ⟨x, hx, rfl⟩ := Option.map_eq_some_iff.mp h
    exact .of (s_rev (de hx).pe)
  · cases h
  · -- {k: True}
    obtain ⟨x, hx, rfl⟩ := Option.map_eq_some_iff.mp h
    exact .of (s_dct g.un (de hx).pe)
  · -- an attribute
    split at h
    · rename_i hd
      simp only [Option.bind_eq_some_iff, Option.map_eq_some_iff] at h
      obtain ⟨c, hc, x, hx, rfl⟩ := h
      obtain ⟨q1, q2⟩ := fldG_inv g hc
      exact .of (s_attr q1 q2 (de hx).pe (attrBase1 hd))
    · cases h
  · split at h
    · rename_i hn
      simp only [Option.bind_eq_some_iff, Option.map_eq_some_iff] at h
      obtain ⟨x, hx, y, hy, z, hz, w, hw, rfl⟩ := h
      exact .of (s_pick3 g.un (de hx).pe (de hy).pe (de hz).pe (de hw).pe (plainIx1 (comp_plain hw)) (of_decide_eq_true hn))
    · cases h
  · simp only [Option.bind_eq_some_iff, Option.map_eq_some_iff] at h
    obtain ⟨x, hx, y, hy, rfl⟩ := h
    exact .of (s_sub (de hx).pe (de hy).pe (plainIx1 (comp_plain hy)))
  · -- a call of a name
    rename_i f fp es pos
    split at h
    · rename_i k hg
      obtain ⟨xs, hx, rfl⟩ := Option.map_eq_some_iff.mp h
      obtain ⟨h1, h2, h3⟩ := glob_inv hg
      obtain ⟨b1, b2, b3⟩ := badName_no h1
      exact .of (s_call_any (g.fn f k h3) (gloB_gl F h2) b1 hx (D.es X ce _ _ g F hx))
    · -- a class
      rename_i k hg
      obtain ⟨h1, h2, h3⟩ := glob_inv hg
      obtain ⟨b1, b2, b3⟩ := badName_no h1
      split at h
      · cases h
      · rename_i e es
        obtain ⟨xs, hx, rfl⟩ := Option.map_eq_some_iff.mp h
        have hpl := (compEs_len hx).1
        exact .of (s_mk (g.cls f k h3) (gloB_gl F h2) b1 (D.es X ce _ _ g F hx) (star1 (hpl e List.mem_cons_self) es X.env) (star_any fun z hz => hpl z (List.mem_cons_of_mem _ hz)))
    · rename_i hg
      obtain ⟨h1, h2, h3⟩ := glob_inv hg
      have gl := gloB_gl F h2
      have hm := g.free f h3
      split at h
      · rename_i hf
        subst hf
        split at h
        · rename_i a t tp
          split at h
          · rename_i hb
            simp only [Option.bind_eq_some_iff, Option.map_eq_some_iff] at h
            obtain ⟨ty, hty, x, hx, rfl⟩ := h
            obtain ⟨q1, q2, _⟩ := isBlt_inv g F hb
            exact .of (s_isi gl hm (tyOf_ty hty) q1 q2 (de hx).pe (st hx))
          · cases h
        · cases h
      · split at h
        · rename_i hf
          have one : ∀ {a : Expr} {p : E}, ((bltOf f).bind fun k => (compE n ce a).map fun x => E.blt k (.cons x .nil)) = some p → PE X (.Call (.Name f fp) [a] [] pos) (tE X.K Φ p) := by
            intro a p h
            simp only [Option.bind_eq_some_iff, Option.map_eq_some_iff] at h
            obtain ⟨k, hk, x, hx, rfl⟩ := h
            exact s_blt_one g gl hm h1 hk (comp_plain hx) (de hx).pe
          have tl : f = "tuple" ∧ decide (f = "tuple") = true ∨ f = "list" ∧ decide (f = "tuple") = false := by
            rcases hf with rfl | rfl
            · exact .inl ⟨rfl, by decide⟩
            · exact .inr ⟨rfl, by decide⟩
          split at h
          · rename_i a
            split at h
            · rename_i gg gp b gpos
              split at h
              · rename_i hc
                obtain ⟨rfl, q1, q2⟩ := callOf_inv g F hc
                obtain ⟨x, hx, rfl⟩ := Option.map_eq_some_iff.mp h
                exact .of (s_rgl1 (g := "range") g.calm q1 q2 tl gl hm (de hx).pe (st hx))
              · exact .of (one h)
            · rename_i gg gp b c gpos
              split at h
              · rename_i hc
                obtain ⟨rfl, q1, q2⟩ := callOf_inv g F hc
                simp only [Option.bind_eq_some_iff, Option.map_eq_some_iff] at h
                obtain ⟨x, hx, y, hy, rfl⟩ := h
                exact .of (s_rgl2 (g := "range") g.calm q1 q2 tl gl hm (de hx).pe (de hy).pe (st hx) (st hy))
              · exact .of (one h)
            · exact .of (one h)
          · cases h
        · obtain ⟨k, hk, h⟩ := Option.bind_eq_some_iff.mp h
          split at h
          · rename_i c j o hlen
            obtain ⟨x, hx, rfl⟩ := Option.map_eq_some_iff.mp h
            obtain ⟨rfl, rfl, hmt, xn, xp, rfl⟩ := lenOf_inv hlen
            exact .of (s_lenO (mthG_inv g hmt) gl hm (de hx).pe (st hx _))
          · split at h
            · cases h
            · obtain ⟨xs, hx, rfl⟩ := Option.map_eq_some_iff.mp h
              exact .of (s_blt_any g gl hm h1 hk hx (D.es X ce _ _ g F hx))
    · cases h
  · -- a method
    rename_i o m apos es pos
    split at h
    · rename_i hl
      simp only [Bool.and_eq_true, decide_eq_true_eq] at hl
      obtain ⟨hd, hl, hl2⟩ := hl
      split at h
      · rename_i c k star hmt
        simp only [Option.bind_eq_some_iff, Option.map_eq_some_iff] at h
        obtain ⟨x, hx, xs, hxs, rfl⟩ := h
        have hpl := (compEs_len hxs).1
        have G := mthG_inv g hmt
        have a1 : ∀ e r, es = e :: r → starEach (e :: r) X.env = (false, eval e X.env) :: starEach r X.env := fun e r z => star1 (hpl e (by rw [z]; exact List.mem_cons_self)) r X.env
        have a2 : ∀ e r, es = e :: r → (backTo pos (starEach r X.env)).any (·.1) = false := fun e r z => star_any fun y hy => hpl y (by rw [z]; exact List.mem_cons_of_mem _ hy)
        have a3 : es = [] → xs = .nil := fun z => compEs_nil (by rw [z] at hxs; exact hxs)
        cases star with
        | true => exact .of (s_mcs G (de hx).pe hd hl hl2 (D.es X ce _ _ g F hxs) a3 a1 (plain_any hxs pos X.env) a2)
        | false => exact .of (s_mcl G (de hx).pe hd hl hl2 (D.es X ce _ _ g F hxs) a3 a1 (plain_any hxs pos X.env) a2)
      · split at h
        · rename_i hm
          subst hm
          split at h
          · simp only [Option.bind_eq_some_iff, Option.map_eq_some_iff] at h
            obtain ⟨x, hx, y, hy, rfl⟩ := h
            exact .of (s_cnt (de hx).pe (de hy).pe (attrBase1 hd) hl (st hy _))
          · cases h
        simp only [Option.bind_eq_some_iff] at h
        obtain ⟨k, hk, x, hx, h⟩ := h
        split at h
        · obtain ⟨y, hy, rfl⟩ := Option.map_eq_some_iff.mp h
          rcases mthOf_name hk with ⟨rfl, _⟩ | ⟨_, q⟩ | ⟨_, q⟩
          · exact .of (s_append (de hx).pe (de hy).pe (attrBase1 hd) hl (st hy))
          · cases q
          · cases q
        · obtain ⟨y, hy, rfl⟩ := Option.map_eq_some_iff.mp h
          rcases mthOf_name hk with ⟨_, q⟩ | ⟨rfl, _⟩ | ⟨_, q⟩
          · cases q
          · exact .of (s_popAt (de hx).pe (de hy).pe (attrBase1 hd) hl (st hy))
          · cases q
        · obtain ⟨y, hy, rfl⟩ := Option.map_eq_some_iff.mp h
          rcases mthOf_name hk with ⟨_, q⟩ | ⟨_, q⟩ | ⟨rfl, _⟩
          · cases q
          · cases q
          · exact .of (s_index (de hx).pe (de hy).pe (attrBase1 hd) hl (st hy))
        · cases h
          rcases mthOf_name hk with ⟨_, q⟩ | ⟨rfl, _⟩ | ⟨_, q⟩
          · cases q
          · exact .of (s_pop (de hx).pe (attrBase1 hd) hl)
          · cases q
        · cases h
    · cases h
  · -- a comprehension
    obtain ⟨it, t, x, y, rfl, rfl, hi, hb, hto, ht, ho, hx, hy⟩ := comp_inv h0
    have hs : ∀ v, foldedSetIterable _ X.env v = pure v := fold1 (compI_plain hi) X.env
    obtain ⟨c1, c2, c3, c4, c5⟩ := sd_comp D X ce g F hi hb hto ht ho hx hy hs
    exact .of (s_comp g.calm g.nd c2 c1 ho c3 c4 c5 hs)
  · cases h
theorem sd_all : ∀ n, SD Φ n
  | 0 => ⟨fun X ce e p g F h => by simp [compE] at h, fun X ce es ps g F h => by simp [compEs] at h, fun X ce tg e t g F h _ => by simp [compI] at h⟩
  | n + 1 => ⟨fun X ce e p g F h => sd_e (sd_all n) X ce e p g F h, fun X ce es ps g F h => sd_es (sd_all n) X ce es ps g F h, fun X ce tg e t g F h ht => sd_it (sd_all n) X ce tg e t g F h ht⟩
end
end QR

set_option Elab.async false
set_option linter.all false
set_option maxRecDepth 100000
set_option maxHeartbeats 4000000
/-! QSoundF: what is compiled is sound (statements). -/
namespace QR
open PySem PySem.Spec PyProof.Rows L2
section
variable {K : PySem.W.Frag} {ρ ρ2 fp f : List Addr} {H H2 : Hp} {v : V} {vs : List V} {m y : MV} {ms : List MV} {st st' : Store} {σ : L2.St} {env : Env}
theorem EnvR.set {i : Nat} (h : EnvR K ρ H σ env) (r : Rep K ρ H v m []) : EnvR K ρ H (σ.set i (some v)) (env.set i (some m)) := (h.toX.set (js := []) r).toR
theorem Reps.set1 : ∀ {vs : List V} {ms : List MV} {f : List Addr}, Reps K ρ H vs ms f → f = [] → Rep K ρ H v m [] → ∀ j, Reps K ρ H (vs.set j v) (ms.set j m) []
  | _, _, _, .nil, _, _, _ => .nil
  | _, _, _, .cons h0 r0, hf, h, j => by
    obtain ⟨e1, e2⟩ := List.append_eq_nil_iff.mp hf
    subst e1 e2
    cases j with
    | zero => exact .cons (f := []) (fs := []) h r0
    | succ j => exact .cons (f := []) (fs := []) h0 (Reps.set1 r0 rfl h j)
theorem set_read {c : Nat} {l : Addr} {k : Int} {Q : Hp → Prop} (A : Aft K ρ [] H st ρ2 H2) (hl : ρ2[c]? = some l) (R : Res K [] H ρ2 H2 v y fp) (e : setM (.ref c) (.int k) y st = .val () st') (kk : ∀ ρ' H', Aft K ρ [] H st' ρ' H' → Q H') :
    rSetL (.ref l) (.int k) v H2 Q := by
  obtain ⟨ρ3, A3, B, r3⟩ := R.stored A
  have hl3 := B.ix c l hl
  obtain ⟨cc, hc, q⟩ := A3.rl.at_ hl3
  have e : setC c (.int k) y (alloc y st).1 (alloc y st).2 (alloc y st).2[c]? = .val () st' := e
  rw [hc] at e
  cases q with
  | dct _ _ => cases e
  | obj _ _ _ => cases e
  | @lst vs ms h r =>
    obtain ⟨hb, e⟩ := chk_eq (show chk (decide (0 ≤ k) && decide (k < ms.length)) (Out.val () ((alloc y st).2.set c (.lst (ms.set k.toNat (alloc y st).1)))) = .val () st' from e)
    cases e
    simp only [Bool.and_eq_true, decide_eq_true_eq] at hb
    refine ⟨l, vs, k, k.toNat, rfl, rfl, h, ?_, ?_⟩
    · unfold ixN
      rw [if_pos hb.1, if_pos (by rw [r.length]; exact hb.2)]
    · exact kk ρ3 _ (A3.write hl3 True.intro (fun H4 hk h4 => .lst h4 ((r.set1 rfl r3 _).move hk (fun _ _ z => z) fun _ z => nomatch z)) (A3.mem (List.mem_of_getElem? hl3)))
end
section
variable {X : Cx} {Φ : Phi} {a b c e : Expr} {pa pb pc : E} {ps : S} {pss pss2 : Ss} {pos : Pos} {i j l : Nat} {x y z : Str} {ce : CEnv}
theorem PSet_or {r r' : V → V → V → Hp → (Hp → Prop) → Prop} (h : PSet X r) (h' : PSet X r') : PSet X (fun o i v H Q => r o i v H Q ∨ r' o i v H Q) := by
  intro pins s σ H o i v ov iv u Q I ro ri rv q
  rcases q with q | q
  · exact h pins s σ H o i v ov iv u Q I ro ri rv q
  · exact h' pins s σ H o i v ov iv u Q I ro ri rv q
theorem setD_read {K : PySem.W.Frag} {ρ ρ2 fp : List Addr} {H H2 : Hp} {v : V} {y : MV} {st st' : Store} {c : Nat} {l : Addr} {is : List MV} {b : V} {fb : List Addr} {Q : Hp → Prop} (A : Aft K ρ [] H st ρ2 H2) (hl : ρ2[c]? = some l) (rb : Rep K ρ2 H2 b (.tup is) fb) (R : Res K [] H ρ2 H2 v y fp) (e : setM (.ref c) (.tup is) y st = .val () st') (kk : ∀ ρ' H', Aft K ρ [] H st' ρ' H' → Q H') :
    rSetD K (.ref l) b v H2 Q := by
  obtain ⟨ρ3, A3, B, r3⟩ := R.stored A
  have hl3 := B.ix c l hl
  obtain ⟨cc, hc, q⟩ := A3.rl.at_ hl3
  have e : setC c (.tup is) y (alloc y st).1 (alloc y st).2 (alloc y st).2[c]? = .val () st' := e
  rw [hc] at e
  cases q with
  | lst _ _ => cases e
  | obj _ _ _ => cases e
  | @dct xs h kr =>
    cases ei : keyOf (.tup is) with
    | none =>
      have e : (match keyOf (.tup is) with
        | some k => chk (isTru y && decide ((xs.map (fun x : DE => x.1)).length < big)) (Out.val () ((alloc y st).2.set c (.dct (putKey k (xs.map (fun x : DE => x.1))))))
        | none => .bad) = .val () st' := e
      rw [ei] at e
      cases e
    | some k =>
      have e : (match keyOf (.tup is) with
        | some k => chk (isTru y && decide ((xs.map (fun x : DE => x.1)).length < big)) (Out.val () ((alloc y st).2.set c (.dct (putKey k (xs.map (fun x : DE => x.1))))))
        | none => .bad) = .val () st' := e
      rw [ei] at e
      obtain ⟨hb, e5⟩ := chk_eq e
      clear e
      cases e5
      simp only [Bool.and_eq_true, decide_eq_true_eq] at hb
      obtain ⟨hy, hb⟩ := hb
      have ey : y = .bl true := by
        cases y with
        | bl b => cases b with
          | true => rfl
          | false => cases hy
        | _ => cases hy
      subst ey
      obtain ⟨rfl, _⟩ := R.rep.bl_inv
      have ez := keyOf_inv ei
      rw [ez] at rb
      obtain ⟨bb, rfl, hbb, _⟩ := rb.key
      have hk : (putE xs k bb).map (fun x : DE => x.1) = putKey k (xs.map fun x : DE => x.1) := putE_keys
      refine ⟨l, bb, xs, k, rfl, rfl, rfl, h, kr, hbb, ?_, ?_⟩
      · rw [List.length_map] at hb
        exact Nat.lt_of_lt_of_le hb big_le
      · have W := A3.write (o := DctO l (putE xs k bb)) (c := .dct ((putE xs k bb).map fun x : DE => x.1)) hl3 True.intro (fun H4 hk4 h4 => .dct h4 fun x hx => ⟨hk4.sqT (putE_at kr hbb x hx).1, (putE_at kr hbb x hx).2⟩) (A3.mem (List.mem_of_getElem? hl3))
        rw [hk] at W
        exact kk ρ3 _ W
theorem st_setL {p2 : Pos} (hu : X.A.units + 65 < cLine) (he : PE X e (tE X.K Φ pc)) (ha : PE X a (tE X.K Φ pa)) (hb : PE X b (tE X.K Φ pb)) (hp : plainB b = true) (hs : swapsWithSole [.Subscript a b p2] e pos.line X.env = pure false) :
    PS X (.Assign [.Subscript a b p2] e pos) (tS X.K Φ (.set pa pb pc)) := by
  have hg : PG X (.Subscript a b p2) (gSub (tE X.K Φ pa) (tE X.K Φ pb) (fun o i v H Q => rSetL o i v H Q ∨ rSetD X.K o i v H Q)) := pg_sub ha hb (PSet_or set_list (set_dct (by omega))) (by intro v; cases b <;> first | rfl | cases hp)
  refine (ps_asg he hg hs (by cases e <;> rfl)).qof fun D σ H ⟨env, ρ, st, hE, R, k⟩ => ?_
  obtain ⟨x, st1, e1, k⟩ := bindS_eq k
  obtain ⟨p, st2, e2, k⟩ := bindS_eq k
  obtain ⟨y, st3, e3, k⟩ := bindS_eq k
  obtain ⟨u, st4, e4, k4⟩ := bindS_eq k
  cases u
  refine tE_one hE R e1 fun v ρ1 f H1 A hE1 r => ?_
  refine tE_two (R' := fun o w H2 => rSetL o w v H2 (fun H3 => D.nx σ H3) ∨ rSetD X.K o w v H2 (fun H3 => D.nx σ H3)) hE1 A.rl e2 e3 fun o w ρ2 g H2 B hE2 s => ?_
  obtain ⟨o1, w1, f1, g1, q1, q2, r1, r2⟩ := s.rep.two
  cases q1
  have hpc : ∃ c, p = .ref c := by
    cases p <;> first | exact ⟨_, rfl⟩ | cases e4
  obtain ⟨c, rfl⟩ := hpc
  have AB := A.trans B noBl
  have rv : Res X.K [] H ρ2 H2 v x f := Res.keep (bl := []) r A B
  obtain ⟨l, rfl, hl⟩ := ref_at r1
  have kk : ∀ ρ' H', Aft X.K ρ [] H st4 ρ' H' → D.nx σ H' := fun ρ' H' W => k4 σ ρ' H' W (hE.after W R.wr noAl)
  have hyk : (∃ k, y = .int k) ∨ ∃ is, y = .tup is := by
    have e4 : setC c y x (alloc x st3).1 (alloc x st3).2 (alloc x st3).2[c]? = .val () st4 := e4
    cases hcc : (alloc x st3).2[c]? with
    | none => rw [hcc] at e4; cases e4
    | some cc =>
      rw [hcc] at e4
      cases cc with
      | obj _ _ => cases e4
      | dct _ => cases y <;> first | exact .inr ⟨_, rfl⟩ | cases e4
      | lst xs => cases y <;> first | exact .inl ⟨_, rfl⟩ | cases e4
  rcases hyk with ⟨k0, rfl⟩ | ⟨is, rfl⟩
  · obtain ⟨rfl, _⟩ := r2.int_inv
    exact .inl (set_read AB hl rv e4 kk)
  · exact .inr (setD_read AB hl r2 rv e4 kk)
/-- o.f = e -/
theorem st_seta {cn f : Str} {p2 : Pos} (hc : Cls X.K (He.ga X.K cn)) (hn : NoAttr X.K (He.ga X.K cn) f) (he : PE X e (tE X.K Φ pc)) (ha : PE X a (tE X.K Φ pa)) (hs : swapsWith e (some (.Attribute a f p2)) pos.line X.env = pure false) :
    PS X (.Assign [.Attribute a f p2] e pos) (tS X.K Φ (.seta cn pa f pc)) := by
  refine (ps_fld ha he hs).qof fun D σ H ⟨env, ρ, st, hE, R, k⟩ => ?_
  obtain ⟨x, st1, e1, k⟩ := bindS_eq k
  obtain ⟨p, st2, e2, k⟩ := bindS_eq k
  obtain ⟨u, st3, e3, k3⟩ := bindS_eq k
  cases u
  refine tE_one hE R e1 fun v ρ1 f1 H1 A hE1 r => tE_one hE1 A.rl e2 fun o ρ2 f2 H2 B hE2 s => ?_
  have hpc : ∃ c, p = .ref c := by
    cases p <;> first | exact ⟨_, rfl⟩ | cases e3
  obtain ⟨c, rfl⟩ := hpc
  have AB := A.trans B noBl
  have rv : Res X.K [] H ρ2 H2 v x f1 := Res.keep (bl := []) r A B
  obtain ⟨l, rfl, hl⟩ := ref_at s.rep
  obtain ⟨ρ3, A3, C, r3⟩ := rv.stored AB
  have hl3 := C.ix c l hl
  obtain ⟨cc, hcc, q⟩ := A3.rl.at_ hl3
  have e3 : (match (alloc x st2).2[c]? with
    | some (.obj d fs) => chk (decide (d = cn) && decide (fs.length < 100)) (Out.val () ((alloc x st2).2.set c (.obj cn (QR.putF f (alloc x st2).1 fs))))
    | _ => .bad) = .val () st3 := e3
  rw [hcc] at e3
  cases q with
  | lst _ _ => cases e3
  | dct _ _ => cases e3
  | @obj dx d gs fs h1 h2 h3 =>
    obtain ⟨hb, e4⟩ := chk_eq (show chk (decide (d = cn) && decide (fs.length < 100)) (Out.val () ((alloc x st2).2.set c (.obj cn (QR.putF f (alloc x st2).1 fs)))) = .val () st3 from e3)
    cases e4
    simp only [Bool.and_eq_true, decide_eq_true_eq] at hb
    obtain ⟨rfl, hb⟩ := hb
    have hlen : gs.length = fs.length := by
      have := congrArg List.length h2
      rwa [List.length_map, List.length_map] at this
    refine ⟨l, _, dx, gs, rfl, h1, hc, hn, by omega, ?_⟩
    obtain ⟨p1, p2⟩ := putF_rep (f := f) r3 h2 h3
    have W := A3.write (o := .ins (He.ga X.K d) dx (L2.putF f v gs)) (c := .obj d (QR.putF f (alloc x st2).1 fs)) hl3 True.intro (fun H4 hk4 h4 => .obj h4 p1 (p2.move hk4 (fun _ _ z => z) fun _ z => nomatch z)) (A3.mem (List.mem_of_getElem? hl3))
    exact k3 σ ρ3 _ W (hE.after W R.wr noAl)
theorem st_par {px py pt : Pos} {kt k2 : Nat} {pt2 : Pos} (hc : X.calm = true) (hN : X.N.Nodup) (hi : X.N[i]? = some x) (hj : X.N[j]? = some y) (hij : i ≠ j) (hx : X.env.scope.names.lookup x = some .local) (hy : X.env.scope.names.lookup y = some .local) (hab : PA X [a, b] (tEs X.K Φ (.cons pa (.cons pb .nil))))
    (hw : swappedStores [.Tuple [.Name x px, .Name y py] kt pt] (.Tuple [a, b] k2 pt2) X.env = pure (some [x, y])) :
    PS X (.Assign [.Tuple [.Name x px, .Name y py] kt pt] (.Tuple [a, b] k2 pt2) pos) (tS X.K Φ (.asg (.nms [i, j]) (.tup (.cons pa (.cons pb .nil))))) :=
  (ps_par hc hN hi hj hij hx hy hab hw).qof fun D σ H ⟨env, ρ, st, hE, R, k⟩ => by
    obtain ⟨m, st1, e1, k⟩ := bindS_eq k
    obtain ⟨xs, st2, e1, e3⟩ := Out.bind_eq (show (evs Φ (.cons pa (.cons pb .nil)) env st).bind (fun vs st => .val (.tup vs) st) = .val m st1 from e1)
    cases e3
    obtain ⟨env2, st3, e2, k⟩ := bindS_eq k
    obtain ⟨hl, e2⟩ := chk_eq (show chk (decide (xs.length = 2)) (.val (asgs [i, j] (allocs xs st1).1 env) (allocs xs st1).2) = Out.val env2 st3 from e2)
    cases e2
    refine ⟨env, ρ, st, xs, st1, hE, R, e1, fun vs ρ1 fp H1 A s => ?_⟩
    obtain ⟨ρ2, A2, B, r2⟩ := s.stored A
    have hl2 := r2.length
    have hl3 := s.rep.length
    have hl := of_decide_eq_true hl
    have hE2 := hE.after A2 R.wr noAl
    match vs, hl3, hl2, r2 with
    | [], q1, q2, r2 => simp [← q1] at hl
    | [v], q1, q2, r2 => simp [← q1] at hl
    | v :: w :: u :: vs, q1, q2, r2 => rw [← q1] at hl; simp at hl
    | [v, w], q1, q2, r2 =>
      generalize hms : (allocs xs st1).1 = ms at r2 q2 k
      match ms, q2, r2 with
      | [p, q], _, r2 =>
        obtain ⟨v1, w1, f, g, z1, z2, r3, r4⟩ := r2.two
        cases z1
        obtain ⟨rfl, rfl⟩ := List.append_eq_nil_iff.mp z2.symm
        exact ⟨v, w, rfl, k _ ρ2 H1 A2 ((hE2.set r3).set r4)⟩
theorem Reps.three {K : PySem.W.Frag} {ρ fp : List Addr} {H : Hp} {vs : List V} {x y z : MV} (r : Reps K ρ H vs [x, y, z] fp) (hf : fp = []) : ∃ u v w, vs = [u, v, w] ∧ Rep K ρ H u x [] ∧ Rep K ρ H v y [] ∧ Rep K ρ H w z [] := by
  cases r with
  | cons h r =>
    obtain ⟨e1, e2⟩ := List.append_eq_nil_iff.mp hf
    subst e1
    obtain ⟨v, w, f, g, rfl, e3, r1, r2⟩ := r.two
    rw [e2] at e3
    obtain ⟨rfl, rfl⟩ := List.append_eq_nil_iff.mp e3.symm
    exact ⟨_, v, w, rfl, h, r1, r2⟩
theorem st_par3 {px py pz pt : Pos} {kt k2 : Nat} {pt2 : Pos} (hc : X.calm = true) (hN : X.N.Nodup) (hi : X.N[i]? = some x) (hj : X.N[j]? = some y) (hl : X.N[l]? = some z) (hij : i ≠ j) (hil : i ≠ l) (hjl : j ≠ l) (hx : X.env.scope.names.lookup x = some .local) (hy : X.env.scope.names.lookup y = some .local) (hz : X.env.scope.names.lookup z = some .local)
    (hab : PA X [a, b, c] (tEs X.K Φ (.cons pa (.cons pb (.cons pc .nil)))))
    (hw : swappedStores [.Tuple [.Name x px, .Name y py, .Name z pz] kt pt] (.Tuple [a, b, c] k2 pt2) X.env = pure (some [x, y, z])) :
    PS X (.Assign [.Tuple [.Name x px, .Name y py, .Name z pz] kt pt] (.Tuple [a, b, c] k2 pt2) pos) (tS X.K Φ (.asg (.nms [i, j, l]) (.tup (.cons pa (.cons pb (.cons pc .nil)))))) :=
  (ps_par3 hc hN hi hj hl hij hil hjl hx hy hz hab hw).qof fun D σ H ⟨env, ρ, st, hE, R, k⟩ => by
    obtain ⟨m, st1, e1, k⟩ := bindS_eq k
    obtain ⟨xs, st2, e1, e3⟩ := Out.bind_eq (show (evs Φ (.cons pa (.cons pb (.cons pc .nil))) env st).bind (fun vs st => .val (.tup vs) st) = .val m st1 from e1)
    cases e3
    obtain ⟨env2, st3, e2, k⟩ := bindS_eq k
    obtain ⟨hl, e2⟩ := chk_eq (show chk (decide (xs.length = 3)) (.val (asgs [i, j, l] (allocs xs st1).1 env) (allocs xs st1).2) = Out.val env2 st3 from e2)
    cases e2
    refine ⟨env, ρ, st, xs, st1, hE, R, e1, fun vs ρ1 fp H1 A s => ?_⟩
    obtain ⟨ρ2, A2, B, r2⟩ := s.stored A
    have hl2 := r2.length
    have hl3 := s.rep.length
    have hl := of_decide_eq_true hl
    have hE2 := hE.after A2 R.wr noAl
    generalize hms : (allocs xs st1).1 = ms at r2 hl2 k
    rw [hl3, hl] at hl2
    match ms, hl2, r2 with
    | [p, q, r], _, r2 =>
      obtain ⟨u, v, w, rfl, r3, r4, r5⟩ := r2.three rfl
      exact ⟨u, v, w, rfl, k _ ρ2 H1 A2 (((hE2.set r3).set r4).set r5)⟩
/-! the swap of stores -/
theorem sw_eval {ts vs : List Expr} {kt k2 : Nat} {pt pt2 : Pos} {env : PySem.Env} (hk : env.scope.kind = .function) (h2 : swKind env.scope ts vs ≠ 2) :
    swappedStores [.Tuple ts kt pt] (.Tuple vs k2 pt2) env = if swKind env.scope ts vs = 0 then pure none else pure (some (swNames env.scope ts)) := by
  have hb : env.blockKind = .function := by
    unfold Env.blockKind
    rw [hk]
    rfl
  have key : swappedStores [.Tuple ts kt pt] (.Tuple vs k2 pt2) env = (if (!(ts.length == 2 || ts.length == 3) || vs.length != ts.length) = true then pure none else if vs.any isStar = true then pure none
      else if ((swNames env.scope ts).length != ts.length || (swNames env.scope ts).eraseDups.length != (swNames env.scope ts).length) = true then pure none
      else if vs.all (foldedForSure 8) = true then pure none else if vs.all (constantsAlone 8) = true then (do
        unsupported "assign.tuple-of-constant-expressions:order-of-the-stores"
        pure (some (swNames env.scope ts))) else pure (some (swNames env.scope ts))) := by
    unfold swappedStores
    have hkk : (ScopeKind.function != ScopeKind.function) = false := rfl
    simp only [hb, hkk, Bool.or_false]
    rfl
  rw [key]
  unfold swKind at h2 ⊢
  by_cases c1 : (!(ts.length == 2 || ts.length == 3) || vs.length != ts.length) = true
  · simp only [c1, if_true]
  · rw [if_neg c1] at h2 ⊢
    rw [if_neg c1]
    by_cases c2 : vs.any isStar = true
    · simp only [c2, if_true]
    · rw [if_neg c2] at h2 ⊢
      rw [if_neg c2]
      by_cases c3 : ((swNames env.scope ts).length != ts.length || (swNames env.scope ts).eraseDups.length != (swNames env.scope ts).length) = true
      · simp only [c3, if_true]
      · rw [if_neg c3] at h2 ⊢
        rw [if_neg c3]
        by_cases c4 : vs.all (foldedForSure 8) = true
        · simp only [c4, if_true]
        · rw [if_neg c4] at h2 ⊢
          rw [if_neg c4]
          by_cases c5 : vs.all (constantsAlone 8) = true
          · rw [if_pos c5] at h2
            exact absurd rfl h2
          · rw [if_neg c5, if_neg c5]
            rfl
theorem sw_one {ts vs : List Expr} {sc : Scope} (h : swKind sc ts vs ≠ 0) : ((ts.length = 2 ∨ ts.length = 3) ∧ vs.length = ts.length) ∧ (swNames sc ts).length = ts.length ∧ (swNames sc ts).eraseDups.length = (swNames sc ts).length := by
  unfold swKind at h
  by_cases c1 : (!(ts.length == 2 || ts.length == 3) || vs.length != ts.length) = true
  · rw [if_pos c1] at h; exact absurd rfl h
  · rw [if_neg c1] at h
    by_cases c2 : vs.any isStar = true
    · rw [if_pos c2] at h; exact absurd rfl h
    · rw [if_neg c2] at h
      by_cases c3 : ((swNames sc ts).length != ts.length || (swNames sc ts).eraseDups.length != (swNames sc ts).length) = true
      · rw [if_pos c3] at h; exact absurd rfl h
      · simp at c1 c3
        exact ⟨⟨by omega, c1.2⟩, c3.1, c3.2⟩
theorem swNames_cons {sc : Scope} {l0 : Nat} {t : Expr} {ts : List Expr} (f : Expr → Option Str) (h : ((t :: ts).filterMap f).length = (t :: ts).length) : ∃ x, f t = some x ∧ (t :: ts).filterMap f = x :: ts.filterMap f ∧ (ts.filterMap f).length = ts.length := by
  cases e : f t with
  | none =>
    rw [List.filterMap_cons_none e] at h
    have := List.length_filterMap_le f ts
    simp at h
    omega
  | some x =>
    rw [List.filterMap_cons_some e] at h ⊢
    exact ⟨x, rfl, rfl, by simpa using h⟩
theorem sw_loc {sc : Scope} {l0 : Nat} {x y : Str} {p : Pos} (h : (if (sc.names.lookup x == some .local && p.line == l0) = true then some x else none) = some y) : y = x ∧ sc.names.lookup x = some .local := by
  split at h
  · rename_i hc
    simp only [Bool.and_eq_true] at hc
    cases h
    exact ⟨rfl, by simpa using hc.1⟩
  · cases h
theorem er2 {x y : Str} (h : [x, y].eraseDups.length = 2) : x ≠ y := by
  rintro rfl
  simp [List.eraseDups_cons] at h
theorem er3 {x y z : Str} (h : [x, y, z].eraseDups.length = 3) : x ≠ y ∧ x ≠ z ∧ y ≠ z := by
  refine ⟨?_, ?_, ?_⟩
  · rintro rfl
    by_cases q : z = x <;> simp [List.eraseDups_cons, List.filter_cons, q] at h
  · rintro rfl
    by_cases q : y = x <;> simp [List.eraseDups_cons, List.filter_cons, q] at h
  · rintro rfl
    by_cases q : y = x <;> simp [List.eraseDups_cons, List.filter_cons, q] at h
theorem ix_ne {N : List Str} {i j : Nat} {x y : Str} (hi : N[i]? = some x) (hj : N[j]? = some y) (h : x ≠ y) : i ≠ j := by
  rintro rfl
  rw [hi] at hj
  exact h (Option.some.inj hj)
theorem nms_len (ce : CEnv) : ∀ {es : List Expr} {is : List Nat}, nmsOf ce es = some is → is.length = es.length
  | [], is, h => by cases h; rfl
  | e :: r, is, h => by
    cases e with
    | Name x p =>
      simp only [nmsOf, Option.bind_eq_some_iff, Option.map_eq_some_iff] at h
      obtain ⟨i, _, js, h2, rfl⟩ := h
      exact congrArg (· + 1) (nms_len ce h2)
    | _ => cases h
theorem nms_name {e : Expr} {r : List Expr} {is : List Nat} (h : nmsOf ce (e :: r) = some is) : ∃ x p i js, e = .Name x p ∧ slotS ce x = some i ∧ nmsOf ce r = some js ∧ is = i :: js := by
  cases e with
  | Name x p =>
    simp only [nmsOf, Option.bind_eq_some_iff, Option.map_eq_some_iff] at h
    obtain ⟨i, h1, js, h2, rfl⟩ := h
    exact ⟨x, p, i, js, rfl, h1, h2, rfl⟩
  | _ => cases h
/-- a tuple is stored to names -/
theorem st_tups {n : Nat} (g : Good X ce.G Φ) (F : Fit X ce) {ts vs : List Expr} {kt k2 : Nat} {pt pt2 : Pos} {is : List Nat} {p : E} (hsw : swKind ce.sc ts vs ≠ 2) (hi : nmsOf ce ts = some is) (h : compE n ce (.Tuple vs k2 pt2) = some p) :
    PS X (.Assign [.Tuple ts kt pt] (.Tuple vs k2 pt2) pos) (tS X.K Φ (.asg (.nms is) p)) := by
  have he := ((sd_all n).e X ce _ _ g F h).pe
  have hsw' : swKind X.env.scope ts vs ≠ 2 := by rw [← F.sc]; exact hsw
  have hg : PG X (.Tuple ts kt pt) (gT X.K (.nms is)) := tg_pg F g.nd g.calm (by show (nmsOf ce ts).map Tg.nms = _; rw [hi]; rfl)
  have ev := sw_eval (kt := kt) (k2 := k2) (pt := pt) (pt2 := pt2) g.kind hsw'
  by_cases h0 : swKind X.env.scope ts vs = 0
  · rw [if_pos h0] at ev
    exact st_asg he hg rfl ev rfl
  · rw [if_neg h0] at ev
    obtain ⟨⟨hl, hv⟩, hn, hd⟩ := sw_one h0
    cases n with
    | zero => simp [compE] at h
    | succ n =>
      simp only [compE] at h
      split at h
      · obtain ⟨xs, hx, rfl⟩ := Option.map_eq_some_iff.mp h
        have hpa := (sd_all n).es X ce _ _ g F hx
        rcases hl with hl | hl
        · match ts, vs, hl, hv with
          | [t0, t1], [a, b], _, _ =>
            obtain ⟨x, px, i, js1, rfl, s1, hi1, rfl⟩ := nms_name hi
            obtain ⟨y, py, j, js2, rfl, s2, hi2, rfl⟩ := nms_name hi1
            cases hi2
            obtain ⟨x1, w1, w2, w3⟩ := swNames_cons (sc := X.env.scope) (l0 := 0) _ hn
            obtain ⟨y1, w4, w5, w6⟩ := swNames_cons (sc := X.env.scope) (l0 := 0) _ w3
            obtain ⟨rfl, lx⟩ := sw_loc (p := px) w1
            obtain ⟨rfl, ly⟩ := sw_loc (p := py) w4
            have hns : swNames X.env.scope [.Name x1 px, .Name y1 py] = [x1, y1] := by
              show List.filterMap _ _ = _
              rw [w2, w5]
              rfl
            rw [hns] at ev hd
            have ne := er2 hd
            obtain ⟨_, _, _, n1⟩ := slotS_inv s1
            obtain ⟨_, _, _, n2⟩ := slotS_inv s2
            cases n with
            | zero => simp [compEs] at hx
            | succ n =>
            cases n with
            | zero => simp [compEs] at hx
            | succ n =>
            cases n with
            | zero => simp [compEs] at hx
            | succ n =>
            simp only [compEs, Option.bind_eq_some_iff, Option.map_eq_some_iff] at hx
            obtain ⟨pa, _, xs1, ⟨pb, _, xs2, q, rfl⟩, rfl⟩ := hx
            cases q
            exact st_par g.calm g.nd (F.N ▸ n1) (F.N ▸ n2) (ix_ne n1 n2 ne) lx ly hpa ev
        · match ts, vs, hl, hv with
          | [t0, t1, t2], [a, b, c], _, _ =>
            obtain ⟨x, px, i, js1, rfl, s1, hi1, rfl⟩ := nms_name hi
            obtain ⟨y, py, j, js2, rfl, s2, hi2, rfl⟩ := nms_name hi1
            obtain ⟨z, pz, l, js3, rfl, s3, hi3, rfl⟩ := nms_name hi2
            cases hi3
            obtain ⟨x1, w1, w2, w3⟩ := swNames_cons (sc := X.env.scope) (l0 := 0) _ hn
            obtain ⟨y1, w4, w5, w6⟩ := swNames_cons (sc := X.env.scope) (l0 := 0) _ w3
            obtain ⟨z1, w7, w8, w9⟩ := swNames_cons (sc := X.env.scope) (l0 := 0) _ w6
            obtain ⟨rfl, lx⟩ := sw_loc (p := px) w1
            obtain ⟨rfl, ly⟩ := sw_loc (p := py) w4
            obtain ⟨rfl, lz⟩ := sw_loc (p := pz) w7
            have hns : swNames X.env.scope [.Name x1 px, .Name y1 py, .Name z1 pz] = [x1, y1, z1] := by
              show List.filterMap _ _ = _
              rw [w2, w5, w8]
              rfl
            rw [hns] at ev hd
            obtain ⟨ne1, ne2, ne3⟩ := er3 hd
            obtain ⟨_, _, _, n1⟩ := slotS_inv s1
            obtain ⟨_, _, _, n2⟩ := slotS_inv s2
            obtain ⟨_, _, _, n3⟩ := slotS_inv s3
            cases n with
            | zero => simp [compEs] at hx
            | succ n =>
            cases n with
            | zero => simp [compEs] at hx
            | succ n =>
            cases n with
            | zero => simp [compEs] at hx
            | succ n =>
            cases n with
            | zero => simp [compEs] at hx
            | succ n =>
            simp only [compEs, Option.bind_eq_some_iff, Option.map_eq_some_iff] at hx
            obtain ⟨pa, _, xs1, ⟨pb, _, xs2, ⟨pc, _, xs3, q, rfl⟩, rfl⟩, rfl⟩ := hx
            cases q
            exact st_par3 g.calm g.nd (F.N ▸ n1) (F.N ▸ n2) (F.N ▸ n3) (ix_ne n1 n2 ne1) (ix_ne n1 n3 ne2) (ix_ne n2 n3 ne3) lx ly lz hpa ev
      · cases h
end
end QR

set_option Elab.async false
set_option linter.all false
set_option maxRecDepth 100000
set_option maxHeartbeats 4000000
/-! QSoundG: what is compiled is sound (statements, defs). -/
namespace QR
open PySem PySem.Spec PyProof.Rows L2
section
variable {X : Cx} {Φ : Phi} {ce : CEnv} {x : Str} {i : Nat} {pos : Pos} {n : Nat}
theorem swaps1 {e : Expr} (h : isComp e = false) (t : Option Expr) (l : Nat) (env : PySem.Env) : swapsWith e t l env = pure false := by
  cases e <;> first | rfl | cases h
theorem sole1 {e : Expr} (h : isComp e = false) (t : Expr) (l : Nat) (env : PySem.Env) : swapsWithSole [t] e l env = pure false := swaps1 h _ _ _
theorem swapped_name {p : Pos} {e : Expr} {env : PySem.Env} : swappedStores [.Name x p] e env = pure none := by
  cases e <;> rfl
theorem compTg_is {tg : Expr} {t : Tg} (h : compTg ce tg = some t) : (∃ x p i, tg = .Name x p ∧ t = .nm i ∧ slotS ce x = some i) ∨ ∃ es k p is, tg = .Tuple es k p ∧ t = .nms is ∧ nmsOf ce es = some is := by
  cases tg with
  | Name x p =>
    obtain ⟨i, h1, rfl⟩ := Option.map_eq_some_iff.mp (show (slotS ce x).map Tg.nm = some t from h)
    exact .inl ⟨x, p, i, rfl, rfl, h1⟩
  | Tuple es k p =>
    obtain ⟨is, h1, rfl⟩ := Option.map_eq_some_iff.mp (show (nmsOf ce es).map Tg.nms = some t from h)
    exact .inr ⟨es, k, p, is, rfl, rfl, h1⟩
  | _ => cases h
theorem comp_isComp {e : Expr} {p : E} (h : compE n ce e = some p) (hc : isComp e = true) : ∃ elt gs scope pos, e = .ListComp elt gs scope pos := by
  have := comp_plain h
  cases e <;> first | exact ⟨_, _, _, _, rfl⟩ | (simp [plainB] at this; done) | (simp [isComp] at hc; done)
theorem compE_gens {elt : Expr} {gs : List Comprehension} {scope : Scope} {p : E} (h : compE n ce (.ListComp elt gs scope pos) = some p) : ∃ tg iter ifs a, gs = [⟨tg, iter, ifs, a⟩] := by
  cases n with
  | zero => simp [compE] at h
  | succ n =>
    match gs, h with
    | [], h => simp [compE] at h
    | [⟨tg, iter, ifs, a⟩], _ => exact ⟨tg, iter, ifs, a, rfl⟩
    | _ :: _ :: _, h => simp [compE] at h
theorem st_asgs (g : Good X ce.G Φ) (F : Fit X ce) {tg e : Expr} {t : Tg} {p : E} (hw : swOk ce.sc tg e = true) (he : compE n ce e = some p) (ht : compTg ce tg = some t) : PS X (.Assign [tg] e pos) (tS X.K Φ (.asg t p)) := by
  have hpe := ((sd_all n).e X ce _ _ g F he).pe
  have hg := tg_pg F g.nd g.calm ht
  rcases compTg_is ht with ⟨x, px, i, rfl, rfl, h1⟩ | ⟨es, k, pt, is, rfl, rfl, h1⟩
  · -- a name
    obtain ⟨b1, b2, b3, b4⟩ := slotS_inv h1
    cases hc : isComp e with
    | false => exact st_asg hpe hg (sole1 hc _ _ _) swapped_name rfl
    | true =>
      obtain ⟨elt, gs, scope, cpos, rfl⟩ := comp_isComp he hc
      obtain ⟨tgx, iter, ifs, a, rfl⟩ := compE_gens he
      have hsw : ∃ b : Bool, swapsWith (.ListComp elt [⟨tgx, iter, ifs, a⟩] scope cpos) (some (.Name x px)) pos.line X.env = pure b ∧ (b = true → X.env.scope.names.lookup x = some .local) := by
        refine ⟨_, rfl, fun h => ?_⟩
        simp only [Bool.and_eq_true] at h
        have := h.1.1.2
        show X.env.kindOf x = some .local
        simpa using this
      obtain ⟨b, hs, hb⟩ := hsw
      cases b with
      | false => exact st_asg hpe hg hs swapped_name rfl
      | true =>
        cases n with
        | zero => simp [compE] at he
        | succ n =>
          obtain ⟨it, t, x1, y1, rfl, rfl, hi, hbk, hto, htt, ho, hx, hy⟩ := comp_inv he
          have hf : ∀ v, foldedSetIterable iter X.env v = pure v := fold1 (compI_plain hi) X.env
          obtain ⟨c1, c2, c3, c4, c5⟩ := sd_comp (sd_all n) X ce g F hi hbk hto htt ho hx hy hf
          exact st_setLc g.calm g.nd (F.N ▸ b4) (hb rfl) hs c2 c1 ho c3 c4 c5 hf
  · -- a tuple
    have hs : swapsWithSole [.Tuple es k pt] e pos.line X.env = pure false := by
      cases e <;> rfl
    by_cases hte : ∃ vs k2 p2, e = .Tuple vs k2 p2
    · obtain ⟨vs, k2, p2, rfl⟩ := hte
      exact st_tups g F (of_decide_eq_true hw) h1 he
    · refine st_asg hpe hg hs ?_ rfl
      cases e <;> first | rfl | exact absurd ⟨_, _, _, rfl⟩ hte
theorem unitIn_inv {e : Expr} (h : unitIn e = true) : ∃ j p q, e = .List [.Tuple [] j p] q := by
  unfold unitIn at h
  split at h
  · exact ⟨_, _, _, rfl⟩
  · cases h
structure SDS (Φ : Phi) (n : Nat) : Prop where
  s : ∀ (X : Cx) (ce : CEnv) (e : Stmt) (p : S), Good X ce.G Φ → Fit X ce → compS n ce e = some p → PS X e (tS X.K Φ p)
  ss : ∀ (X : Cx) (ce : CEnv) (es : List Stmt) (ps : Ss), Good X ce.G Φ → Fit X ce → compSs n ce es = some ps → PSs X es (tSs X.K Φ ps)
theorem sd_s (D : SDS Φ n) (X : Cx) (ce : CEnv) (e : Stmt) (p : S) (g : Good X ce.G Φ) (F : Fit X ce) (h : compS (n + 1) ce e = some p) : PS X e (tS X.K Φ p) := by
  have de : ∀ {e : Expr} {p : E}, compE n ce e = some p → SE X Φ e p := fun h => (sd_all n).e X ce _ _ g F h
  simp only [compS] at h
  split at h
  · -- an assignment
    rename_i tg e pos
    split at h
    · rename_i a i p2
      split at h
      · cases h
      · split at h
        · cases h
        · rename_i hc
          simp only [Option.bind_eq_some_iff, Option.map_eq_some_iff] at h
          obtain ⟨x, hx, y, hy, z, hz, rfl⟩ := h
          exact st_setL g.un (de hx).pe (de hy).pe (de hz).pe (comp_plain hz) (sole1 (by simpa using hc) _ _ _)
    · rename_i o f p2
      split at h
      · cases h
      · rename_i hc
        simp only [Option.bind_eq_some_iff, Option.map_eq_some_iff] at h
        obtain ⟨c, hcf, x, hx, y, hy, rfl⟩ := h
        simp only [Bool.or_eq_true, not_or, Bool.not_eq_true] at hc
        obtain ⟨q1, q2⟩ := fldG_inv g hcf
        split at hx
        · rename_i hu
          cases hx
          obtain ⟨j, p3, p4, rfl⟩ := unitIn_inv hu
          exact st_seta q1 q2 (s_lst (fun z => by cases z; exact Nat.le_of_ble_eq_true rfl) (s_cons s_xte s_nil (by rfl))) (de hy).pe (swaps1 hc.1 _ _ _)
        · exact st_seta q1 q2 (de hx).pe (de hy).pe (swaps1 hc.1 _ _ _)
    · split at h
      · rename_i hw
        simp only [Option.bind_eq_some_iff, Option.map_eq_some_iff] at h
        obtain ⟨x, hx, t, ht, rfl⟩ := h
        exact st_asgs g F hw hx ht
      · cases h
  · rename_i x px e pos
    simp only [Option.bind_eq_some_iff, Option.map_eq_some_iff] at h
    obtain ⟨i, hi, y, hy, rfl⟩ := h
    obtain ⟨b1, b2, b3, b4⟩ := slotS_inv hi
    exact st_aug g.nd (F.N ▸ b4) (F.sc ▸ locB_loc b2) (de hy).pe (F.fn x b3 b2)
  · split at h
    · cases h
    · rename_i hc
      obtain ⟨x, hx, rfl⟩ := Option.map_eq_some_iff.mp h
      exact st_exp (de hx).pe (swaps1 (by simpa using hc) _ _ _)
  · obtain ⟨x, hx, rfl⟩ := Option.map_eq_some_iff.mp h
    exact st_ret (de hx).pe
  · simp only [Option.bind_eq_some_iff, Option.map_eq_some_iff] at h
    obtain ⟨x, hx, y, hy, z, hz, rfl⟩ := h
    exact st_if (de hx).pt (D.ss X ce _ _ g F hy) (D.ss X ce _ _ g F hz)
  · obtain ⟨i, hi, h⟩ := Option.bind_eq_some_iff.mp h
    split at h
    · rename_i ht
      simp only [Option.bind_eq_some_iff, Option.map_eq_some_iff] at h
      obtain ⟨t, htg, y, hy, rfl⟩ := h
      exact st_for g.xe g.calm ((sd_all n).it X ce _ _ _ g F hi ht) (tg_pg F g.nd g.calm htg) (D.ss X ce _ _ g F hy) (fold1 (compI_plain hi) X.env)
    · cases h
  · simp only [Option.bind_eq_some_iff, Option.map_eq_some_iff] at h
    obtain ⟨x, hx, y, hy, rfl⟩ := h
    exact st_while g.xe (de hx).pt (D.ss X ce _ _ g F hy)
  · cases h
    exact st_raise
  · cases h
    exact st_pass
  · cases h
theorem sds_all : ∀ n, SDS Φ n
  | 0 => ⟨fun X ce e p g F h => by simp [compS] at h, fun X ce es ps g F h => by simp [compSs] at h⟩
  | n + 1 => ⟨fun X ce e p g F h => sd_s (sds_all n) X ce e p g F h, fun X ce es ps g F h => by
      cases es with
      | nil =>
        simp only [compSs, Option.some.injEq] at h
        subst h
        exact ss_nil
      | cons e es =>
        simp only [compSs, Option.bind_eq_some_iff, Option.map_eq_some_iff] at h
        obtain ⟨x, h1, xs, h2, rfl⟩ := h
        exact ss_cons ((sds_all n).s X ce e x g F h1) ((sds_all n).ss X ce es xs g F h2)⟩
end
end QR

set_option Elab.async false
set_option linter.all false
set_option maxRecDepth 100000
set_option maxHeartbeats 4000000
/-! QSoundH: what is compiled is sound (defs, a module). -/
namespace QR
open PySem PySem.Spec PyProof.Rows L2
section
variable {K : PySem.W.Frag} {ρ ρ' ρ2 fp f : List Addr} {H H' H2 : Hp} {v : V} {vs : List V} {m y : MV} {ms : List MV} {st st' st2 : Store} {σ : L2.St} {env : Env}
theorem keep_cut (R : Rl K ρ st H) (A : Aft K ρ fp H st2 ρ' H') (hk : keepOk st.length st st2 = true) : ρ'.take st.length = ρ ∧ Aft K ρ fp H (st2.take st.length) ρ H' := by
  unfold keepOk at hk
  simp only [Bool.and_eq_true, decide_eq_true_eq, List.all_eq_true, List.mem_range] at hk
  obtain ⟨hle, hall⟩ := hk
  obtain ⟨new, hn, hnew⟩ := A.pre
  have htake : ρ'.take st.length = ρ := by
    rw [hn, ← R.len]
    simp
  refine ⟨htake, ⟨[], by simp, fun _ z => nomatch z⟩, A.fr, ?_, R.nd, fun i a c h1 h2 => ?_⟩
  · rw [List.length_take, R.len]
    omega
  · have hi : i < st.length := by
      rw [← R.len]
      exact (List.getElem?_eq_some_iff.mp h1).1
    rw [List.getElem?_take_of_lt hi] at h2
    have q := A.rl.cell i a c (A.ix i a h1) h2
    have hc := hall i hi
    obtain ⟨d, hd⟩ : ∃ d, st[i]? = some d := ⟨_, List.getElem?_eq_getElem hi⟩
    rw [h2, hd] at hc
    cases q with
    | dct h r => exact .dct h r
    | @obj dx c gs fs h e r =>
      have hb : belows st.length (fs.map (·.2)) = true := by
        simp only [Bool.or_eq_true] at hc
        rcases hc with hc | hc
        · have e2 := Cell.beq_eq hc
          subst e2
          cases R.cell i a _ h1 hd with
          | obj _ _ r0 =>
            rw [← R.len]
            exact r0.belows_of
        · exact hc
      have hl : st.length ≤ ρ'.length := by rw [hn, List.length_append, R.len]; omega
      obtain ⟨_, q⟩ := r.cut hl hb
      rw [htake] at q
      exact .obj h e q
    | @lst vs ms h r =>
      have hb : belows st.length ms = true := by
        simp only [Bool.or_eq_true] at hc
        rcases hc with hc | hc
        · have e := Cell.beq_eq hc
          subst e
          cases R.cell i a _ h1 hd with
          | lst _ r0 =>
            rw [← R.len]
            exact r0.belows_of
        · exact hc
      have hl : st.length ≤ ρ'.length := by rw [hn, List.length_append, R.len]; omega
      obtain ⟨_, q⟩ := r.cut hl hb
      rw [htake] at q
      exact .lst h q
theorem gcv_ok (R : Rl K ρ st H) (A : Aft K ρ fp H st2 ρ' H') (S : Res K fp H ρ' H' v y f) (e : gcv st st2 y = .val m st') : ∃ ρ2 f2, Aft K ρ fp H st' ρ2 H' ∧ Res K fp H ρ2 H' v m f2 := by
  unfold gcv at e
  cases hk : keepOk st.length st st2 with
  | false =>
    rw [hk] at e
    cases e
    exact ⟨ρ', f, A, S⟩
  | true =>
    rw [hk] at e
    obtain ⟨ht, B⟩ := keep_cut R A hk
    have hl : st.length ≤ ρ'.length := by
      obtain ⟨new, hn, _⟩ := A.pre
      rw [hn, List.length_append, R.len]
      omega
    have cutV : ∀ {v : V} {y : MV} {f : List Addr}, Rep K ρ' H' v y f → below st.length y = true → Rep K ρ H' v y [] := fun r hb => by
      obtain ⟨_, q⟩ := r.cut hl hb
      rwa [ht] at q
    have gen : ∀ {y : MV}, Res K fp H ρ' H' v y f → (match below st.length y with
        | true => Out.val y (st2.take st.length)
        | false => .val y st2) = .val m st' → ∃ ρ2 f2, Aft K ρ fp H st' ρ2 H' ∧ Res K fp H ρ2 H' v m f2 := by
      intro y S e
      cases hb : below st.length y with
      | true =>
        rw [hb] at e
        cases e
        exact ⟨ρ, [], B, Res.plain (cutV S.rep hb)⟩
      | false =>
        rw [hb] at e
        cases e
        exact ⟨ρ', f, A, S⟩
    cases y with
    | ref a =>
      have e : (match Nat.blt a st.length with
        | true => Out.val (MV.ref a) (st2.take st.length)
        | false => (match st2[a]? with
          | some (.lst xs) => (match belows st.length xs with
            | true => .val (MV.lst xs) (st2.take st.length)
            | false => .val (MV.ref a) st2)
          | _ => .val (MV.ref a) st2)) = .val m st' := e
      have stay : (Out.val (MV.ref a) st2) = .val m st' → ∃ ρ2 f2, Aft K ρ fp H st' ρ2 H' ∧ Res K fp H ρ2 H' v m f2 := fun e => by
        cases e
        exact ⟨ρ', f, A, S⟩
      cases hb : Nat.blt a st.length with
      | true =>
        rw [hb] at e
        cases e
        refine ⟨ρ, [], B, Res.plain (cutV S.rep ?_)⟩
        simp only [below]
        exact hb
      | false =>
        rw [hb] at e
        have e : (match st2[a]? with
          | some (.lst xs) => (match belows st.length xs with
            | true => Out.val (MV.lst xs) (st2.take st.length)
            | false => .val (MV.ref a) st2)
          | _ => .val (MV.ref a) st2) = .val m st' := e
        obtain ⟨l, rfl, hla⟩ := ref_at S.rep
        obtain ⟨c, hc, q⟩ := A.rl.at_ hla
        rw [hc] at e
        cases q with
        | dct _ _ => exact stay e
        | obj _ _ _ => exact stay e
        | @lst ws xs h r =>
          have e : (match belows st.length xs with
            | true => Out.val (MV.lst xs) (st2.take st.length)
            | false => .val (MV.ref a) st2) = .val m st' := e
          cases hb2 : belows st.length xs with
          | false =>
            rw [hb2] at e
            exact stay e
          | true =>
            rw [hb2] at e
            cases e
            obtain ⟨_, q⟩ := r.cut hl hb2
            rw [ht] at q
            obtain ⟨new, hn, hnew⟩ := A.pre
            have hge : st.length ≤ a := by
              cases h3 : Nat.blt a st.length with
              | true => rw [h3] at hb; cases hb
              | false =>
                have := Nat.ble_eq (x := a + 1) (y := st.length)
                have h4 : ¬ (a + 1 ≤ st.length) := fun z => by
                  have := Nat.ble_eq_true_of_le z
                  rw [show Nat.blt a st.length = Nat.ble (a + 1) st.length from rfl, this] at h3
                  cases h3
                omega
            have hmem : l ∈ new := by
              rw [hn, List.getElem?_append_right (by rw [R.len]; exact hge)] at hla
              exact List.mem_of_getElem? hla
            have hnl : l ∉ ρ := fun z => by
              have nd := A.rl.nd
              rw [hn] at nd
              exact (List.nodup_append.mp nd).2.2 l z l hmem rfl
            exact ⟨ρ, [l], B, .lst h q, by simp, fun b hb => by
              have e : b = l := by simpa using hb
              subst e
              exact ⟨hnew b hmem, hnl⟩⟩
    | lst xs =>
      have e : (match belows st.length xs with
        | true => Out.val (MV.lst xs) (st2.take st.length)
        | false => .val (MV.lst xs) st2) = .val m st' := e
      cases hb : belows st.length xs with
      | false =>
        rw [hb] at e
        cases e
        exact ⟨ρ', f, A, S⟩
      | true =>
        rw [hb] at e
        cases e
        cases S with
        | mk rep nd new =>
          cases rep with
          | @lst a ws _ f0 h r =>
            obtain ⟨e0, q⟩ := r.cut hl hb
            subst e0
            rw [ht] at q
            refine ⟨ρ, [a], B, .lst h q, by simp, fun b hb2 => ?_⟩
            obtain ⟨n1, n2⟩ := new b hb2
            exact ⟨n1, fun z => n2 (A.sub z)⟩
    | non => exact gen S e
    | bl b => exact gen S e
    | int i => exact gen S e
    | str x => exact gen S e
    | tup xs => exact gen S e
    | rol xs => exact gen S e
    | xts xs => exact gen S e
/-- the start of a def's body -/
theorem start_env {N : List Str} (r : Reps K ρ H vs ms []) (hl : ms.length ≤ N.length) : EnvR K ρ H (start N vs) (ms.map some ++ List.replicate (N.length - ms.length) none) := by
  have hlen := r.length
  refine ⟨by simp [L2.start, hlen], fun i m h => ?_⟩
  by_cases hi : i < ms.length
  · rw [List.getElem?_append_left (by simpa using hi), List.getElem?_map] at h
    obtain ⟨x, hx, e⟩ := Option.map_eq_some_iff.mp h
    cases e
    obtain ⟨v, f, h1, h2, h3⟩ := r.get hx
    have ef := List.sublist_nil.mp h3
    subst ef
    refine ⟨v, ?_, h2⟩
    unfold L2.start
    rw [List.getElem?_append_left (by rw [List.length_map, hlen]; exact hi), List.getElem?_map, h1]
    rfl
  · rw [List.getElem?_append_right (by simpa using Nat.le_of_not_lt hi)] at h
    have := List.mem_of_getElem? h
    have := List.eq_of_mem_replicate this
    cases this
end
/-! ### a module -/
structure Ent where
  id : Nat
  name : Str
  st : Stmt
  N : List Str
  P : List Str
  /-- the global that holds it, or its class -/
  gl : Str
  /-- is it a method? does its last parameter take all that is left? -/
  me : Bool
  star : Bool
def Ent.qual (e : Ent) : Str := match e.me with
  | true => e.gl ++ "." ++ e.name
  | false => e.name
def Ent.at_ (e : Ent) : Str × Option Str := match e.me with
  | true => (e.gl, some e.name)
  | false => (e.gl, none)
theorem scopeB_ok {N P : List Str} {sc : Scope} (h : scopeB N P sc = true) : FnScope N P sc := by
  unfold scopeB at h
  simp only [Bool.and_eq_true, decide_eq_true_eq, Bool.not_eq_true', List.all_eq_true] at h
  obtain ⟨h1, h2, h3, h4, h5, h6, h7⟩ := h
  refine ⟨?_, h2, h3, h4, h5, fun x hx => locB_loc (h6 x hx), h7⟩
  split at h1
  · rename_i e; exact e
  · cases h1
/-- the last of two parameters takes all that is left -/
def StarB (fd : FuncData) (P : List Str) : Prop := ∃ p1 pv, P = [p1, pv] ∧ ∀ us rest : List Value, us.length = 1 → bindArgs fd ⟨us ++ rest, []⟩ = (newTuple rest >>= fun t => pure ([p1].zip us ++ [(pv, t)]))
def BindsE (K : PySem.W.Frag) (fd : FuncData) (P : List Str) : Bool → Prop
  | false => Binds K fd P []
  | true => StarB fd P
/-- def f(a, *v): what is left over is a tuple, known to be one and nothing else -/
theorem star_run {CX : CXT} {P : Program} {w : World} {K : PySem.W.Frag} {mg : Str → Option Value} {base : Heap} {k : Nat} {f : Addr} {name qual : Str} {params : Arguments} {body : List Stmt} {scope : Scope} {dV kV doc pm cdv ct oc : Value} {an od : Option Addr} {osl : Array (Option Value)} {N ps : List Str} {sp : Sp} {pv : Str}
    (lk : K.lookup f = some ⟨oc, od, .func (PySem.W.fnOf name qual params body scope dV kV doc pm an cdv ct), osl⟩) (hcd : PySem.W.codeIn K cdv qual = true) (S : FnScope N (ps ++ [pv]) scope) (up : StX.CXUp CX)
    (hb : ∀ us rest : List Value, us.length = ps.length → bindArgs (PySem.W.fnOf name qual params body scope dV kV doc pm an cdv ct) ⟨us ++ rest, []⟩ = (newTuple rest >>= fun t => pure (ps.zip us ++ [(pv, t)])))
    (hbody : ∀ (A : Around) (outer : List PySem.Env) (s : Shared) (H : Hp) (vs : List V) (Q : VK) (E : XK), Room k (A.deeper (envOfC qual scope s.heap.objs.size f cdv)) → sp vs H Q E → ∃ t, PSs (cxOf CX P w K mg base N qual scope f cdv A outer s H E) body t ∧ t { nx := fun _ H' => Q .non H', rt := Q } (start N vs) H) :
    FnR P w K mg base CX (k + 1) f (fun vs H Q E => ∃ ws rest, vs = ws ++ rest ∧ ws.length = ps.length ∧ rest.length ≤ sizeLine ∧ ∀ p o, H p = Option.none → o.cls = .type "tuple" → o.dict = Option.none → sp (ws ++ [V.ref p]) (upd H p (.frz o (.tup rest))) Q E) := by
  intro A outer s H us vs Q E hr e0 rv q
  obtain ⟨ws, rest, rfl, l1, l2, q⟩ := q
  obtain ⟨ua, ub, rfl, ra, rb⟩ := StX.vals_split rv
  have la := ra.length
  have lb := rb.length
  have hn := e0.hok.fresh (Nat.le_refl _)
  let ob : Obj := { cls := .type "tuple", data := .seq ub.toArray }
  have nw : ObjOk P w (upd H s.heap.objs.size (.frz ob (.tup rest))) (s.heap.push ob) s.heap.objs.size (.frz ob (.tup rest)) := ⟨Heap.get?_push_size _ rfl, l2, ub, rb, ⟨ob, Heap.get?_push_size _ rfl, rfl, _, rfl⟩⟩
  have un := StX.un_laid (fs := frs outer) (s := s) (o := ob) (u := .frz ob (.tup rest)) hn
  refine StX.run_bnd lk hcd S hr e0 (G := fun xs H2 => xs = ws ++ [V.ref s.heap.objs.size] ∧ H2 = upd H s.heap.objs.size (.frz ob (.tup rest))) (fun A' Ex Q' h => ?_) fun s2 H2 xs ⟨ex, eH⟩ hr' => ?_
  · rw [hb ua ub (by omega)]
    refine wpAny_bind (wpAny_newTuple (wpAny_pure ?_) (by omega))
    have z := h _ _ (ws ++ [V.ref s.heap.objs.size]) (ua ++ [Value.ref s.heap.objs.size]) (StX.env0_laid e0 nw) un rfl (fun e s' => up outer s H _ _ E e s' un (fun b o q => Heap.get?_push_of_some _ q) rfl) (ra.append (.cons rfl .nil)) (by rw [List.length_append, List.length_append, l1]; rfl) ⟨rfl, rfl⟩
    rwa [List.zip_append (by omega)] at z
  · subst ex eH
    exact hbody A outer s2 _ _ Q E hr' (q _ ob hn rfl rfl)
theorem bindsS {K : PySem.W.Frag} {x qual : Str} {params : Arguments} {body : List Stmt} {scope : Scope} {f : Addr} {fd : FuncData} {p1 pv : Str} (F : FunD K x qual params body scope [] [] f fd)
    (h0 : ∀ (kV doc pm : Value) (an : Option Addr) (cdv ct : Value) (a : Value), bindArgs (PySem.W.fnOf x qual params body scope .none kV doc pm an cdv ct) ⟨[a], []⟩ = (newTuple [] >>= fun t => pure [(p1, a), (pv, t)]))
    (h1 : ∀ (kV doc pm : Value) (an : Option Addr) (cdv ct : Value) (a r : Value) (rs : List Value), bindArgs (PySem.W.fnOf x qual params body scope .none kV doc pm an cdv ct) ⟨a :: r :: rs, []⟩ = (newTuple (r :: rs) >>= fun t => pure [(p1, a), (pv, t)])) : StarB fd [p1, pv] := by
  obtain ⟨oc, od, dV, kV, doc, pm, an, cdv, ct, osl, rfl, lk, hcd, hD, hK⟩ := F.ex
  rcases hD with ⟨_, rfl⟩ | ⟨e, _⟩
  · exact ⟨p1, pv, rfl, fun us rest hl => StX.bind_star1 (B := fun z => bindArgs (PySem.W.fnOf x qual params body scope .none kV doc pm an cdv ct) ⟨z, []⟩) (h0 kV doc pm an cdv ct) (h1 kV doc pm an cdv ct) us rest hl⟩
  · exact absurd rfl e
/-- what is known of a def -/
structure EntOk (K : PySem.W.Frag) (G : List (Str × GK)) (L : Nat → Option FDef) (en : Ent) (f : Addr) (fd : FuncData) : Prop where
  hf : FunD K en.name en.qual (L2.defArgs en.st) (L2.defBody en.st) (L2.defScope en.st) [] [] f fd
  hb : BindsE K fd en.P en.star
  hc : ∃ (n : Nat) (FD : FDef), compF n G en.N en.P en.st = some FD ∧ L en.id = some FD
structure ModOk (K : PySem.W.Frag) (mg : Str → Option Value) (G : List (Str × GK)) (L : Nat → Option FDef) : Prop where
  fn : ∀ x k, G.lookup x = some (.fn k) → ∃ en f fd, EntOk K G L en f fd ∧ en.star = false ∧ mg x = some (.ref f) ∧ en.id = k
  cst : ∀ x m, G.lookup x = some (.cst m) → ∃ (u : Value) (v : V), mg x = some u ∧ RelV v u ∧ ∀ ρ H, Rep K ρ H v m []
  free : ∀ x, G.lookup x = some .free → mg x = none
  cls : ∀ x k, G.lookup x = some (.cls k) → mg x = some (.ref (He.ga K x)) ∧ ∃ en f fd, EntOk K G L en f fd ∧ en.star = false ∧ Mk K (He.ga K x) f ∧ en.id = k
  mth : ∀ x c m k star, G.lookup x = some (.mth c m k star) → Cls K (He.ga K c) ∧ ∃ en f fd, EntOk K G L en f fd ∧ en.star = star ∧ Meth K (He.ga K c) m f ∧ en.id = k
  fld : ∀ x c f, G.lookup x = some (.fld c f) → Cls K (He.ga K c) ∧ NoAttr K (He.ga K c) f
section
variable {P : Program} {w : World} {K : PySem.W.Frag} {mg : Str → Option Value} {base : Heap} {G : List (Str × GK)} {L : Nat → Option FDef}
theorem spF_bad {k : Nat} {vs : List V} {H : Hp} {Q : VK} {E : XK} (h : spF (call L 0) K k vs H Q E) : False := by
  obtain ⟨ρ, st, ms, fp, m, st', _, _, _, _, e, _⟩ := h
  cases e
theorem compF_inv {n : Nat} {N Pn : List Str} {st : Stmt} {FD : FDef} (h : compF n G N Pn st = some FD) : FnScope N Pn (L2.defScope st) ∧ ∃ b, compSs n ⟨N, L2.defScope st, G, none⟩ (L2.defBody st) = some b ∧ FD = ⟨Pn.length, N.length, b⟩ := by
  unfold compF at h
  split at h
  · rename_i hs
    obtain ⟨b, hb, e⟩ := Option.map_eq_some_iff.mp h
    exact ⟨scopeB_ok hs, b, hb, e.symm⟩
  · cases h
theorem spF_len {d k : Nat} {FD : FDef} (hL : L k = some FD) {vs : List V} {H : Hp} {Q : VK} {E : XK} (h : spF (call L d) K k vs H Q E) : vs.length = FD.np := by
  obtain ⟨ρ, st, ms, fp, m, st', R, r, _, _, e, _⟩ := h
  cases d with
  | zero => cases e
  | succ d =>
    unfold call at e
    rw [hL] at e
    obtain ⟨hb, _⟩ := chk_eq e
    rw [r.length]
    exact of_decide_eq_true hb
/-- what a def promises at a depth -/
def PrOk (P : Program) (w : World) (K : PySem.W.Frag) (mg : Str → Option Value) (base : Heap) (L : Nat → Option FDef) (d : Nat) (en : Ent) (f : Addr) (fd : FuncData) : Prop :=
  (en.star = false → FnOk P w K mg base CX0 (2 * d) f fd en.P (spF (call L d) K en.id)) ∧ (en.star = true → FnR P w K mg base CX0 (2 * d) f (spS (spF (call L d) K en.id)))
theorem fnOk_toR {n d k : Nat} {f : Addr} {fd : FuncData} {ps : List Str} (F : FnOk P w K mg base CX0 d f fd ps (spF (call L k) K n)) (hb : Binds K fd ps []) : FnR P w K mg base CX0 d f (spF (call L k) K n) :=
  (F.raw hb .nil).imp fun vs H Q E q => by rw [List.append_nil]; exact q
theorem body_ok (M : ModOk K mg G L) (d : Nat) (ih : ∀ en f fd, EntOk K G L en f fd → PrOk P w K mg base L d en f fd) {en : Ent} {f : Addr} {n : Nat} {b : Ss} (S : FnScope en.N en.P (L2.defScope en.st)) (hb : compSs n ⟨en.N, L2.defScope en.st, G, none⟩ (L2.defBody en.st) = some b) (h5 : L en.id = some ⟨en.P.length, en.N.length, b⟩)
    (cdv : Value) (A : Around) (outer : List PySem.Env) (s : Shared) (H : Hp) (vs : List V) (Q : VK) (E : XK) (hr : Room (2 * d + 1) (A.deeper (envOfC en.qual (L2.defScope en.st) s.heap.objs.size f cdv))) (q : spF (call L (d + 1)) K en.id vs H Q E) :
    ∃ t, PSs (cxOf CX0 P w K mg base en.N en.qual (L2.defScope en.st) f cdv A outer s H E) (L2.defBody en.st) t ∧ t { nx := fun _ H' => Q .non H', rt := Q } (start en.N vs) H := by
  let X : Cx := (cxOf CX0 P w K mg base en.N en.qual (L2.defScope en.st) f cdv A outer s H E).nox
  have raw : ∀ en f fd, EntOk K G L en f fd → en.star = false → FnR P w K mg base CX0 (2 * d) f (spF (call L d) K en.id) := fun en f fd h hs => fnOk_toR ((ih en f fd h).1 hs) (by have := h.hb; rw [hs] at this; exact this)
  have g : Good X G (call L d) := by
    refine ⟨rfl, S.nd, rfl, by have := hr.un; show (A.deeper _).units + 65 < cLine; omega, fun x k hx => ?_, M.cst, M.free, fun x k hx => ?_, fun x c m k star hx => ?_, M.fld, S.kind⟩
    · obtain ⟨en', f', fd', h, hs, hm, rfl⟩ := M.fn x k hx
      have hbb := h.hb
      rw [hs] at hbb
      exact ⟨2 * d, f', fd', en'.P, hm, h.hf.kp, (ih en' f' fd' h).1 hs, hr.mono (Nat.le_succ _), hbb⟩
    · obtain ⟨hm, en', f', fd', h, hs, mk, rfl⟩ := M.cls x k hx
      exact ⟨⟨2 * d, f', mk, hr, raw en' f' fd' h hs⟩, hm⟩
    · obtain ⟨hc, en', f', fd', h, hs, mt, rfl⟩ := M.mth x c m k star hx
      refine ⟨hc, 2 * d, f', mt, hr, ?_⟩
      cases star with
      | true => exact (ih en' f' fd' h).2 hs
      | false => exact raw en' f' fd' h hs
  have F : Fit X ⟨en.N, L2.defScope en.st, G, none⟩ := ⟨rfl, rfl, fun x _ _ => .inl rfl⟩
  refine ⟨_, PSs.nox ((sds_all n).ss X ⟨en.N, L2.defScope en.st, G, none⟩ _ b g F hb), ?_⟩
  obtain ⟨ρ, st, ms, fp, m, st', R, r, nd, hd, e, k⟩ := q
  unfold call at e
  rw [h5] at e
  obtain ⟨hl, e⟩ := chk_eq e
  have hl : ms.length = en.P.length := of_decide_eq_true hl
  obtain ⟨new, a1, a2, a3⟩ := allocs_ok R r nd hd
  have hPN : en.P.length ≤ en.N.length := by
    have := congrArg List.length S.pre
    rw [List.length_take] at this
    omega
  have hl2 : (allocs ms st).1.length = en.P.length := by rw [← a3.length, r.length, hl]
  have hE := start_env (N := en.N) a3 (by rw [hl2]; exact hPN)
  rw [hl2] at hE
  have B : Aft K ρ fp H (allocs ms st).2 (ρ ++ new) H := ⟨⟨new, rfl, fun a ha => .inr (a1 a ha)⟩, fun _ _ h _ _ => h, a2⟩
  refine ⟨_, ρ ++ new, (allocs ms st).2, hE, a2, ?_⟩
  have e : gc st (exs (call L d) b ((allocs ms st).1.map some ++ List.replicate (en.N.length - en.P.length) none) (allocs ms st).2) = .val m st' := e
  cases o : exs (call L d) b ((allocs ms st).1.map some ++ List.replicate (en.N.length - en.P.length) none) (allocs ms st).2 with
  | next env' st2 =>
    rw [o] at e
    intro σ' ρ' H' C _
    obtain ⟨ρ3, f3, q1, q2⟩ := gcv_ok R (B.trans C noBl) (Res.plain (.non)) (show gcv st st2 .non = .val m st' from e)
    exact k .non ρ3 f3 H' q1 q2
  | ret y st2 =>
    rw [o] at e
    intro v ρ' f1 H' C S1
    have S2 : Res K fp H ρ' H' v y f1 := ⟨S1.rep, S1.nd, fun a ha => ⟨(by
      rcases (S1.new a ha).1 with z | z
      · exact .inl z
      · exact (nomatch z)), (S1.new a ha).2⟩⟩
    obtain ⟨ρ3, f3, q1, q2⟩ := gcv_ok R (B.trans C noBl) S2 (show gcv st st2 y = .val m st' from e)
    exact k v ρ3 f3 H' q1 q2
  | exc x st2 =>
    rw [o] at e
    cases e
  | bad =>
    rw [o] at e
    cases e
theorem ent_all (M : ModOk K mg G L) : ∀ (d : Nat) (en : Ent) (f : Addr) (fd : FuncData), EntOk K G L en f fd → PrOk P w K mg base L d en f fd
  | 0, en, f, fd, h => ⟨fun _ => ⟨fun vs H Q E q => (spF_bad q).elim, fun A outer s H args us vs Q E hr he hb hv q => (spF_bad q).elim⟩, fun _ => fun A outer s H us vs Q E hr e0 r q => by
      obtain ⟨v, rest, _, _, q⟩ := q
      exact (spF_bad (q _ ⟨.type "tuple", none, .seq #[] 0, #[]⟩ (e0.hok.fresh (Nat.le_refl _)) rfl rfl)).elim⟩
  | d + 1, en, f, fd, h => by
    have ih := ent_all M d
    obtain ⟨n, FD, h4, h5⟩ := h.hc
    obtain ⟨S, b, hb, rfl⟩ := compF_inv h4
    refine ⟨fun hs => ?_, fun hs => ?_⟩
    · exact h.hf.ok (k := 2 * d + 1) S (fun vs H Q E q => spF_len h5 q) fun cdv A outer s H vs Q E hr q => body_ok M d ih S hb h5 cdv A outer s H vs Q E hr q
    · have hst := h.hb
      rw [hs] at hst
      obtain ⟨p1, pv, eP, hbs⟩ := hst
      obtain ⟨oc, od, dV, kV, doc, pm, an, cdv, ct, osl, rfl, lk, hcd, _, _⟩ := h.hf.ex
      have F := star_run (CX := CX0) (P := P) (w := w) (mg := mg) (base := base) (k := 2 * d + 1) (ps := [p1]) (pv := pv) (N := en.N) (sp := spF (call L (d + 1)) K en.id) lk hcd (by have := S; rw [eP] at this; exact this) StX.cxUp_none hbs fun A outer s H vs Q E hr q => body_ok M d ih S hb h5 cdv A outer s H vs Q E hr q
      refine FnR.imp F fun vs H Q E ⟨v, rest, e1, e2, q⟩ => ⟨[v], rest, e1, rfl, e2, q⟩
end
end QR

set_option Elab.async false
set_option linter.all false
set_option maxRecDepth 100000
set_option maxHeartbeats 4000000
/-! QEnd: what the head tells of a module makes it one of ours. -/
namespace QR
open PySem PySem.Spec PyProof.Rows L2
def faOf : Str × GK → List He.Fa
  | (x, .fn _) => [.glo x]
  | (x, .cst (.int i)) => [.int x i]
  | (x, .cst (.str z)) => [.str x z]
  | (x, .cst _) => [.glo x]
  | (x, .free) => [.free x]
  | (x, .cls _) => [.glo x, .mkr x]
  | (_, .mth c m _ _) => [.cls c, .meth c m]
  | (_, .fld c f) => [.cls c, .noat c f]
def dvOf : MV → He.Dv
  | .int i => .int i
  | .str x => .str x
  | .bl b => .bl b
  | _ => .non
def exOf (K : PySem.W.Frag) : Str × GK → Bool
  | (x, .cst (.tup ms)) => He.tupB K x (ms.map dvOf)
  | _ => true
def atomB : MV → Bool
  | .int _ => true
  | .str z => PyData.strOk z
  | .bl _ => true
  | _ => false
def cstB : GK → Bool
  | .cst (.int _) => true
  | .cst (.str z) => PyData.strOk z
  | .cst (.tup ms) => ms.all atomB
  | .cst _ => false
  | _ => true
def defOf (e : Ent) : He.DefD := ⟨e.at_, e.name, e.qual, L2.defArgs e.st, L2.defBody e.st, L2.defScope e.st, [], []⟩
/-- every def binds its parameters by place -/
def AllB : List Ent → Prop
  | [] => True
  | e :: r => (∀ {K : PySem.W.Frag} {f : Addr} {fd : FuncData}, FunD K e.name e.qual (L2.defArgs e.st) (L2.defBody e.st) (L2.defScope e.st) [] [] f fd → BindsE K fd e.P e.star) ∧ AllB r
theorem AllB.mem : ∀ {l : List Ent}, AllB l → ∀ {e : Ent}, e ∈ l → ∀ {K : PySem.W.Frag} {f : Addr} {fd : FuncData}, FunD K e.name e.qual (L2.defArgs e.st) (L2.defBody e.st) (L2.defScope e.st) [] [] f fd → BindsE K fd e.P e.star
  | _ :: _, ⟨h, _⟩, _, .head _, _, _, _, F => h F
  | _ :: _, ⟨_, h⟩, _, .tail _ m, _, _, _, F => AllB.mem h m F
def gOk (ents : List Ent) (p : Str × GK) : Bool := cstB p.2 && (match p.2 with
  | .fn k => ents.any fun e => decide (e.gl = p.1) && (decide (e.id = k) && (!e.me && !e.star))
  | .cls k => ents.any fun e => decide (e.gl = p.1) && (decide (e.id = k) && (e.me && (decide (e.name = "__init__") && !e.star)))
  | .mth c m k star => ents.any fun e => decide (e.gl = c) && (decide (e.id = k) && (e.me && (decide (e.name = m) && decide (e.star = star))))
  | _ => true)
abbrev fxOf (G : List (Str × GK)) (K : PySem.W.Frag) : Bool := G.all (exOf K)
theorem lookup_mem {α : Type} {x : Str} {a : α} : ∀ {l : List (Str × α)}, l.lookup x = some a → (x, a) ∈ l
  | [], h => by simp at h
  | (y, b) :: r, h => by
    rw [List.lookup_cons] at h
    split at h
    · rename_i e
      cases h
      have : x = y := by simpa using e
      rw [this]
      exact List.mem_cons_self
    · exact List.mem_cons_of_mem _ (lookup_mem h)
section
variable {K : PySem.W.Frag} {h : Heap} {mg : Str → Option Value} {w : World} {G : List (Str × GK)} {ents : List Ent} {L : Nat → Option FDef} {n : Nat}
theorem reps_atoms {ρ : List Addr} {H : Hp} : ∀ {ms : List MV}, ms.all atomB = true → Reps K ρ H ((ms.map dvOf).map (He.Dv.v K)) ms []
  | [], _ => .nil
  | m :: ms, h => by
    simp only [List.all_cons, Bool.and_eq_true] at h
    refine .cons (f := []) (fs := []) ?_ (reps_atoms h.2)
    cases m with
    | int i => exact .int i
    | bl b => exact .bl b
    | str z => exact .str z h.1
    | _ => cases h.1
theorem ent_ok (c : He.SaysX (G.flatMap faOf) (ents.map defOf) [] [] (fxOf G) w h K) (hB : AllB ents) (hC : ents.map (fun e => compF n G e.N e.P e.st) = ents.map fun e => L e.id) (hS : (ents.all fun e => (L e.id).isSome) = true)
    {e : Ent} (he : e ∈ ents) : ∃ fd, EntOk K G L e (He.fAd K e.at_) fd := by
  obtain ⟨fd, F⟩ := c.t.d.defs (List.mem_map.mpr ⟨e, he, rfl⟩ : defOf e ∈ ents.map defOf)
  have F : FunD K e.name e.qual (L2.defArgs e.st) (L2.defBody e.st) (L2.defScope e.st) [] [] (He.fAd K e.at_) fd := F
  have h1 : compF n G e.N e.P e.st = L e.id := List.map_inj_left.mp hC e he
  have h2 := List.all_eq_true.mp hS e he
  obtain ⟨FD, h3⟩ := Option.isSome_iff_exists.mp h2
  exact ⟨fd, F, hB.mem he F, n, FD, h1.trans h3, h3⟩
theorem at_fn {e : Ent} (h : e.me = false) : He.fAd K e.at_ = He.ga K e.gl := by
  unfold Ent.at_
  rw [h]
  rfl
theorem at_me {e : Ent} (h : e.me = true) : He.fAd K e.at_ = He.ma K (He.ga K e.gl) e.name := by
  unfold Ent.at_
  rw [h]
  rfl
theorem mod_of (X : K.In h) (Gn : h.Ns mainGlobals mg) (c : He.SaysX (G.flatMap faOf) (ents.map defOf) [] [] (fxOf G) w h K) (hB : AllB ents) (hC : ents.map (fun e => compF n G e.N e.P e.st) = ents.map fun e => L e.id) (hS : (ents.all fun e => (L e.id).isSome) = true)
    (hG : G.all (gOk ents) = true) : ModOk K mg G L := by
  have fact : ∀ {p : Str × GK} {fa : He.Fa}, p ∈ G → fa ∈ faOf p → fa.ok K = true := fun hp hf => c.t.d.facts (List.mem_flatMap.mpr ⟨_, hp, hf⟩)
  have gok : ∀ {p : Str × GK}, p ∈ G → gOk ents p = true := fun hp => List.all_eq_true.mp hG _ hp
  refine ⟨fun x k hx => ?_, fun x m hx => ?_, fun x hx => ?_, fun x k hx => ?_, fun x cn m k star hx => ?_, fun x cn f hx => ?_⟩
  · have hp := lookup_mem hx
    have q := gok hp
    unfold gOk at q
    simp only [Bool.and_eq_true, List.any_eq_true, decide_eq_true_eq, Bool.not_eq_true'] at q
    obtain ⟨_, e, he, q1, q2, q3, q4⟩ := q
    have hg := He.glo_ok X Gn (show (He.Fa.glo x).ok K = true from fact hp (by simp [faOf]))
    obtain ⟨fd, E⟩ := ent_ok c hB hC hS he
    exact ⟨e, _, fd, E, q4, by rw [at_fn q3, q1]; exact hg, q2⟩
  · have hp := lookup_mem hx
    have q := gok hp
    unfold gOk at q
    simp only [Bool.and_eq_true] at q
    have q := q.1
    cases m with
    | int i =>
      obtain ⟨t, e⟩ := He.int_ok X Gn (show (He.Fa.int x i).ok K = true from fact hp (by simp [faOf]))
      exact ⟨_, .int i, e, ⟨t, rfl⟩, fun ρ H => .int i⟩
    | str z =>
      obtain ⟨t, e⟩ := He.str_ok X Gn (show (He.Fa.str x z).ok K = true from fact hp (by simp [faOf]))
      exact ⟨_, .str z, e, ⟨t, rfl⟩, fun ρ H => .str z q⟩
    | tup ms =>
      have e := He.glo_ok X Gn (show (He.Fa.glo x).ok K = true from fact hp (by simp [faOf]))
      have t : He.tupB K x (ms.map dvOf) = true := List.all_eq_true.mp c.more _ hp
      exact ⟨_, .ref (He.ga K x), e, rfl, fun ρ H => .tup (He.tupB_ok t H) (reps_atoms q)⟩
    | _ => cases q
  · exact He.free_ok X Gn (show (He.Fa.free x).ok K = true from fact (lookup_mem hx) (by simp [faOf]))
  · have hp := lookup_mem hx
    have q := gok hp
    unfold gOk at q
    simp only [Bool.and_eq_true, List.any_eq_true, decide_eq_true_eq, Bool.not_eq_true'] at q
    obtain ⟨_, e, he, q1, q2, q3, q4, q5⟩ := q
    have hg := He.glo_ok X Gn (show (He.Fa.glo x).ok K = true from fact hp (by simp [faOf]))
    have hm := He.mkr_ok (show (He.Fa.mkr x).ok K = true from fact hp (by simp [faOf]))
    obtain ⟨fd, E⟩ := ent_ok c hB hC hS he
    exact ⟨hg, e, _, fd, E, q5, by rw [at_me q3, q1, q4]; exact hm, q2⟩
  · have hp := lookup_mem hx
    have q := gok hp
    unfold gOk at q
    simp only [Bool.and_eq_true, List.any_eq_true, decide_eq_true_eq, Bool.not_eq_true'] at q
    obtain ⟨_, e, he, q1, q2, q3, q4, q5⟩ := q
    have hc := He.cls_ok (show (He.Fa.cls cn).ok K = true from fact hp (by simp [faOf]))
    have hm := He.meth_ok (show (He.Fa.meth cn m).ok K = true from fact hp (by simp [faOf]))
    obtain ⟨fd, E⟩ := ent_ok c hB hC hS he
    exact ⟨hc, e, _, fd, E, q5, by rw [at_me q3, q1, q4]; exact hm, q2⟩
  · have hp := lookup_mem hx
    exact ⟨He.cls_ok (show (He.Fa.cls cn).ok K = true from fact hp (by simp [faOf])), He.noat_ok (show (He.Fa.noat cn f).ok K = true from fact hp (by simp [faOf]))⟩
/-- the law, in the small language, is the promise of its def -/
theorem law_sp {L : Nat → Option FDef} {d k : Nat} (hl : ∀ ns : List Int, ns.length ≤ 63 → ∃ st', call L d k [.rol (ns.map .int)] [] = .val (.bl true) st') (H : Hp) (a : Addr) (ns : List Int) (hn : ns.length ≤ 63) (hO : Only H) (hS : SqL K H a (ns.map V.int)) :
    spF (call L d) K k [.ref a] H (fun v _ => v = .bl true) fun _ _ _ => False := by
  obtain ⟨st', e⟩ := hl ns hn
  have hr : Rol K H a (ns.map V.int) := by
    rcases hS with (h | h) | h
    · rcases hO a with q | ⟨o, xs, q⟩
      · rw [h] at q; cases q
      · rw [h] at q; cases q
    · exact .inl h
    · exact .inr h
  exact ⟨[], [], [.rol (ns.map .int)], [], .bl true, st', ⟨rfl, List.nodup_nil, fun i a c h _ => by simp at h⟩, .cons (f := []) (fs := []) (.rol hr) .nil, List.nodup_nil, (fun _ z => nomatch z), e, fun v ρ' fp' H' A r => r.rep.bl_inv.1⟩
end
end QR

set_option Elab.async false
set_option linter.all false
set_option maxRecDepth 100000
set_option maxHeartbeats 1000000
/-! QPlain: what the shared defs do, in plain words. -/
namespace QR
open PySem

/-! ### stores -/
/-! data without cells, without new lists -/
mutual
def pureM : MV → Bool
  | .tup xs => pureMs xs
  | .lst _ => false
  | .rol _ => false
  | .ref _ => false
  | _ => true
def pureMs : List MV → Bool
  | [] => true
  | x :: xs => pureM x && pureMs xs
end
mutual
theorem pure_noLst : ∀ {m : MV}, pureM m = true → noLst m = true
  | .tup xs, h => by simp only [noLst]; exact pures_noLst (by simpa [pureM] using h)
  | .lst _, h => by simp [pureM] at h
  | .rol _, h => by simp [noLst]
  | .ref _, h => by simp [noLst]
  | .non, h => by simp [noLst]
  | .bl _, h => by simp [noLst]
  | .int _, h => by simp [noLst]
  | .str _, h => by simp [noLst]
  | .xts _, h => by simp [noLst]
theorem pures_noLst : ∀ {ms : List MV}, pureMs ms = true → noLsts ms = true
  | [], _ => by simp [noLsts]
  | m :: ms, h => by
    simp only [pureMs, Bool.and_eq_true] at h
    simp only [noLsts, Bool.and_eq_true]
    exact ⟨pure_noLst h.1, pures_noLst h.2⟩
end
mutual
theorem pure_below {n : Nat} : ∀ {m : MV}, pureM m = true → below n m = true
  | .tup xs, h => by simp only [below]; exact pures_belows (by simpa [pureM] using h)
  | .lst _, h => by simp [pureM] at h
  | .rol _, h => by simp [pureM] at h
  | .ref _, h => by simp [pureM] at h
  | .non, h => by simp [below]
  | .bl _, h => by simp [below]
  | .int _, h => by simp [below]
  | .str _, h => by simp [below]
  | .xts _, h => by simp [below]
theorem pures_belows {n : Nat} : ∀ {ms : List MV}, pureMs ms = true → belows n ms = true
  | [], _ => by simp [belows]
  | m :: ms, h => by
    simp only [pureMs, Bool.and_eq_true] at h
    simp only [belows, Bool.and_eq_true]
    exact ⟨pure_below h.1, pures_belows h.2⟩
end
theorem pures_mem {ms : List MV} (h : pureMs ms = true) : ∀ m ∈ ms, pureM m = true := by
  induction ms with
  | nil => intro m hm; cases hm
  | cons x xs ih =>
    simp only [pureMs, Bool.and_eq_true] at h
    intro m hm
    rcases List.mem_cons.mp hm with e | e
    · rw [e]; exact h.1
    · exact ih h.2 m e
theorem pures_of {ms : List MV} (h : ∀ m ∈ ms, pureM m = true) : pureMs ms = true := by
  induction ms with
  | nil => simp [pureMs]
  | cons x xs ih =>
    simp only [pureMs, Bool.and_eq_true]
    exact ⟨h x List.mem_cons_self, ih fun m hm => h m (List.mem_cons_of_mem _ hm)⟩
mutual
theorem alloc_idp : ∀ {m : MV} {st : Store}, noLst m = true → alloc m st = (m, st)
  | .tup xs, st, h => by simp only [alloc]; rw [allocs_idp (by simpa [noLst] using h)]
  | .lst _, st, h => by simp [noLst] at h
  | .rol _, st, h => by simp [alloc]
  | .ref _, st, h => by simp [alloc]
  | .non, st, h => by simp [alloc]
  | .bl _, st, h => by simp [alloc]
  | .int _, st, h => by simp [alloc]
  | .str _, st, h => by simp [alloc]
  | .xts _, st, h => by simp [alloc]
theorem allocs_idp : ∀ {ms : List MV} {st : Store}, noLsts ms = true → allocs ms st = (ms, st)
  | [], st, _ => by simp [allocs]
  | m :: ms, st, h => by
    simp only [noLsts, Bool.and_eq_true] at h
    simp only [allocs]
    rw [alloc_idp h.1, allocs_idp h.2]
end
@[simp] theorem alloc_int {i : Int} {st : Store} : alloc (.int i) st = (.int i, st) := by simp [alloc]
@[simp] theorem alloc_bl {i : Bool} {st : Store} : alloc (.bl i) st = (.bl i, st) := by simp [alloc]
@[simp] theorem alloc_str {i : Str} {st : Store} : alloc (.str i) st = (.str i, st) := by simp [alloc]
@[simp] theorem alloc_non {st : Store} : alloc .non st = (.non, st) := by simp [alloc]
@[simp] theorem alloc_ref {i : Nat} {st : Store} : alloc (.ref i) st = (.ref i, st) := by simp [alloc]
/-! ### outcomes -/
def Wp {α : Type} (o : Out α) (Q : α → Store → Prop) : Prop := ∃ a st, o = .val a st ∧ Q a st
@[simp] theorem Wp_val {α : Type} {a : α} {st : Store} {Q : α → Store → Prop} : Wp (.val a st) Q ↔ Q a st := by
  constructor
  · rintro ⟨b, s, e, q⟩
    cases e
    exact q
  · exact fun q => ⟨a, st, rfl, q⟩
@[simp] theorem Wp_bad {α : Type} {Q : α → Store → Prop} : Wp (.bad : Out α) Q ↔ False := ⟨(fun ⟨_, _, e, _⟩ => nomatch e), False.elim⟩
@[simp] theorem Wp_bind {α β : Type} {o : Out α} {f : α → Store → Out β} {Q : β → Store → Prop} : Wp (o.bind f) Q ↔ Wp o fun a st => Wp (f a st) Q := by
  constructor
  · rintro ⟨b, s, e, q⟩
    obtain ⟨a, s1, e1, e2⟩ := Out.bind_eq e
    exact ⟨a, s1, e1, b, s, e2, q⟩
  · rintro ⟨a, s1, e1, b, s, e2, q⟩
    exact ⟨b, s, by rw [e1]; exact e2, q⟩
@[simp] theorem Wp_chk {α : Type} {b : Bool} {o : Out α} {Q : α → Store → Prop} : Wp (chk b o) Q ↔ b = true ∧ Wp o Q := by
  cases b <;> simp
theorem Wp.mono {α : Type} {o : Out α} {Q Q' : α → Store → Prop} (h : Wp o Q) (k : ∀ a st, Q a st → Q' a st) : Wp o Q' := by
  obtain ⟨a, st, e, q⟩ := h
  exact ⟨a, st, e, k a st q⟩
@[irreducible] def Ws (o : SOut) (N : Env → Store → Prop) (R : MV → Store → Prop) : Prop := match o with
  | .next env st => N env st
  | .ret m st => R m st
  | _ => False
@[simp] theorem Ws_next {env : Env} {st : Store} {N : Env → Store → Prop} {R : MV → Store → Prop} : Ws (.next env st) N R ↔ N env st := by unfold Ws; exact Iff.rfl
@[simp] theorem Ws_ret {m : MV} {st : Store} {N : Env → Store → Prop} {R : MV → Store → Prop} : Ws (.ret m st) N R ↔ R m st := by unfold Ws; exact Iff.rfl
@[simp] theorem Ws_bad {N : Env → Store → Prop} {R : MV → Store → Prop} : Ws .bad N R ↔ False := by unfold Ws; exact Iff.rfl
@[simp] theorem Ws_bindS {α : Type} {o : Out α} {f : α → Store → SOut} {N : Env → Store → Prop} {R : MV → Store → Prop} : Ws (o.bindS f) N R ↔ Wp o fun a st => Ws (f a st) N R := by
  cases o with
  | val a st => simp
  | exc e st => exact ⟨fun h => by simp only [Out.bindS_exc] at h; unfold Ws at h; exact h.elim, fun ⟨_, _, e, _⟩ => nomatch e⟩
  | bad => exact ⟨fun h => by simp only [Out.bindS_bad] at h; unfold Ws at h; exact h.elim, fun ⟨_, _, e, _⟩ => nomatch e⟩
@[simp] theorem Ws_seq {o : SOut} {f : Env → Store → SOut} {N : Env → Store → Prop} {R : MV → Store → Prop} : Ws (o.seq f) N R ↔ Ws o (fun env st => Ws (f env st) N R) R := by
  cases o <;> (unfold Ws; exact Iff.rfl)
theorem Ws.mono {o : SOut} {N N' : Env → Store → Prop} {R R' : MV → Store → Prop} (h : Ws o N R) (k : ∀ env st, N env st → N' env st) (k2 : ∀ m st, R m st → R' m st) : Ws o N' R' := by
  unfold Ws at h ⊢
  cases o with
  | next env st => exact k _ _ h
  | ret m st => exact k2 _ _ h
  | exc e st => exact h
  | bad => exact h
@[simp] theorem boolOf_bl {b : Bool} {st : Store} : boolOf (.bl b) st = .val b st := rfl
/-- two stores: what a def may have done to the cells from before -/
structure Kpt (st st1 : Store) : Prop where
  len : st1.length = st.length
  cell : ∀ (i : Nat) (c : Cell), st1[i]? = some c → st[i]? = some c ∨ ∃ xs, c = .lst xs ∧ belows st.length xs = true
theorem Kpt.refl {st : Store} : Kpt st st := ⟨rfl, fun _ _ h => .inl h⟩
theorem keepOk_of {st st1 ext : Store} (k : Kpt st st1) : keepOk st.length st (st1 ++ ext) = true := by
  unfold keepOk
  simp only [Bool.and_eq_true, decide_eq_true_eq, List.all_eq_true, List.mem_range]
  refine ⟨by rw [List.length_append, k.len]; omega, fun i hi => ?_⟩
  have h1 : i < st1.length := by rw [k.len]; exact hi
  rw [List.getElem?_append_left h1, List.getElem?_eq_getElem h1, List.getElem?_eq_getElem hi]
  simp only [Bool.or_eq_true]
  rcases k.cell i _ (List.getElem?_eq_getElem h1) with h | ⟨xs, h, hb⟩
  · left
    rw [List.getElem?_eq_getElem hi] at h
    rw [Option.some.inj h]
    exact Cell.beq_refl _
  · right
    rw [h]
    exact hb
theorem take_of {st st1 ext : Store} (k : Kpt st st1) : (st1 ++ ext).take st.length = st1 := by
  rw [← k.len]
  simp
/-- what comes back of a def: not a new list -/
theorem gcv_pure {st st1 ext : Store} {m : MV} (k : Kpt st st1) (h : below st.length m = true) : gcv st (st1 ++ ext) m = .val m st1 := by
  unfold gcv
  rw [keepOk_of k, take_of k]
  cases m with
  | ref a =>
    simp only [below] at h
    simp only [h]
  | lst xs => simp [below] at h
  | non => simp only [h]
  | bl b => simp only [h]
  | int i => simp only [h]
  | str x => simp only [h]
  | tup xs => simp only [h]
  | rol xs => simp only [h]
  | xts xs => simp only [h]
theorem gcv_lst {st st1 ext : Store} {xs : List MV} (k : Kpt st st1) (h : belows st.length xs = true) : gcv st (st1 ++ ext) (.lst xs) = .val (.lst xs) st1 := by
  unfold gcv
  rw [keepOk_of k, take_of k]
  simp only [h]
theorem gcv_new {st st1 ext : Store} {a : Nat} {xs : List MV} (k : Kpt st st1) (ha : st.length ≤ a) (hx : (st1 ++ ext)[a]? = some (.lst xs)) (h : belows st.length xs = true) : gcv st (st1 ++ ext) (.ref a) = .val (.lst xs) st1 := by
  unfold gcv
  rw [keepOk_of k, take_of k]
  have e : Nat.blt a st.length = false := by
    cases q : Nat.blt a st.length with
    | false => rfl
    | true =>
      have : a < st.length := Nat.le_of_ble_eq_true q
      omega
  simp only [e, hx, h]
theorem call_go {L : Nat → Option FDef} {d f : Nat} {vs : List MV} {st : Store} {fd : FDef} (hL : L f = some fd) (hl : vs.length = fd.np) : call L (d + 1) f vs st = gc st (exs (call L d) fd.body ((allocs vs st).1.map some ++ List.replicate (fd.ns - fd.np) none) (allocs vs st).2) := by
  show (match L f with
    | none => Out.bad
    | some fd => chk (decide (vs.length = fd.np)) (gc st (exs (call L d) fd.body ((allocs vs st).1.map some ++ List.replicate (fd.ns - fd.np) none) (allocs vs st).2))) = _
  rw [hL]
  simp only [hl, decide_true, chk_true]
/-- a call: from what its body does -/
theorem Wp_call {L : Nat → Option FDef} {d f : Nat} {vs : List MV} {st : Store} {fd : FDef} {Q : MV → Store → Prop} (hL : L f = some fd) (hl : vs.length = fd.np)
    (h : Ws (exs (call L d) fd.body ((allocs vs st).1.map some ++ List.replicate (fd.ns - fd.np) none) (allocs vs st).2) (fun _ st2 => Wp (gcv st st2 .non) Q) (fun m st2 => Wp (gcv st st2 m) Q)) : Wp (call L (d + 1) f vs st) Q := by
  rw [call_go hL hl]
  revert h
  cases exs (call L d) fd.body ((allocs vs st).1.map some ++ List.replicate (fd.ns - fd.np) none) (allocs vs st).2 with
  | next env st2 => exact Ws_next.mp
  | ret m st2 => exact Ws_ret.mp
  | exc e st2 => exact fun h => by unfold Ws at h; exact h.elim
  | bad => exact fun h => by unfold Ws at h; exact h.elim
/-- the same store, data back -/
theorem gcv_same {st : Store} {m : MV} (h : below st.length m = true) : gcv st st m = .val m st := by
  have := gcv_pure (ext := []) (Kpt.refl (st := st)) h
  rwa [List.append_nil] at this
theorem gcv_sameL {st : Store} {xs : List MV} (h : belows st.length xs = true) : gcv st st (.lst xs) = .val (.lst xs) st := by
  have := gcv_lst (ext := []) (Kpt.refl (st := st)) h
  rwa [List.append_nil] at this
@[simp] theorem gcv_bl {st : Store} {b : Bool} : gcv st st (.bl b) = .val (.bl b) st := gcv_same (by simp [below])
@[simp] theorem gcv_int {st : Store} {b : Int} : gcv st st (.int b) = .val (.int b) st := gcv_same (by simp [below])
@[simp] theorem gcv_non {st : Store} : gcv st st .non = .val .non st := gcv_same (by simp [below])
/-! ### loops -/
theorem floop_ok {lk : Locks} {tg : Tg} {b : Env → Store → SOut} {R : MV → Store → Prop} {P : List MV → Env → Store → Prop} : ∀ {items : List MV} {env : Env} {st : Store},
    (∀ x r env st, P (x :: r) env st → held lk st = true ∧ Wp (asgT tg x env st) fun env1 st1 => Ws (b env1 st1) (P r) R) → (∀ env st, P [] env st → held lk st = true) → P items env st → Ws (floop lk tg b items env st) (P []) R
  | [], env, st, _, h2, hp => by
    unfold floop
    simp only [Ws_bindS, Wp_chk, Wp_val, Ws_next]
    exact ⟨h2 env st hp, hp⟩
  | x :: r, env, st, h1, h2, hp => by
    obtain ⟨q1, q2⟩ := h1 x r env st hp
    unfold floop
    simp only [Ws_bindS, Wp_chk, Ws_seq]
    refine ⟨q1, q2.mono fun env1 st1 q3 => q3.mono (fun env2 st2 q4 => floop_ok h1 h2 q4) fun _ _ z => z⟩
/-- a comprehension over a store that stays -/
theorem cloop_pure {lk : Locks} {f : MV → Store → Out (Option MV)} {g : MV → Option MV} {st : Store} (hl : held lk st = true) : ∀ {items : List MV}, (∀ x ∈ items, f x st = .val (g x) st) → cloop lk f items st = .val (items.filterMap g) st
  | [], _ => by
    unfold cloop
    rw [hl]
    rfl
  | x :: r, h => by
    unfold cloop
    rw [hl, h x List.mem_cons_self]
    simp only [chk_true, Out.bind_val]
    rw [cloop_pure hl fun y hy => h y (List.mem_cons_of_mem _ hy)]
    simp only [Out.bind_val, List.filterMap_cons]
    cases g x <;> rfl
/-- a comprehension whose store moves -/
theorem cloop_ok {lk : Locks} {f : MV → Store → Out (Option MV)} {I : Store → Prop} {P : MV → Prop} (hl : ∀ st, I st → held lk st = true) : ∀ {items : List MV} {st : Store}, (∀ x ∈ items, ∀ st, I st → Wp (f x st) fun o st' => I st' ∧ ∀ y, o = some y → P y) → I st →
    Wp (cloop lk f items st) fun ys st' => I st' ∧ (∀ y ∈ ys, P y) ∧ ys.length ≤ items.length
  | [], st, _, hI => by
    unfold cloop
    rw [hl st hI]
    simp only [chk_true, Wp_val]
    exact ⟨hI, by simp⟩
  | x :: r, st, h, hI => by
    unfold cloop
    rw [hl st hI]
    simp only [chk_true, Wp_bind]
    refine (h x List.mem_cons_self st hI).mono fun o st1 ⟨h1, h2⟩ => ?_
    refine (cloop_ok hl (fun y hy => h y (List.mem_cons_of_mem _ hy)) h1).mono fun ys st2 ⟨h3, h4, h5⟩ => ?_
    simp only [Wp_val]
    cases o with
    | none => exact ⟨h3, h4, Nat.le_succ_of_le h5⟩
    | some y =>
      refine ⟨h3, fun z hz => ?_, Nat.succ_le_succ h5⟩
      rcases List.mem_cons.mp hz with e | e
      · rw [e]; exact h2 y rfl
      · exact h4 z e
/-! ### steps -/
section
variable {Φ : Phi} {env env' : Env} {st st' : Store} {Q : MV → Store → Prop} {N : Env → Store → Prop} {R : MV → Store → Prop} {i j : Nat} {m x y : MV} {a b c : E} {es : Es} {k l : Int} {xs ys : List MV}
theorem w_var (h : env[i]? = some (some m)) (q : Q m st) : Wp (ev Φ (.var i) env st) Q := ⟨m, st, (show (match env[i]? with
    | some (some m) => Out.val m st
    | _ => .bad) = .val m st by rw [h]), q⟩
theorem w_cst (q : Q m st) : Wp (ev Φ (.cst m) env st) Q := ⟨m, st, rfl, q⟩
theorem w_bind {α β : Type} {o : Out α} {f : α → Store → Out β} {Q : β → Store → Prop} (h : Wp o fun a st => Wp (f a st) Q) : Wp (o.bind f) Q := Wp_bind.mpr h
theorem w_bin {op : Bop} (h : Wp (ev Φ a env st) fun x st => Wp (ev Φ b env st) fun y st => Wp (binM op x y st) Q) : Wp (ev Φ (.bin op a b) env st) Q := by
  show Wp ((ev Φ a env st).bind fun x st => (ev Φ b env st).bind fun y st => binM op x y st) Q
  simp only [Wp_bind]
  exact h
theorem w_neg (h : Wp (ev Φ a env st) fun x st => ∃ i, x = .int i ∧ Q (.int (-i)) st) : Wp (ev Φ (.neg a) env st) Q := by
  refine w_bind (h.mono ?_)
  rintro _ st ⟨i, rfl, q⟩
  exact Wp_val.mpr q
theorem w_not (h : Wp (ev Φ a env st) fun x st => ∃ b, x = .bl b ∧ Q (.bl (!b)) st) : Wp (ev Φ (.not a) env st) Q := by
  refine w_bind (h.mono ?_)
  rintro _ st ⟨i, rfl, q⟩
  exact Wp_val.mpr q
theorem w_and (h : Wp (ev Φ a env st) fun x st => ∃ k, x = .bl k ∧ (k = true → Wp (ev Φ b env st) Q) ∧ (k = false → Q (.bl false) st)) : Wp (ev Φ (.and a b) env st) Q := by
  refine w_bind (h.mono ?_)
  rintro _ st ⟨k, rfl, q1, q2⟩
  cases k with
  | true => exact q1 rfl
  | false => exact Wp_val.mpr (q2 rfl)
theorem w_or (h : Wp (ev Φ a env st) fun x st => ∃ k, x = .bl k ∧ (k = true → Q (.bl true) st) ∧ (k = false → Wp (ev Φ b env st) Q)) : Wp (ev Φ (.or a b) env st) Q := by
  refine w_bind (h.mono ?_)
  rintro _ st ⟨k, rfl, q1, q2⟩
  cases k with
  | true => exact Wp_val.mpr (q1 rfl)
  | false => exact q2 rfl
theorem w_ite (h : Wp (ev Φ c env st) fun x st => ∃ k, x = .bl k ∧ (k = true → Wp (ev Φ a env st) Q) ∧ (k = false → Wp (ev Φ b env st) Q)) : Wp (ev Φ (.ite c a b) env st) Q := by
  refine w_bind (h.mono ?_)
  rintro _ st ⟨k, rfl, q1, q2⟩
  cases k with
  | true => exact q1 rfl
  | false => exact q2 rfl
theorem w_cmp {op : Cop} (h : Wp (ev Φ a env st) fun x st => Wp (ev Φ b env st) fun y st => Wp (cmpM op x y st) Q) : Wp (ev Φ (.cmp op a b) env st) Q := by
  show Wp ((ev Φ a env st).bind fun x st => (ev Φ b env st).bind fun y st => cmpM op x y st) Q
  simp only [Wp_bind]
  exact h
theorem w_chn {op op' : Cop} (h : Wp (ev Φ a env st) fun x st => Wp (ev Φ b env st) fun y st => (noLst x && noLst y) = true ∧ Wp (cmpM op x y st) fun r st => ∃ k, r = .bl k ∧ (k = true → Wp (ev Φ c env st) fun z st => Wp (cmpM op' y z st) Q) ∧ (k = false → Q (.bl false) st)) : Wp (ev Φ (.chn op op' a b c) env st) Q := by
  refine w_bind (h.mono fun x st h => w_bind (h.mono fun y st ⟨h1, h⟩ => ?_))
  refine Wp_chk.mpr ⟨h1, w_bind (h.mono ?_)⟩
  rintro _ st ⟨k, rfl, q1, q2⟩
  simp only [boolOf_bl, Wp_bind, Wp_val]
  cases k with
  | true => simpa only [Wp_bind] using q1 rfl
  | false => exact Wp_val.mpr (q2 rfl)
theorem w_call {f : Nat} (h : Wp (evs Φ es env st) fun vs st => Wp (Φ f vs st) Q) : Wp (ev Φ (.call f es) env st) Q := w_bind h
theorem w_blt {f : Blt} (h : Wp (evs Φ es env st) fun vs st => Wp (bltM f vs st) Q) : Wp (ev Φ (.blt f es) env st) Q := w_bind h
theorem w_mth {f : Mth} (h : Wp (ev Φ a env st) fun x st => (lstOf st x).isSome = true ∧ Wp (evs Φ es env st) fun vs st => Wp (mthM f x vs st) Q) : Wp (ev Φ (.mth f a es) env st) Q := by
  refine w_bind (h.mono fun x st ⟨h1, h2⟩ => Wp_chk.mpr ⟨h1, w_bind h2⟩)
theorem w_tup (h : Wp (evs Φ es env st) fun vs st => Q (.tup vs) st) : Wp (ev Φ (.tup es) env st) Q := w_bind (h.mono fun _ _ q => Wp_val.mpr q)
theorem w_lst (h : Wp (evs Φ es env st) fun vs st => Q (.lst vs) st) : Wp (ev Φ (.lst es) env st) Q := w_bind (h.mono fun _ _ q => Wp_val.mpr q)
theorem w_sub (h : Wp (ev Φ a env st) fun x st => Wp (ev Φ b env st) fun y st => Wp (subM x y st) Q) : Wp (ev Φ (.sub a b) env st) Q := by
  refine w_bind (h.mono fun x st h => w_bind h)
theorem w_sli {f : Sli} (h : Wp (ev Φ a env st) fun x st => Wp (ev Φ b env st) fun y st => Wp (sliM f x y st) Q) : Wp (ev Φ (.sli f a b) env st) Q := by
  refine w_bind (h.mono fun x st h => w_bind h)
theorem w_rgl {t : Bool} (h : Wp (ev Φ a env st) fun x st => Wp (ev Φ b env st) fun y st => ∃ i j, x = .int i ∧ y = .int j ∧ 0 ≤ i ∧ i ≤ 1000000 ∧ 0 ≤ j ∧ j ≤ 1000000 ∧ Q (rangeM t i j) st) : Wp (ev Φ (.rgl t a b) env st) Q := by
  refine w_bind (h.mono fun x st h => w_bind (h.mono ?_))
  rintro _ st ⟨i, j, rfl, rfl, h1, h2, h3, h4, q⟩
  refine Wp_chk.mpr ⟨by simp [h1, h2, h3, h4], Wp_val.mpr q⟩
theorem w_nil {Q : List MV → Store → Prop} (q : Q [] st) : Wp (evs Φ .nil env st) Q := ⟨[], st, rfl, q⟩
theorem w_cons {Q : List MV → Store → Prop} (h : Wp (ev Φ a env st) fun x st => Wp (evs Φ es env st) fun xs st => Q (x :: xs) st) : Wp (evs Φ (.cons a es) env st) Q := by
  refine w_bind (h.mono fun x st h => w_bind (h.mono fun xs st q => Wp_val.mpr q))
/-! operators -/
theorem o_add (q : Q (.int (k + l)) st) : Wp (binM .add (.int k) (.int l) st) Q := ⟨_, _, rfl, q⟩
theorem o_sub (q : Q (.int (k - l)) st) : Wp (binM .sub (.int k) (.int l) st) Q := ⟨_, _, rfl, q⟩
theorem o_mul (h : (small64 k || small64 l) = true) (q : Q (.int (k * l)) st) : Wp (binM .mul (.int k) (.int l) st) Q := Wp_chk.mpr ⟨h, Wp_val.mpr q⟩
theorem o_mulR (h : small64 l = true) (q : Q (.int (k * l)) st) : Wp (binM .mul (.int k) (.int l) st) Q := o_mul (by simp [h]) q
theorem o_mulL (h : small64 k = true) (q : Q (.int (k * l)) st) : Wp (binM .mul (.int k) (.int l) st) Q := o_mul (by simp [h]) q
theorem o_fdiv (h : l ≠ 0 ∧ l.natAbs < 1073741824) (q : Q (.int (k.fdiv l)) st) : Wp (binM .fdiv (.int k) (.int l) st) Q := Wp_chk.mpr ⟨by simp [h.1, h.2], Wp_val.mpr q⟩
theorem o_mod (h : l ≠ 0) (q : Q (.int (k.fmod l)) st) : Wp (binM .mod (.int k) (.int l) st) Q := Wp_chk.mpr ⟨by simp [h], Wp_val.mpr q⟩
theorem o_addT (h : xs.length + ys.length ≤ big) (q : Q (.tup (xs ++ ys)) st) : Wp (binM .add (.tup xs) (.tup ys) st) Q := Wp_chk.mpr ⟨by simp [h], Wp_val.mpr q⟩
theorem o_lt (q : Q (.bl (decide (k < l))) st) : Wp (cmpM .lt (.int k) (.int l) st) Q := ⟨_, _, rfl, q⟩
theorem o_le (q : Q (.bl (decide (k ≤ l))) st) : Wp (cmpM .le (.int k) (.int l) st) Q := ⟨_, _, rfl, q⟩
theorem o_gt (q : Q (.bl (decide (l < k))) st) : Wp (cmpM .gt (.int k) (.int l) st) Q := ⟨_, _, rfl, q⟩
theorem o_ge (q : Q (.bl (decide (l ≤ k))) st) : Wp (cmpM .ge (.int k) (.int l) st) Q := ⟨_, _, rfl, q⟩
theorem o_isn (q : Q (.bl (!isNon x)) st) : Wp (cmpM .isn x .non st) Q := ⟨_, _, rfl, q⟩
theorem o_is (q : Q (.bl (isNon x)) st) : Wp (cmpM .is x .non st) Q := ⟨_, _, rfl, q⟩
theorem o_isb {b c : Bool} (q : Q (.bl (decide (b = c))) st) : Wp (cmpM .is (.bl b) (.bl c) st) Q := ⟨_, _, rfl, q⟩
theorem o_isnb {b c : Bool} (q : Q (.bl (!decide (b = c))) st) : Wp (cmpM .isn (.bl b) (.bl c) st) Q := ⟨_, _, rfl, q⟩
/-! built-ins -/
theorem b_int (q : Q (.int k) st) : Wp (bltM .int [.int k] st) Q := ⟨_, _, rfl, q⟩
theorem b_abs (q : Q (.int (if k < 0 then -k else k)) st) : Wp (bltM .abs [.int k] st) Q := ⟨_, _, rfl, q⟩
theorem b_min (q : Q (.int (if l < k then l else k)) st) : Wp (bltM .min [.int k, .int l] st) Q := ⟨_, _, rfl, q⟩
theorem b_max (q : Q (.int (if l > k then l else k)) st) : Wp (bltM .max [.int k, .int l] st) Q := ⟨_, _, rfl, q⟩
theorem b_lenT (q : Q (.int xs.length) st) : Wp (bltM .len [.tup xs] st) Q := ⟨_, _, rfl, q⟩
theorem b_lenL (q : Q (.int xs.length) st) : Wp (bltM .len [.lst xs] st) Q := ⟨_, _, rfl, q⟩
theorem b_lenO (q : Q (.int xs.length) st) : Wp (bltM .len [.rol xs] st) Q := ⟨_, _, rfl, q⟩
theorem b_lenR (h : st[i]? = some (.lst xs)) (q : Q (.int xs.length) st) : Wp (bltM .len [.ref i] st) Q := ⟨_, st, by show lenM (.ref i) st = _; simp [lenM, seqOf, h], q⟩
theorem b_isi {t : Ty} (h : isiM t x st = .val m st) (q : Q m st) : Wp (bltM (.isi t) [x] st) Q := ⟨_, _, h, q⟩
/-! subscripts -/
theorem u_tup (h : atM xs k = some m) (q : Q m st) : Wp (subM (.tup xs) (.int k) st) Q := ⟨m, st, by simp [subM, seqOf, h], q⟩
theorem u_lst (h : atM xs k = some m) (q : Q m st) : Wp (subM (.lst xs) (.int k) st) Q := ⟨m, st, by simp [subM, seqOf, h], q⟩
theorem u_rol (h : atM xs k = some m) (q : Q m st) : Wp (subM (.rol xs) (.int k) st) Q := ⟨m, st, by simp [subM, seqOf, h], q⟩
theorem u_ref (h1 : st[i]? = some (.lst xs)) (h : atM xs k = some m) (q : Q m st) : Wp (subM (.ref i) (.int k) st) Q := ⟨m, st, by simp [subM, seqOf, h1, h], q⟩
/-! statements -/
theorem z_nil (q : N env st) : Ws (exs Φ .nil env st) N R := Ws_next.mpr q
theorem z_cons {s : S} {r : Ss} (h : Ws (ex Φ s env st) (fun env st => Ws (exs Φ r env st) N R) R) : Ws (exs Φ (.cons s r) env st) N R := Ws_seq.mpr h
theorem z_asg {tg : Tg} {e : E} (h : Wp (ev Φ e env st) fun x st => Wp (asgT tg x env st) fun env st => N env st) : Ws (ex Φ (.asg tg e) env st) N R := by
  refine Ws_bindS.mpr (h.mono fun x st h => Ws_bindS.mpr (h.mono fun env st q => Ws_next.mpr q))
theorem z_ret {e : E} (h : Wp (ev Φ e env st) R) : Ws (ex Φ (.ret e) env st) N R := Ws_bindS.mpr (h.mono fun _ _ q => Ws_ret.mpr q)
theorem z_exp {e : E} (h : Wp (ev Φ e env st) fun _ st => N env st) : Ws (ex Φ (.exp e) env st) N R := Ws_bindS.mpr (h.mono fun _ _ q => Ws_next.mpr q)
theorem z_iff {c : E} {a b : Ss} (h : Wp (ev Φ c env st) fun x st => ∃ k, x = .bl k ∧ (k = true → Ws (exs Φ a env st) N R) ∧ (k = false → Ws (exs Φ b env st) N R)) : Ws (ex Φ (.iff c a b) env st) N R := by
  refine Ws_bindS.mpr (h.mono ?_)
  rintro _ st ⟨k, rfl, q1, q2⟩
  cases k with
  | true => exact q1 rfl
  | false => exact q2 rfl
theorem z_pass (q : N env st) : Ws (ex Φ .pass env st) N R := Ws_next.mpr q
theorem z_set {e : E} (h : Wp (ev Φ e env st) fun x st => Wp (ev Φ a env st) fun p st => Wp (ev Φ b env st) fun y st => Wp (setM p y x st) fun _ st => N env st) : Ws (ex Φ (.set a b e) env st) N R := by
  refine Ws_bindS.mpr (h.mono fun x st h => Ws_bindS.mpr (h.mono fun p st h => Ws_bindS.mpr (h.mono fun y st h => Ws_bindS.mpr (h.mono fun _ st q => Ws_next.mpr q))))
theorem t_set {N : Unit → Store → Prop} (h : st[i]? = some (.lst xs)) (hk : (decide (0 ≤ k) && decide (k < xs.length)) = true) (hm : noLst m = true) (q : N () (st.set i (.lst (xs.set k.toNat m)))) : Wp (setM (.ref i) (.int k) m st) N :=
  ⟨(), _, by simp only [setM, setC, alloc_idp hm, h, hk, chk_true], q⟩
theorem z_aug {e : E} (h : Wp (ev Φ e env st) fun y st => ∃ k l, env[i]? = some (some (.int k)) ∧ y = .int l ∧ N (env.set i (some (.int (k + l)))) st) : Ws (ex Φ (.aug i e) env st) N R := by
  refine Ws_bindS.mpr (h.mono ?_)
  rintro _ st ⟨k, l, h1, rfl, q⟩
  rw [h1]
  exact Ws_next.mpr q
theorem z_for {tg : Tg} {it : It} {b : Ss} (h : Wp (evi Φ it env st) fun p st => Ws (floop p.1 tg (exs Φ b) p.2 env st) N R) : Ws (ex Φ (.for tg it b) env st) N R := Ws_bindS.mpr h
theorem g_int {N : Env → Store → Prop} (q : N (env.set i (some (.int k))) st) : Wp (asgT (.nm i) (.int k) env st) N := ⟨_, _, by simp [asgT], q⟩
theorem g_bl {b : Bool} {N : Env → Store → Prop} (q : N (env.set i (some (.bl b))) st) : Wp (asgT (.nm i) (.bl b) env st) N := ⟨_, _, by simp [asgT], q⟩
theorem g_str {z : Str} {N : Env → Store → Prop} (q : N (env.set i (some (.str z))) st) : Wp (asgT (.nm i) (.str z) env st) N := ⟨_, _, by simp [asgT], q⟩
theorem g_ref {N : Env → Store → Prop} (q : N (env.set i (some (.ref j))) st) : Wp (asgT (.nm i) (.ref j) env st) N := ⟨_, _, by simp [asgT], q⟩
theorem g_non {N : Env → Store → Prop} (q : N (env.set i (some .non)) st) : Wp (asgT (.nm i) .non env st) N := ⟨_, _, by simp [asgT], q⟩
theorem g_pure {N : Env → Store → Prop} (h : noLst x = true) (q : N (env.set i (some x)) st) : Wp (asgT (.nm i) x env st) N := ⟨_, _, by simp [asgT, alloc_idp h], q⟩
theorem g_lst {N : Env → Store → Prop} (h : noLsts xs = true) (q : N (env.set i (some (.ref st.length))) (st ++ [.lst xs])) : Wp (asgT (.nm i) (.lst xs) env st) N := ⟨_, _, by simp [asgT, alloc, allocs_idp h], q⟩
theorem g_tup {is : List Nat} {N : Env → Store → Prop} (h : xs.length = is.length) (h2 : noLsts xs = true) (q : N (asgs is xs env) st) : Wp (asgT (.nms is) (.tup xs) env st) N := ⟨_, _, by simp [asgT, allocs_idp h2, h], q⟩
theorem e_rng {a b : E} {Q : Locks × List MV → Store → Prop} (h : Wp (ev Φ a env st) fun x st => Wp (ev Φ b env st) fun y st => ∃ i j, x = .int i ∧ y = .int j ∧ (-(2 ^ 62) ≤ i ∧ i < 2 ^ 62 ∧ -(2 ^ 62) ≤ j ∧ j < 2 ^ 62) ∧ Q ([], range i j) st) : Wp (evi Φ (.rng a b) env st) Q := by
  refine w_bind (h.mono fun x st h => w_bind (h.mono ?_))
  rintro _ st ⟨i, j, rfl, rfl, ⟨h1, h2, h3, h4⟩, q⟩
  exact Wp_chk.mpr ⟨by simp only [h1, h2, h3, h4, decide_true, Bool.and_self], Wp_val.mpr q⟩
end
/-! ### the small defs -/
def btw (v : MV) (lo hi : Int) : Bool := match v with
  | .int i => decide (lo ≤ i) && decide (i ≤ hi)
  | _ => false
section
variable {X : Nat → Option FDef} {d i : Nat} {st st' st1 : Store}
theorem is_between_ok {v : MV} {lo hi : Int} (hv : pureM v = true) : call (lib X) (d + 1) 0 [v, .int lo, .int hi] st = .val (.bl (btw v lo hi)) st := by
  rw [call_go (fd := f_is_between) rfl rfl, allocs_idp (by simp [noLsts, noLst, pure_noLst hv])]
  cases v with
  | int k => by_cases h : lo ≤ k <;> simp [f_is_between, exs, ex, ev, evs, bltM, isiM, gc, btw, cmpM, ordM, noLst, h]
  | lst _ => simp [pureM] at hv
  | rol _ => simp [pureM] at hv
  | ref _ => simp [pureM] at hv
  | _ => simp [f_is_between, exs, ex, ev, evs, bltM, isiM, gc, btw, cmpM, ordM, noLst]
theorem need_members_ok {m : Int} (h1 : 1 ≤ m) (h2 : m ≤ 40) : call (lib X) (d + 2) 4 [.int m] st = .val .non st := by
  rw [call_go (fd := f_need_members) rfl rfl, allocs_idp (by simp [noLsts, noLst])]
  simp [f_need_members, exs, ex, ev, evs, is_between_ok (X := X) (d := d) (v := .int m) (by simp [pureM]), btw, h1, h2, gc]
/-! ### the draws -/
def Src (st : Store) (i : Nat) : Prop := ∃ a b : Int, st[i]? = some (.lst [.int a, .int b])
/-- the source has moved on -/
def Upd (st : Store) (i : Nat) (st' : Store) : Prop := ∃ a b : Int, st' = st.set i (.lst [.int a, .int b])
theorem Src.lt (h : Src st i) : i < st.length := by
  obtain ⟨a, b, h⟩ := h
  exact (List.getElem?_eq_some_iff.mp h).1
theorem Upd.src (h : Upd st i st') (hi : i < st.length) : Src st' i := by
  obtain ⟨a, b, rfl⟩ := h
  exact ⟨a, b, List.getElem?_set_self hi⟩
theorem Upd.trans (h : Upd st i st1) (h2 : Upd st1 i st') : Upd st i st' := by
  obtain ⟨a, b, rfl⟩ := h
  obtain ⟨a', b', rfl⟩ := h2
  exact ⟨a', b', by rw [List.set_set]⟩
theorem Upd.refl (h : Src st i) : Upd st i st := by
  obtain ⟨a, b, h⟩ := h
  obtain ⟨hi, e⟩ := List.getElem?_eq_some_iff.mp h
  exact ⟨a, b, by rw [← e, List.set_getElem_self]⟩
theorem Upd.len (h : Upd st i st') : st'.length = st.length := by
  obtain ⟨a, b, rfl⟩ := h
  exact List.length_set
theorem Upd.ne (h : Upd st i st') {j : Nat} (hj : j ≠ i) : st'[j]? = st[j]? := by
  obtain ⟨a, b, rfl⟩ := h
  exact List.getElem?_set_ne (Ne.symm hj)
theorem Upd.kpt (h : Upd st i st') : Kpt st st' := by
  obtain ⟨a, b, rfl⟩ := h
  refine ⟨List.length_set, fun j c hc => ?_⟩
  by_cases e : j = i
  · subst e
    by_cases hl : j < st.length
    · rw [List.getElem?_set_self hl] at hc
      cases hc
      exact .inr ⟨_, rfl, by simp [belows, below]⟩
    · rw [List.getElem?_eq_none (by rw [List.length_set]; omega)] at hc
      cases hc
  · rw [List.getElem?_set_ne (Ne.symm e)] at hc
    exact .inl hc
/-- the source moves while the store has grown -/
theorem Upd.app {ext : Store} (h : Upd (st ++ ext) i st') (hi : i < st.length) : ∃ st1, Upd st i st1 ∧ st' = st1 ++ ext := by
  obtain ⟨a, b, rfl⟩ := h
  exact ⟨_, ⟨a, b, rfl⟩, by rw [List.set_append_left _ _ hi]⟩
local macro_rules | `(tactic| walk_at "q") => `(tactic| (repeat' (first
  | refine z_cons ?_ | refine z_asg ?_ | refine z_ret ?_ | refine z_iff ?_ | refine z_nil ?_ | refine z_exp ?_ | refine z_set ?_ | refine z_pass ?_
  | with_reducible refine w_cst ?_ | refine w_var rfl ?_ | refine w_bin ?_ | refine w_cmp ?_ | refine w_not ?_ | refine w_and ?_ | refine w_or ?_ | refine w_chn ?_ | refine w_ite ?_ | refine w_neg ?_
  | refine w_call ?_ | refine w_blt ?_ | refine w_tup ?_ | refine w_lst ?_ | refine w_sub ?_ | refine w_sli ?_ | refine w_nil ?_ | refine w_cons ?_
  | refine o_add ?_ | refine o_sub ?_ | refine o_mulR (by decide) ?_ | refine o_mulL (by decide) ?_ | refine o_mul ?_ ?_ | refine o_fdiv (by first | decide | assumption | omega) ?_ | refine o_mod (by first | decide | assumption | omega) ?_
  | refine o_lt ?_ | refine o_le ?_ | refine o_gt ?_ | refine o_ge ?_ | refine o_isn ?_ | refine o_is ?_
  | refine b_int ?_ | refine b_abs ?_ | refine b_min ?_ | refine b_max ?_ | refine b_lenT ?_ | refine b_lenL ?_ | refine b_lenO ?_ | refine b_lenR (by assumption) ?_ | refine b_isi rfl ?_
  | refine t_set (by first | assumption | exact List.getElem?_set_self (by assumption)) (by rfl) rfl ?_ | refine u_tup rfl ?_ | refine u_ref (by first | assumption | exact List.getElem?_set_self (by assumption)) rfl ?_ | refine u_lst rfl ?_
  | refine g_int ?_ | refine g_bl ?_ | refine g_str ?_ | refine g_ref ?_ | refine g_non ?_ | refine g_tup rfl rfl ?_ | refine g_lst rfl ?_ | refine g_pure rfl ?_
  | (refine ⟨_, rfl, (fun h => ?_), (fun h => ?_)⟩ <;> first | exact absurd h (by decide) | skip)
  | refine ⟨_, rfl, ?_⟩
  | fail)))
theorem draw_ok {n : Int} (hs : Src st i) (h1 : 1 ≤ n) (h2 : n < 1000000) : Wp (call (lib X) (d + 1) 7 [.ref i, .int n] st) fun m st' => ∃ r, m = .int r ∧ 0 ≤ r ∧ r < n ∧ Upd st i st' := by
  obtain ⟨a, b, hs⟩ := hs
  have hi := (List.getElem?_eq_some_iff.mp hs).1
  have sw : ∀ {a b : Int}, Kpt st (st.set i (.lst [.int a, .int b])) := fun {a b} => Upd.kpt ⟨a, b, rfl⟩
  have fin : ∀ {a b r : Int}, 0 ≤ r → r < n → Wp (gcv st (st.set i (.lst [.int a, .int b])) (.int r)) fun m st' => ∃ r, m = .int r ∧ 0 ≤ r ∧ r < n ∧ Upd st i st' := fun {a b r} h3 h4 => by
    have := gcv_pure (ext := []) (m := .int r) (sw (a := a) (b := b)) (by simp [below])
    rw [List.append_nil] at this
    exact ⟨_, _, this, r, rfl, h3, h4, a, b, rfl⟩
  refine Wp_call (fd := f_law_draw) rfl rfl ?_
  rw [allocs_idp (by simp [noLsts, noLst])]
  have hn0 : n ≠ 0 := by omega
  have hn1 : n.natAbs < 1073741824 := by omega
  walk_at "q"
  · exact fin (Int.fmod_nonneg_of_pos _ (by omega)) (Int.fmod_lt_of_pos _ (by omega))
  · have h3 : 0 ≤ (b * 48271).fmod 2147483647 := Int.fmod_nonneg_of_pos _ (by omega)
    have h4 : (b * 48271).fmod 2147483647 < 2147483647 := Int.fmod_lt_of_pos _ (by omega)
    simp [small64]
    omega
  · exact fin (Int.fmod_nonneg_of_pos _ (by omega)) (Int.fmod_lt_of_pos _ (by omega))
theorem Kpt.pure_end {st st1 ext : Store} {m : MV} {Q : MV → Store → Prop} (k : Kpt st st1) (h : below st.length m = true) (q : Q m st1) : Wp (gcv st (st1 ++ ext) m) Q := by
  rw [gcv_pure k h]
  exact Wp_val.mpr q
/-- one of a list is drawn -/
theorem choice_lst {xs : List MV} (hs : Src st i) (hx : xs ≠ []) (hp : pureMs xs = true) (hl : xs.length < 1000000) : Wp (call (lib X) (d + 2) 8 [.ref i, .lst xs] st) fun m st' => m ∈ xs ∧ Upd st i st' := by
  refine Wp_call (fd := f_law_choice) rfl rfl ?_
  have ea : allocs [.ref i, .lst xs] st = ([.ref i, .ref st.length], st ++ [.lst xs]) := by simp [allocs, alloc, allocs_idp (pures_noLst hp)]
  rw [ea]
  have hi := hs.lt
  have h0 : (st ++ [Cell.lst xs])[st.length]? = some (.lst xs) := by simp
  have hs1 : Src (st ++ [Cell.lst xs]) i := by
    obtain ⟨a, b, h⟩ := hs
    exact ⟨a, b, by rw [List.getElem?_append_left hi]; exact h⟩
  have hpos : 1 ≤ (xs.length : Int) := by
    cases xs with
    | nil => exact absurd rfl hx
    | cons x r => simp; omega
  walk_at "q"
  refine (draw_ok hs1 hpos (by omega)).mono ?_
  rintro _ st2 ⟨r, rfl, h1, h2, h3⟩
  obtain ⟨st1, hu, rfl⟩ := h3.app hi
  have hr : r.toNat < xs.length := by omega
  have h5 : (st1 ++ [Cell.lst xs])[st.length]? = some (.lst xs) := by rw [← hu.len]; simp
  walk_at "q"
  refine u_ref h5 (m := xs[r.toNat]) (by simp [atM, h1, hr]) ?_
  exact Kpt.pure_end hu.kpt (pure_below (pures_mem hp _ (List.getElem_mem hr))) ⟨List.getElem_mem hr, hu⟩
/-- one of a list that lies in the store is drawn -/
theorem choice_ref {xs : List MV} {j : Nat} (hs : Src st i) (hj : st[j]? = some (.lst xs)) (hij : j ≠ i) (hx : xs ≠ []) (hp : pureMs xs = true) (hl : xs.length < 1000000) : Wp (call (lib X) (d + 2) 8 [.ref i, .ref j] st) fun m st' => m ∈ xs ∧ Upd st i st' := by
  refine Wp_call (fd := f_law_choice) rfl rfl ?_
  rw [allocs_idp (by simp [noLsts, noLst])]
  have hi := hs.lt
  have hpos : 1 ≤ (xs.length : Int) := by
    cases xs with
    | nil => exact absurd rfl hx
    | cons x r => simp; omega
  walk_at "q"
  refine (draw_ok hs hpos (by omega)).mono ?_
  rintro _ st2 ⟨r, rfl, h1, h2, hu⟩
  have hr : r.toNat < xs.length := by omega
  have h5 : st2[j]? = some (.lst xs) := by rw [hu.ne hij]; exact hj
  walk_at "q"
  refine u_ref h5 (m := xs[r.toNat]) (by simp [atM, h1, hr]) ?_
  have e := Kpt.pure_end (ext := []) (Q := fun m st' => m ∈ xs ∧ Upd st i st') hu.kpt (pure_below (pures_mem hp _ (List.getElem_mem hr))) ⟨List.getElem_mem hr, hu⟩
  rwa [List.append_nil] at e
end
end QR

set_option Elab.async false
set_option linter.all false
set_option maxRecDepth 100000
set_option maxHeartbeats 1000000
/-! QPlain2: comparisons, comprehensions, rules and votes. -/
namespace QR
open PySem
section
variable {Φ : Phi} {env env' : Env} {st st' : Store} {Q : MV → Store → Prop} {N : Env → Store → Prop} {R : MV → Store → Prop} {i j : Nat} {m x y : MV} {a b c : E} {es : Es} {k l : Int} {xs ys : List MV}
theorem wp_eq {α : Type} {o : Out α} {v : α} {st : Store} {Q : α → Store → Prop} (e : o = .val v st) (q : Q v st) : Wp o Q := ⟨v, st, e, q⟩
theorem Wp.eq {α : Type} {o : Out α} {v : α} {st : Store} (h : Wp o fun a s => a = v ∧ s = st) : o = .val v st := by
  obtain ⟨a, s, e, rfl, rfl⟩ := h
  exact e
/-! what is stored, the names' list written out -/
section
variable {N : Env → Store → Prop}
theorem h_int (h : env.set i (some (.int k)) = env') (q : N env' st) : Wp (asgT (.nm i) (.int k) env st) N := g_int (h ▸ q)
theorem h_bl {b : Bool} (h : env.set i (some (.bl b)) = env') (q : N env' st) : Wp (asgT (.nm i) (.bl b) env st) N := g_bl (h ▸ q)
theorem h_str {z : Str} (h : env.set i (some (.str z)) = env') (q : N env' st) : Wp (asgT (.nm i) (.str z) env st) N := g_str (h ▸ q)
theorem h_ref (h : env.set i (some (.ref j)) = env') (q : N env' st) : Wp (asgT (.nm i) (.ref j) env st) N := g_ref (h ▸ q)
theorem h_non (h : env.set i (some .non) = env') (q : N env' st) : Wp (asgT (.nm i) .non env st) N := g_non (h ▸ q)
theorem h_pure (h1 : noLst x = true) (h : env.set i (some x) = env') (q : N env' st) : Wp (asgT (.nm i) x env st) N := g_pure h1 (h ▸ q)
theorem h_lst (h1 : noLsts xs = true) (h : env.set i (some (.ref st.length)) = env') (q : N env' (st ++ [.lst xs])) : Wp (asgT (.nm i) (.lst xs) env st) N := g_lst h1 (h ▸ q)
theorem h_tup {is : List Nat} (h1 : xs.length = is.length) (h2 : noLsts xs = true) (h : asgs is xs env = env') (q : N env' st) : Wp (asgT (.nms is) (.tup xs) env st) N := g_tup h1 h2 (h ▸ q)
end
/-! equality -/
theorem beqd {α : Type} [DecidableEq α] [BEq α] [LawfulBEq α] {a b : α} : (a == b) = decide (a = b) := by
  by_cases h : a = b <;> simp [h]
theorem o_eqI (q : Q (.bl (decide (k = l))) st) : Wp (cmpM .eq (.int k) (.int l) st) Q := ⟨_, st, (by simp [cmpM, eqM, toD, PyData.eqv, beqd]), q⟩
theorem o_neI (q : Q (.bl (!decide (k = l))) st) : Wp (cmpM .ne (.int k) (.int l) st) Q := ⟨_, st, (by simp [cmpM, eqM, toD, PyData.eqv, beqd]), q⟩
theorem o_eqS {z w : Str} (q : Q (.bl (decide (z = w))) st) : Wp (cmpM .eq (.str z) (.str w) st) Q := ⟨_, st, (by simp [cmpM, eqM, toD, PyData.eqv, beqd]), q⟩
theorem o_neS {z w : Str} (q : Q (.bl (!decide (z = w))) st) : Wp (cmpM .ne (.str z) (.str w) st) Q := ⟨_, st, (by simp [cmpM, eqM, toD, PyData.eqv, beqd]), q⟩
theorem o_eqB {z w : Bool} (q : Q (.bl (decide (z = w))) st) : Wp (cmpM .eq (.bl z) (.bl w) st) Q := ⟨_, st, (by simp [cmpM, eqM, toD, PyData.eqv, beqd]), q⟩
theorem o_neB {z w : Bool} (q : Q (.bl (!decide (z = w))) st) : Wp (cmpM .ne (.bl z) (.bl w) st) Q := ⟨_, st, (by simp [cmpM, eqM, toD, PyData.eqv, beqd]), q⟩
theorem o_eqD {d e : PyData} (h1 : toD st 9 x = some d) (h2 : toD st 9 y = some e) (q : Q (.bl (PyData.eqv d e)) st) : Wp (cmpM .eq x y st) Q := ⟨_, st, (by simp only [cmpM, eqM, h1, h2]), q⟩
theorem o_neD {d e : PyData} (h1 : toD st 9 x = some d) (h2 : toD st 9 y = some e) (q : Q (.bl (!PyData.eqv d e)) st) : Wp (cmpM .ne x y st) Q := ⟨_, st, (by simp only [cmpM, eqM, h1, h2]), q⟩
theorem mapM_of {α β : Type} {f : α → Option β} {g : α → β} : ∀ {xs : List α}, (∀ x ∈ xs, f x = some (g x)) → xs.mapM f = some (xs.map g)
  | [], _ => rfl
  | x :: xs, h => by
    rw [List.mapM_cons, h x List.mem_cons_self, mapM_of fun y hy => h y (List.mem_cons_of_mem _ hy)]
    rfl
theorem toD_lst {n : Nat} {g : MV → PyData} (h : ∀ x ∈ xs, toD st n x = some (g x)) : toD st (n + 1) (.lst xs) = some (.list (xs.map g)) := by
  simp only [toD]
  rw [mapM_of h]
  rfl
theorem toD_ref {n : Nat} {g : MV → PyData} (hi : st[i]? = some (.lst xs)) (h : ∀ x ∈ xs, toD st n x = some (g x)) : toD st (n + 1) (.ref i) = some (.list (xs.map g)) := by
  simp only [toD, hi]
  rw [mapM_of h]
  rfl
theorem toD_tup {n : Nat} {g : MV → PyData} (h : ∀ x ∈ xs, toD st n x = some (g x)) : toD st (n + 1) (.tup xs) = some (.tuple (xs.map g)) := by
  simp only [toD]
  rw [mapM_of h]
  rfl
theorem eqvAll_nil {ds : List PyData} : PyData.eqvAll ds [] = ds.isEmpty := by cases ds <;> simp [PyData.eqvAll]
/-! comprehensions -/
def turnP (Φ : Phi) (tg : Tg) (c e : E) (env : Env) (x : MV) (st : Store) : Out (Option MV) :=
  (asgT tg x env st).bind fun env' st => (ev Φ c env' st).bind fun t st => (boolOf t st).bind fun k st => match k with
    | true => (ev Φ e env' st).bind fun y st => .val (some y) st
    | false => .val none st
theorem w_turn {tg : Tg} {c e : E} {Q : Option MV → Store → Prop} (h : Wp (asgT tg x env st) fun env' st => Wp (ev Φ c env' st) fun t st => ∃ k, t = .bl k ∧ (k = true → Wp (ev Φ e env' st) fun y st => Q (some y) st) ∧ (k = false → Q none st)) : Wp (turnP Φ tg c e env x st) Q := by
  refine w_bind (h.mono fun env' st h => w_bind (h.mono ?_))
  rintro _ st ⟨k, rfl, q1, q2⟩
  simp only [boolOf_bl, Wp_bind, Wp_val]
  cases k with
  | true => exact Wp_bind.mpr ((q1 rfl).mono fun _ _ z => Wp_val.mpr z)
  | false => exact Wp_val.mpr (q2 rfl)
theorem w_comp {tg : Tg} {it : It} {c e : E} (h : Wp (evi Φ it env st) fun p st => p.2.length ≤ big ∧ Wp (cloop p.1 (turnP Φ tg c e env) p.2 st) fun ys st => Q (.lst ys) st) : Wp (ev Φ (.comp e tg it c) env st) Q := by
  refine w_bind (h.mono fun p st ⟨h1, h2⟩ => Wp_chk.mpr ⟨by simpa using h1, w_bind (h2.mono fun ys st q => Wp_val.mpr q)⟩)
theorem w_compP {tg : Tg} {it : It} {c e : E} {items : List MV} {lk : Locks} (g : MV → Option MV) (h : Wp (evi Φ it env st) fun p s => p = (lk, items) ∧ s = st) (hb : items.length ≤ big) (hl : held lk st = true) (ht : ∀ x ∈ items, Wp (turnP Φ tg c e env x st) fun y s => y = g x ∧ s = st) (q : Q (.lst (items.filterMap g)) st) :
    Wp (ev Φ (.comp e tg it c) env st) Q := by
  refine w_comp (h.mono ?_)
  rintro _ _ ⟨rfl, rfl⟩
  exact ⟨hb, wp_eq (cloop_pure hl fun x hx => (ht x hx).eq) q⟩
theorem e_ex {a : E} {Q : Locks × List MV → Store → Prop} (h : Wp (ev Φ a env st) fun x st => ∃ xs, seqOf st x = some xs ∧ noLsts xs = true ∧ Q (lockOf st x, xs) st) : Wp (evi Φ (.ex a) env st) Q := by
  refine w_bind (h.mono ?_)
  rintro x st ⟨xs, h1, h2, q⟩
  rw [h1]
  show Wp (Out.val (lockOf st x, (allocs xs st).1) (allocs xs st).2) Q
  rw [allocs_idp h2]
  exact Wp_val.mpr q
theorem e_enum {a : E} {Q : Locks × List MV → Store → Prop} (h : Wp (ev Φ a env st) fun x st => ∃ xs, seqOf st x = some xs ∧ noLsts xs = true ∧ Q (lockOf st x, enumFrom 0 xs) st) : Wp (evi Φ (.enum a) env st) Q := by
  refine w_bind (h.mono ?_)
  rintro x st ⟨xs, h1, h2, q⟩
  rw [h1]
  exact Wp_chk.mpr ⟨h2, Wp_val.mpr q⟩
theorem bsOf_mp {bs : List Bool} : bsOf (bs.map .bl) = some bs := by
  induction bs with
  | nil => rfl
  | cons b bs ih => simp [bsOf, ih]
theorem intsOf_mp {bs : List Int} : intsOf (bs.map .int) = some bs := by
  induction bs with
  | nil => rfl
  | cons b bs ih => simp [intsOf, ih]
theorem b_all {bs : List Bool} (q : Q (.bl (bs.all id)) st) : Wp (bltM .all [.lst (bs.map .bl)] st) Q := ⟨_, st, by simp [bltM, lstOf, bsOf_mp], q⟩
theorem b_any {bs : List Bool} (q : Q (.bl (bs.any id)) st) : Wp (bltM .any [.lst (bs.map .bl)] st) Q := ⟨_, st, by simp [bltM, lstOf, bsOf_mp], q⟩
theorem b_tup (h : seqOf st x = some xs) (q : Q (.tup xs) st) : Wp (bltM .tuple [x] st) Q := ⟨_, st, by simp [bltM, h], q⟩
theorem filterMap_some {α β : Type} {f : α → β} {xs : List α} : xs.filterMap (fun x => some (f x)) = xs.map f := by
  induction xs with
  | nil => rfl
  | cons x xs ih => simp
end
local macro_rules | `(tactic| walk_at "q") => `(tactic| (repeat' (first
  | with_reducible refine z_cons ?_ | with_reducible refine z_asg ?_ | with_reducible refine z_ret ?_ | with_reducible refine z_iff ?_ | with_reducible refine z_nil ?_ | with_reducible refine z_exp ?_ | with_reducible refine z_set ?_ | with_reducible refine z_pass ?_
  | with_reducible refine w_cst ?_ | ((with_reducible apply w_var); rfl) | with_reducible refine w_bin ?_ | with_reducible refine w_cmp ?_ | with_reducible refine w_not ?_ | with_reducible refine w_and ?_ | with_reducible refine w_or ?_ | with_reducible refine w_chn ?_ | with_reducible refine w_ite ?_ | with_reducible refine w_neg ?_
  | with_reducible refine w_call ?_ | with_reducible refine w_blt ?_ | with_reducible refine w_tup ?_ | with_reducible refine w_lst ?_ | with_reducible refine w_sub ?_ | with_reducible refine w_sli ?_ | with_reducible refine w_nil ?_ | with_reducible refine w_cons ?_
  | with_reducible refine o_add ?_ | with_reducible refine o_sub ?_ | ((with_reducible apply o_mulR); decide) | ((with_reducible apply o_mulL); decide) | with_reducible refine o_mul ?_ ?_ | ((with_reducible apply o_fdiv); (first | decide | assumption | omega)) | ((with_reducible apply o_mod); (first | decide | assumption | omega))
  | with_reducible refine o_lt ?_ | with_reducible refine o_le ?_ | with_reducible refine o_gt ?_ | with_reducible refine o_ge ?_ | with_reducible refine o_isn ?_ | with_reducible refine o_is ?_ | with_reducible refine o_isb ?_ | with_reducible refine o_isnb ?_ | with_reducible refine o_eqI ?_ | with_reducible refine o_neI ?_ | with_reducible refine o_eqS ?_ | with_reducible refine o_neS ?_ | with_reducible refine o_eqB ?_ | with_reducible refine o_neB ?_
  | with_reducible refine b_int ?_ | with_reducible refine b_abs ?_ | with_reducible refine b_min ?_ | with_reducible refine b_max ?_ | with_reducible refine b_lenT ?_ | with_reducible refine b_lenL ?_ | with_reducible refine b_lenO ?_ | ((with_reducible apply b_lenR); assumption) | ((with_reducible apply b_isi); rfl)
  | ((with_reducible apply t_set); (first | assumption | exact List.getElem?_set_self (by assumption)); rfl; (first | rfl | assumption)) | ((with_reducible apply u_tup); rfl) | ((with_reducible apply u_ref); (first | assumption | exact List.getElem?_set_self (by assumption)); rfl) | ((with_reducible apply u_lst); rfl)
  | ((with_reducible apply h_int); (focus ((try simp only [List.set_cons_succ, List.set_cons_zero, asgs]); rfl))) | ((with_reducible apply h_bl); (focus ((try simp only [List.set_cons_succ, List.set_cons_zero, asgs]); rfl))) | ((with_reducible apply h_str); (focus ((try simp only [List.set_cons_succ, List.set_cons_zero, asgs]); rfl))) | ((with_reducible apply h_ref); (focus ((try simp only [List.set_cons_succ, List.set_cons_zero, asgs]); rfl))) | ((with_reducible apply h_non); (focus ((try simp only [List.set_cons_succ, List.set_cons_zero, asgs]); rfl))) | ((with_reducible apply h_tup); rfl; (first | (focus (simp [noLsts, noLst]; done)) | assumption); (focus ((try simp only [List.set_cons_succ, List.set_cons_zero, asgs]); rfl))) | ((with_reducible apply h_lst); (first | (focus (simp [noLsts, noLst]; done)) | assumption); (focus ((try simp only [List.set_cons_succ, List.set_cons_zero, asgs]); rfl))) | ((with_reducible apply h_pure); (first | (focus (simp [noLsts, noLst]; done)) | assumption); (focus ((try simp only [List.set_cons_succ, List.set_cons_zero, asgs]); rfl)))
  | with_reducible refine w_turn ?_
  | ((with_reducible refine ⟨_, rfl, (fun h => ?_), (fun h => ?_)⟩) <;> first | exact absurd h (by decide +kernel) | (exfalso; simp at h; done) | (exfalso; simp at h; omega) | skip)
  | with_reducible rfl
  | (with_reducible refine ⟨True.intro, ?_⟩)
  | (with_reducible refine ⟨rfl, ?_⟩)
  | (with_reducible refine ⟨_, rfl, ?_⟩)
  | fail)))
/-! ### rules, votes -/
structure Cd where
  kind : Str
  top : Int
  bottom : Int
  more : Bool
  deriving DecidableEq
def kindsL : List Str := ["cast", "present", "all", "turnout"]
structure okC (c : Cd) : Prop where
  kind : c.kind ∈ kindsL
  t0 : 0 ≤ c.top
  t1 : c.top ≤ c.bottom
  b0 : 1 ≤ c.bottom
  b1 : c.bottom ≤ 20
def encC (c : Cd) : MV := .tup [.str c.kind, .int c.top, .int c.bottom, .bl c.more]
def encR (r : List Cd) : MV := .tup (r.map encC)
structure okR (r : List Cd) : Prop where
  len : r.length ≤ 4
  all : ∀ c ∈ r, okC c
def encV (y n b : Int) : MV := .tup [.int y, .int n, .int b]
structure okV (m y n b : Int) : Prop where
  hy : 0 ≤ y
  hn : 0 ≤ n
  hb : 0 ≤ b
  hs : y + n + b ≤ m
structure okM (m : Int) : Prop where
  lo : 1 ≤ m
  hi : m ≤ 40
def cmpC (c : Cd) (part whole : Int) : Bool := if c.more then decide (whole * c.top < part * c.bottom) else decide (whole * c.top ≤ part * c.bottom)
def pw (c : Cd) (m y n b : Int) : Int × Int := if c.kind = ("cast" : Str) then (y, y + n) else if c.kind = ("present" : Str) then (y, y + n + b) else if c.kind = ("all" : Str) then (y, m) else (y + n + b, m)
def hold (c : Cd) (m y n b : Int) : Bool := cmpC c (pw c m y n b).1 (pw c m y n b).2
def passR (r : List Cd) (m y n b : Int) : Bool := r.all fun c => hold c m y n b
theorem encC_pure (c : Cd) : pureM (encC c) = true := by simp [encC, pureM, pureMs]
theorem encCs_pure (r : List Cd) : pureMs (r.map encC) = true := pures_of fun m hm => by
  obtain ⟨c, _, rfl⟩ := List.mem_map.mp hm
  exact encC_pure c
theorem encR_pure (r : List Cd) : pureM (encR r) = true := by simp only [encR, pureM]; exact encCs_pure r
theorem encV_pure (y n b : Int) : pureM (encV y n b) = true := by simp [encV, pureM, pureMs]
section
variable {X : Nat → Option FDef} {d : Nat} {st : Store} {c : Cd} {r : List Cd} {m y n b : Int}
/-- a def that gives data and leaves the store alone -/
theorem call_same {L : Nat → Option FDef} {d f : Nat} {vs : List MV} {st : Store} {fd : FDef} {v : MV} (hL : L f = some fd) (hl : vs.length = fd.np) (hv : noLsts vs = true) (hb : below st.length v = true)
    (h : Ws (exs (call L d) fd.body (vs.map some ++ List.replicate (fd.ns - fd.np) none) st) (fun _ st2 => v = .non ∧ st2 = st) (fun m st2 => m = v ∧ st2 = st)) : call L (d + 1) f vs st = .val v st := by
  refine Wp.eq (Wp_call hL hl ?_)
  rw [allocs_idp hv]
  refine h.mono ?_ ?_
  · rintro _ _ ⟨rfl, rfl⟩
    rw [gcv_same hb]
    exact Wp_val.mpr ⟨rfl, rfl⟩
  · rintro _ _ ⟨rfl, rfl⟩
    rw [gcv_same hb]
    exact Wp_val.mpr ⟨rfl, rfl⟩
theorem btw_int {k lo hi : Int} (h1 : lo ≤ k) (h2 : k ≤ hi) : btw (.int k) lo hi = true := by simp [btw, h1, h2]
theorem kinds_cases {x : Str} (h : x ∈ kindsL) : x = "cast" ∨ x = "present" ∨ x = "all" ∨ x = "turnout" := by
  simpa [kindsL] using h
theorem o_nmemK {x : Str} {Q : MV → Store → Prop} (h : x ∈ kindsL) (q : Q (.bl false) st) : Wp (cmpM .nmem (.str x) (.tup [.str "cast", .str "present", .str "all", .str "turnout"]) st) Q := by
  refine ⟨_, st, ?_, q⟩
  rcases kinds_cases h with rfl | rfl | rfl | rfl <;> rfl
theorem is_condition_ok (h : okC c) : call (lib X) (d + 2) 1 [encC c] st = .val (.bl true) st := by
  refine call_same (fd := f_is_condition) rfl rfl (by simp [noLsts, pure_noLst (encC_pure c)]) (by simp [below]) ?_
  simp only [f_is_condition, List.map_cons, List.map_nil, List.cons_append, List.nil_append, List.reduceReplicate, Nat.reduceSub]
  unfold encC
  walk_at "q"
  refine o_nmemK h.kind ?_
  walk_at "q"
  refine wp_eq (is_between_ok (by simp [pureM])) ?_
  rw [btw_int h.b0 h.b1]
  walk_at "q"
  refine wp_eq (is_between_ok (by simp [pureM])) ?_
  rw [btw_int h.t0 h.t1]
  walk_at "q"
theorem big_ok {n : Nat} (h : n ≤ 1000000) : n ≤ big := Nat.le_trans h (by decide)
theorem encCs_noLst (r : List Cd) : noLsts (r.map encC) = true := pures_noLst (encCs_pure r)
set_option maxHeartbeats 400000 in
theorem is_rule_ok (h : okR r) : call (lib X) (d + 3) 2 [encR r] st = .val (.bl true) st := by
  refine call_same (fd := f_is_rule) rfl rfl (by simp [noLsts, pure_noLst (encR_pure r)]) (by simp [below]) ?_
  simp only [f_is_rule, List.map_cons, List.map_nil, List.cons_append, List.nil_append, List.reduceReplicate, Nat.reduceSub]
  unfold encR
  have hl := h.len
  walk_at "q"
  · refine w_compP (lk := []) (items := r.map encC) (fun _ => some (.bl true)) (e_ex (w_var rfl ⟨_, rfl, encCs_noLst r, rfl, rfl⟩)) (big_ok (by simp; omega)) rfl (fun x hx => ?_) ?_
    · obtain ⟨c, hc, rfl⟩ := List.mem_map.mp hx
      walk_at "q"
      refine g_pure (pure_noLst (encC_pure c)) ?_
      walk_at "q"
      exact wp_eq (is_condition_ok (h.all c hc)) ⟨rfl, rfl⟩
    · walk_at "q"
      have e : (r.map encC).filterMap (fun _ => some (MV.bl true)) = (r.map fun _ => true).map MV.bl := by
        rw [filterMap_some, List.map_map, List.map_map]
        rfl
      rw [e]
      refine b_all ?_
      refine ⟨?_, rfl⟩
      simp
theorem need_rule_ok (h : okR r) : call (lib X) (d + 4) 13 [encR r] st = .val .non st := by
  refine call_same (fd := f_need_rule) rfl rfl (by simp [noLsts, pure_noLst (encR_pure r)]) (by simp [below]) ?_
  simp only [f_need_rule, List.map_cons, List.map_nil, List.cons_append, List.nil_append, List.reduceReplicate, Nat.reduceSub]
  walk_at "q"
  refine wp_eq (is_rule_ok h) ?_
  walk_at "q"
theorem is_votes_of_ok (h : okV m y n b) : call (lib X) (d + 2) 3 [.int m, encV y n b] st = .val (.bl true) st := by
  refine call_same (fd := f_is_votes_of) rfl rfl (by simp [noLsts, noLst, pure_noLst (encV_pure y n b)]) (by simp [below]) ?_
  simp only [f_is_votes_of, List.map_cons, List.map_nil, List.cons_append, List.nil_append, List.reduceReplicate, Nat.reduceSub]
  unfold encV
  obtain ⟨h1, h2, h3, h4⟩ := h
  walk_at "q"
  refine w_compP (lk := []) (items := [.int y, .int n, .int b]) (fun _ => some (.bl true)) (e_ex (w_var (m := .tup [.int y, .int n, .int b]) (by rfl) ⟨[.int y, .int n, .int b], rfl, by simp [noLsts, noLst], rfl, rfl⟩)) (big_ok (by simp)) rfl (fun x hx => ?_) ?_
  · have hq : ∃ k, x = .int k ∧ 0 ≤ k ∧ k ≤ m := by
      simp only [List.mem_cons, List.not_mem_nil, or_false] at hx
      rcases hx with rfl | rfl | rfl
      · exact ⟨y, rfl, h1, by omega⟩
      · exact ⟨n, rfl, h2, by omega⟩
      · exact ⟨b, rfl, h3, by omega⟩
    obtain ⟨k, rfl, h5, h6⟩ := hq
    walk_at "q"
    refine wp_eq (is_between_ok (by simp [pureM])) ?_
    rw [btw_int h5 h6]
    exact ⟨rfl, rfl⟩
  · walk_at "q"
    refine b_all (bs := [true, true, true]) ?_
    walk_at "q"
    refine ⟨_, _, rfl, ?_⟩
    walk_at "q"
    simp
    omega
theorem need_votes_ok (h : okV m y n b) : call (lib X) (d + 3) 14 [.int m, encV y n b] st = .val .non st := by
  refine call_same (fd := f_need_votes) rfl rfl (by simp [noLsts, noLst, pure_noLst (encV_pure y n b)]) (by simp [below]) ?_
  simp only [f_need_votes, List.map_cons, List.map_nil, List.cons_append, List.nil_append, List.reduceReplicate, Nat.reduceSub]
  walk_at "q"
  refine wp_eq (is_votes_of_ok h) ?_
  walk_at "q"
end
end QR

set_option Elab.async false
set_option linter.all false
set_option maxRecDepth 100000
set_option maxHeartbeats 4000000
/-! QPlain3: what passes, what is drawn. -/
namespace QR
open PySem
local macro_rules | `(tactic| walk_at "q") => `(tactic| (repeat' (first
  | with_reducible refine z_cons ?_ | with_reducible refine z_asg ?_ | with_reducible refine z_ret ?_ | with_reducible refine z_iff ?_ | with_reducible refine z_nil ?_ | with_reducible refine z_exp ?_ | with_reducible refine z_set ?_ | with_reducible refine z_pass ?_
  | with_reducible refine w_cst ?_ | ((with_reducible apply w_var); rfl) | with_reducible refine w_bin ?_ | with_reducible refine w_cmp ?_ | with_reducible refine w_not ?_ | with_reducible refine w_and ?_ | with_reducible refine w_or ?_ | with_reducible refine w_chn ?_ | with_reducible refine w_ite ?_ | with_reducible refine w_neg ?_
  | with_reducible refine w_call ?_ | with_reducible refine w_blt ?_ | with_reducible refine w_tup ?_ | with_reducible refine w_lst ?_ | with_reducible refine w_sub ?_ | with_reducible refine w_sli ?_ | with_reducible refine w_nil ?_ | with_reducible refine w_cons ?_
  | with_reducible refine o_add ?_ | with_reducible refine o_sub ?_ | ((with_reducible apply o_mulR); decide) | ((with_reducible apply o_mulL); decide) | with_reducible refine o_mul ?_ ?_ | ((with_reducible apply o_fdiv); (first | decide | assumption | omega)) | ((with_reducible apply o_mod); (first | decide | assumption | omega))
  | with_reducible refine o_lt ?_ | with_reducible refine o_le ?_ | with_reducible refine o_gt ?_ | with_reducible refine o_ge ?_ | with_reducible refine o_isn ?_ | with_reducible refine o_is ?_ | with_reducible refine o_isb ?_ | with_reducible refine o_isnb ?_ | with_reducible refine o_eqI ?_ | with_reducible refine o_neI ?_ | with_reducible refine o_eqS ?_ | with_reducible refine o_neS ?_ | with_reducible refine o_eqB ?_ | with_reducible refine o_neB ?_
  | with_reducible refine b_int ?_ | with_reducible refine b_abs ?_ | with_reducible refine b_min ?_ | with_reducible refine b_max ?_ | with_reducible refine b_lenT ?_ | with_reducible refine b_lenL ?_ | with_reducible refine b_lenO ?_ | ((with_reducible apply b_lenR); assumption) | ((with_reducible apply b_isi); rfl)
  | ((with_reducible apply t_set); (first | assumption | exact List.getElem?_set_self (by assumption)); rfl; (first | rfl | assumption)) | ((with_reducible apply u_tup); rfl) | ((with_reducible apply u_ref); (first | assumption | exact List.getElem?_set_self (by assumption)); rfl) | ((with_reducible apply u_lst); rfl)
  | ((with_reducible apply h_int); (focus ((try simp only [List.set_cons_succ, List.set_cons_zero, asgs]); rfl))) | ((with_reducible apply h_bl); (focus ((try simp only [List.set_cons_succ, List.set_cons_zero, asgs]); rfl))) | ((with_reducible apply h_str); (focus ((try simp only [List.set_cons_succ, List.set_cons_zero, asgs]); rfl))) | ((with_reducible apply h_ref); (focus ((try simp only [List.set_cons_succ, List.set_cons_zero, asgs]); rfl))) | ((with_reducible apply h_non); (focus ((try simp only [List.set_cons_succ, List.set_cons_zero, asgs]); rfl))) | ((with_reducible apply h_tup); rfl; (first | (focus (simp [noLsts, noLst]; done)) | assumption); (focus ((try simp only [List.set_cons_succ, List.set_cons_zero, asgs]); rfl))) | ((with_reducible apply h_lst); (first | (focus (simp [noLsts, noLst]; done)) | assumption); (focus ((try simp only [List.set_cons_succ, List.set_cons_zero, asgs]); rfl))) | ((with_reducible apply h_pure); (first | (focus (simp [noLsts, noLst]; done)) | assumption); (focus ((try simp only [List.set_cons_succ, List.set_cons_zero, asgs]); rfl)))
  | with_reducible refine w_turn ?_
  | ((with_reducible refine ⟨_, rfl, (fun h => ?_), (fun h => ?_)⟩) <;> first | exact absurd h (by decide +kernel) | (exfalso; simp at h; done) | (exfalso; simp at h; omega) | skip)
  | with_reducible rfl
  | (with_reducible refine ⟨True.intro, ?_⟩)
  | (with_reducible refine ⟨rfl, ?_⟩)
  | (with_reducible refine ⟨_, rfl, ?_⟩)
  | fail)))
section
variable {X : Nat → Option FDef} {d : Nat} {st : Store} {c : Cd} {r : List Cd} {m y n b : Int}
theorem small_of {k : Int} (h1 : -1000000 ≤ k) (h2 : k ≤ 1000000) : small64 k = true := by
  simp only [small64, Bool.and_eq_true, decide_eq_true_eq]
  omega
theorem pw_ok (h : okC c) : call (lib X) (d + 1) 15 [.str c.kind, .int m, encV y n b] st = .val (.tup [.int (pw c m y n b).1, .int (pw c m y n b).2]) st := by
  refine call_same (fd := f_part_and_whole) rfl rfl (by simp [noLsts, noLst, encV]) (by simp [below, belows]) ?_
  simp only [f_part_and_whole, List.map_cons, List.map_nil, List.cons_append, List.nil_append, List.reduceReplicate, Nat.reduceSub]
  unfold encV pw
  rcases kinds_cases h.kind with e | e | e | e <;> rw [e] <;> walk_at "q"
theorem hold_ok (h : okC c) : call (lib X) (d + 2) 16 [encC c, .int m, encV y n b] st = .val (.bl (hold c m y n b)) st := by
  refine call_same (fd := f_holds) rfl rfl (by simp [noLsts, noLst, encV, encC]) (by simp [below, belows]) ?_
  simp only [f_holds, List.map_cons, List.map_nil, List.cons_append, List.nil_append, List.reduceReplicate, Nat.reduceSub]
  have hb := small_of (k := c.bottom) (by have := h.b0; omega) (by have := h.b1; omega)
  have ht := small_of (k := c.top) (by have := h.t0; omega) (by have := h.t1; have := h.b1; omega)
  unfold encC
  walk_at "q"
  refine wp_eq (pw_ok h) ?_
  walk_at "q"
  · simp [hb]
  · simp [ht]
  · rename_i h0
    exact ⟨by simp only [hold, cmpC, h0, if_true], rfl⟩
  · simp [hb]
  · simp [ht]
  · rename_i h0
    exact ⟨by simp only [hold, cmpC, h0, Bool.false_eq_true, if_false], rfl⟩
theorem is_passed_ok (h : okR r) : call (lib X) (d + 3) 17 [encR r, .int m, encV y n b] st = .val (.bl (passR r m y n b)) st := by
  refine call_same (fd := f_is_passed) rfl rfl (by simp [noLsts, noLst, encV, pure_noLst (encR_pure r)]) (by simp [below, belows]) ?_
  simp only [f_is_passed, List.map_cons, List.map_nil, List.cons_append, List.nil_append, List.reduceReplicate, Nat.reduceSub]
  have hl := h.len
  walk_at "q"
  refine w_compP (lk := []) (items := r.map encC) (fun x => some (.bl (match x with
    | .tup [.str k, .int t, .int b', .bl o] => hold ⟨k, t, b', o⟩ m y n b
    | _ => false))) (e_ex (w_var rfl ⟨_, rfl, encCs_noLst r, rfl, rfl⟩)) (big_ok (by simp; omega)) rfl (fun x hx => ?_) ?_
  · obtain ⟨c, hc, rfl⟩ := List.mem_map.mp hx
    walk_at "q"
    refine g_pure (pure_noLst (encC_pure c)) ?_
    walk_at "q"
    exact wp_eq (hold_ok (h.all c hc)) ⟨rfl, rfl⟩
  · walk_at "q"
    have e : (r.map encC).filterMap (fun x => some (MV.bl (match x with
      | .tup [.str k, .int t, .int b', .bl o] => hold ⟨k, t, b', o⟩ m y n b
      | _ => false))) = (r.map fun c => hold c m y n b).map MV.bl := by
      rw [filterMap_some, List.map_map, List.map_map]
      rfl
    rw [e]
    refine b_all ?_
    refine ⟨?_, rfl⟩
    simp [passR, List.all_map, Function.comp_def]
theorem passes_ok (h : okR r) (hm : okM m) (hv : okV m y n b) : call (lib X) (d + 5) 18 [encR r, .int m, encV y n b] st = .val (.bl (passR r m y n b)) st := by
  refine call_same (fd := f_passes) rfl rfl (by simp [noLsts, noLst, encV, pure_noLst (encR_pure r)]) (by simp [below, belows]) ?_
  simp only [f_passes, List.map_cons, List.map_nil, List.cons_append, List.nil_append, List.reduceReplicate, Nat.reduceSub]
  walk_at "q"
  refine wp_eq (need_rule_ok h) ?_
  walk_at "q"
  refine wp_eq (need_members_ok hm.lo hm.hi) ?_
  walk_at "q"
  refine wp_eq (need_votes_ok hv) ?_
  walk_at "q"
  exact wp_eq (is_passed_ok h) ⟨rfl, rfl⟩
/-- the places of the conditions that do not hold -/
def failL (m y n b : Int) : Int → List Cd → List Int
  | _, [] => []
  | i, c :: r => if hold c m y n b then failL m y n b (i + 1) r else i :: failL m y n b (i + 1) r
theorem enum_mem {x : MV} : ∀ {r : List Cd} {i : Int}, x ∈ enumFrom i (r.map encC) → ∃ k c, c ∈ r ∧ x = .tup [.int k, encC c]
  | [], i, h => by simp [enumFrom] at h
  | c :: r, i, h => by
    rcases List.mem_cons.mp (show x ∈ MV.tup [.int i, encC c] :: enumFrom (i + 1) (r.map encC) from h) with e | e
    · exact ⟨i, c, List.mem_cons_self, e⟩
    · obtain ⟨k, c', h1, h2⟩ := enum_mem e
      exact ⟨k, c', List.mem_cons_of_mem _ h1, h2⟩
def failG (m y n b : Int) (x : MV) : Option MV := match x with
  | .tup [.int k, .tup [.str kd, .int t, .int b', .bl o]] => if hold ⟨kd, t, b', o⟩ m y n b then none else some (.int k)
  | _ => none
theorem fail_map : ∀ {r : List Cd} {i : Int}, (enumFrom i (r.map encC)).filterMap (failG m y n b) = (failL m y n b i r).map .int
  | [], i => rfl
  | c :: r, i => by
    show (MV.tup [.int i, encC c] :: enumFrom (i + 1) (r.map encC)).filterMap (failG m y n b) = _
    have e : failG m y n b (.tup [.int i, encC c]) = if hold c m y n b then none else some (.int i) := rfl
    rw [List.filterMap_cons, e, fail_map]
    cases h : hold c m y n b <;> simp [failL, h]
theorem enumF_len {xs : List MV} : ∀ {i : Int}, (enumFrom i xs).length = xs.length := by
  induction xs with
  | nil => intro i; rfl
  | cons x xs ih => intro i; simp [enumFrom, ih]
theorem pures_int {xs : List Int} : pureMs (xs.map .int) = true := pures_of fun m hm => by
  obtain ⟨i, _, rfl⟩ := List.mem_map.mp hm
  simp [pureM]
theorem failed_ok (h : okR r) (hm : okM m) (hv : okV m y n b) : Wp (call (lib X) (d + 5) 19 [encR r, .int m, encV y n b] st) fun v s => v = .lst ((failL m y n b 0 r).map .int) ∧ s = st := by
  refine Wp_call (fd := f_failed) rfl rfl ?_
  rw [allocs_idp (by simp [noLsts, noLst, encV, pure_noLst (encR_pure r)])]
  simp only [f_failed, List.map_cons, List.map_nil, List.cons_append, List.nil_append, List.reduceReplicate, Nat.reduceSub]
  have hl := h.len
  walk_at "q"
  refine wp_eq (need_rule_ok h) ?_
  walk_at "q"
  refine wp_eq (need_members_ok hm.lo hm.hi) ?_
  walk_at "q"
  refine wp_eq (need_votes_ok hv) ?_
  walk_at "q"
  refine w_compP (lk := []) (items := enumFrom 0 (r.map encC)) (failG m y n b) (e_enum (w_var rfl ⟨_, rfl, encCs_noLst r, rfl, rfl⟩)) (big_ok (by rw [enumF_len]; simp; omega)) rfl (fun x hx => ?_) ?_
  · obtain ⟨k, c, hc, rfl⟩ := enum_mem hx
    walk_at "q"
    refine g_tup rfl (by simp [noLsts, noLst, pure_noLst (encC_pure c)]) ?_
    walk_at "q"
    refine wp_eq (hold_ok (h.all c hc)) ?_
    walk_at "q"
    · rename_i h0
      simp only [Bool.not_eq_true'] at h0
      exact ⟨by simp [failG, encC, h0], rfl⟩
    · rename_i h0
      simp only [Bool.not_eq_false'] at h0
      exact ⟨by simp [failG, encC, h0], rfl⟩
  · rw [fail_map, gcv_sameL (pures_belows pures_int)]
    exact Wp_val.mpr ⟨rfl, rfl⟩
theorem hold_eq (h : okC c) : hold c m y n b = cmpC c (if c.kind = ("turnout" : Str) then y + n + b else y) (if c.kind = ("cast" : Str) then y + n else if c.kind = ("present" : Str) then y + n + b else m) := by
  unfold hold pw
  rcases kinds_cases h.kind with e | e | e | e <;> rw [e] <;> rfl
theorem law_holds_ok (h : okC c) : call (lib X) (d + 1) 20 [encC c, .int m, encV y n b] st = .val (.bl (hold c m y n b)) st := by
  refine call_same (fd := f_law_holds) rfl rfl (by simp [noLsts, noLst, encV, encC]) (by simp [below, belows]) ?_
  simp only [f_law_holds, List.map_cons, List.map_nil, List.cons_append, List.nil_append, List.reduceReplicate, Nat.reduceSub]
  have hb := small_of (k := c.bottom) (by have := h.b0; omega) (by have := h.b1; omega)
  have ht := small_of (k := c.top) (by have := h.t0; omega) (by have := h.t1; have := h.b1; omega)
  rw [hold_eq h]
  unfold encC encV
  rcases kinds_cases h.kind with e | e | e | e <;> rw [e] <;> walk_at "q"
  all_goals first
    | (simp [hb]; done)
    | (simp [ht]; done)
    | (rename_i h0; exact ⟨by simp only [cmpC, h0, if_true]; rfl, rfl⟩)
    | (rename_i h0; exact ⟨by simp only [cmpC, h0, Bool.false_eq_true, if_false]; rfl, rfl⟩)
/-! ### draws -/
theorem o_pow18 {Q : MV → Store → Prop} (q : Q (.int 1000000000000000000) st) : Wp (binM .pow (.int 10) (.int 18) st) Q :=
  ⟨.int 1000000000000000000, st, (by simp [binM]), q⟩
theorem source_ok {ns : List Int} {k : Int} (h0 : 0 ≤ k) (h1 : k < 1000000) : Wp (call (lib X) (d + 1) 6 [.rol (ns.map .int), .int k] st) fun v s => s = st ∧ ∃ a b, v = .lst [.int a, .int b] := by
  refine Wp_call (fd := f_law_source) rfl rfl ?_
  rw [allocs_idp (by simp [noLsts, noLst])]
  simp only [f_law_source, List.map_cons, List.map_nil, List.cons_append, List.nil_append, List.reduceReplicate, Nat.reduceSub]
  have hk := small_of (k := k) (by omega) (by omega)
  have fin : ∀ {a b : Int}, Wp (gcv st st (.lst [.int a, .int b])) fun v s => s = st ∧ ∃ a b, v = .lst [.int a, .int b] := fun {a b} => by
    rw [gcv_sameL (by simp [belows, below])]
    exact Wp_val.mpr ⟨rfl, a, b, rfl⟩
  walk_at "q"
  · rename_i h2
    have h3 : k.toNat < ns.length := by simp at h2; omega
    refine u_rol (m := .int (ns[k.toNat])) (by simp [atM, h0, h3]) ?_
    walk_at "q"
    all_goals (refine o_pow18 ?_; walk_at "q")
    all_goals exact fin
  · refine o_pow18 ?_
    walk_at "q"
    all_goals exact fin
theorem o_addr (h : Src st i) : True := trivial
theorem condition_ok {i j : Nat} {ks : List Str} (hs : Src st i) (hj : st[j]? = some (.lst (ks.map .str))) (hij : j ≠ i) (hk : ks ≠ []) (hk2 : ∀ k ∈ ks, k ∈ kindsL) (hl : ks.length < 1000000) :
    Wp (call (lib X) (d + 3) 10 [.ref i, .ref j] st) fun v s => ∃ c, v = encC c ∧ okC c ∧ Upd st i s := by
  refine Wp_call (fd := f_law_condition) rfl rfl ?_
  rw [allocs_idp (by simp [noLsts, noLst])]
  simp only [f_law_condition, List.map_cons, List.map_nil, List.cons_append, List.nil_append, List.reduceReplicate, Nat.reduceSub]
  have hi := hs.lt
  walk_at "q"
  refine (draw_ok hs (by decide) (by decide)).mono ?_
  rintro _ s1 ⟨r1, rfl, a1, a2, u1⟩
  walk_at "q"
  refine (choice_lst (u1.src hi) (by simp) (by simp [pureMs, pureM]) (by simp)).mono ?_
  rintro v1 s2 ⟨m1, u2⟩
  have hb : ∃ b : Int, v1 = .int b ∧ 1 ≤ b ∧ b ≤ 20 := by
    simp only [List.mem_cons, List.not_mem_nil, or_false] at m1
    rcases m1 with rfl | rfl | rfl | rfl | rfl | rfl | rfl
    all_goals first
      | exact ⟨_, rfl, by decide, by decide⟩
      | exact ⟨_, rfl, by omega, by omega⟩
  obtain ⟨b, rfl, b1, b2⟩ := hb
  have u12 := u1.trans u2
  have s2s := u12.src hi
  walk_at "q"
  refine (draw_ok s2s (by omega) (by omega)).mono ?_
  rintro _ s3 ⟨r2, rfl, a3, a4, u3⟩
  have u13 := u12.trans u3
  walk_at "q"
  refine (choice_lst (u13.src hi) (by simp) (by simp [pureMs, pureM]) (by simp)).mono ?_
  rintro v2 s4 ⟨m2, u4⟩
  have ht : ∃ t : Int, v2 = .int t ∧ 0 ≤ t ∧ t ≤ b := by
    simp only [List.mem_cons, List.not_mem_nil, or_false] at m2
    have e1 : b.fdiv 2 = b / 2 := Int.fdiv_eq_ediv_of_nonneg _ (by decide)
    have e2 : (b + 1).fdiv 2 = (b + 1) / 2 := Int.fdiv_eq_ediv_of_nonneg _ (by decide)
    have e3 : (2 * b).fdiv 3 = (2 * b) / 3 := Int.fdiv_eq_ediv_of_nonneg _ (by decide)
    rcases m2 with rfl | rfl | rfl | rfl
    · exact ⟨_, rfl, by omega, by omega⟩
    · exact ⟨_, rfl, by omega, by omega⟩
    · exact ⟨_, rfl, by omega, by omega⟩
    · exact ⟨_, rfl, by omega, by omega⟩
  obtain ⟨t, rfl, t1, t2⟩ := ht
  have u14 := u13.trans u4
  walk_at "q"
  refine (choice_ref (u14.src hi) (by rw [u14.ne hij]; exact hj) hij (by simpa using hk) (pures_of fun m hm => by
    obtain ⟨z, _, rfl⟩ := List.mem_map.mp hm
    simp [pureM]) (by simpa using hl)).mono ?_
  rintro v3 s5 ⟨m3, u5⟩
  obtain ⟨z, hz, rfl⟩ := List.mem_map.mp m3
  have u15 := u14.trans u5
  walk_at "q"
  refine (draw_ok (u15.src hi) (by decide) (by decide)).mono ?_
  rintro _ s6 ⟨r3, rfl, a5, a6, u6⟩
  have u16 := u15.trans u6
  walk_at "q"
  have e := Kpt.pure_end (ext := []) (Q := fun v s => ∃ c, v = encC c ∧ okC c ∧ Upd st i s) u16.kpt (m := encC ⟨z, t, b, decide (r3 = 0)⟩) (pure_below (encC_pure _)) ⟨_, rfl, ⟨hk2 z hz, t1, t2, b1, b2⟩, u16⟩
  rw [List.append_nil] at e
  exact e
end
end QR

set_option Elab.async false
set_option linter.all false
set_option maxRecDepth 100000
set_option maxHeartbeats 4000000
/-! QPlain4: rules and votes drawn, loops, comparisons of lists. -/
namespace QR
open PySem
local macro_rules | `(tactic| walk_at "q") => `(tactic| (repeat' (first
  | with_reducible refine z_cons ?_ | with_reducible refine z_asg ?_ | with_reducible refine z_ret ?_ | with_reducible refine z_iff ?_ | with_reducible refine z_nil ?_ | with_reducible refine z_exp ?_ | with_reducible refine z_set ?_ | with_reducible refine z_pass ?_
  | with_reducible refine w_cst ?_ | ((with_reducible apply w_var); rfl) | with_reducible refine w_bin ?_ | with_reducible refine w_cmp ?_ | with_reducible refine w_not ?_ | with_reducible refine w_and ?_ | with_reducible refine w_or ?_ | with_reducible refine w_chn ?_ | with_reducible refine w_ite ?_ | with_reducible refine w_neg ?_
  | with_reducible refine w_call ?_ | with_reducible refine w_blt ?_ | with_reducible refine w_tup ?_ | with_reducible refine w_lst ?_ | with_reducible refine w_sub ?_ | with_reducible refine w_sli ?_ | with_reducible refine w_nil ?_ | with_reducible refine w_cons ?_
  | with_reducible refine o_add ?_ | with_reducible refine o_sub ?_ | ((with_reducible apply o_mulR); decide) | ((with_reducible apply o_mulL); decide) | with_reducible refine o_mul ?_ ?_ | ((with_reducible apply o_fdiv); (first | decide | assumption | omega)) | ((with_reducible apply o_mod); (first | decide | assumption | omega))
  | with_reducible refine o_lt ?_ | with_reducible refine o_le ?_ | with_reducible refine o_gt ?_ | with_reducible refine o_ge ?_ | with_reducible refine o_isn ?_ | with_reducible refine o_is ?_ | with_reducible refine o_isb ?_ | with_reducible refine o_isnb ?_ | with_reducible refine o_eqI ?_ | with_reducible refine o_neI ?_ | with_reducible refine o_eqS ?_ | with_reducible refine o_neS ?_ | with_reducible refine o_eqB ?_ | with_reducible refine o_neB ?_
  | with_reducible refine b_int ?_ | with_reducible refine b_abs ?_ | with_reducible refine b_min ?_ | with_reducible refine b_max ?_ | with_reducible refine b_lenT ?_ | with_reducible refine b_lenL ?_ | with_reducible refine b_lenO ?_ | ((with_reducible apply b_lenR); assumption) | ((with_reducible apply b_isi); rfl)
  | ((with_reducible apply t_set); (first | assumption | exact List.getElem?_set_self (by assumption)); rfl; (first | rfl | assumption)) | ((with_reducible apply u_tup); rfl) | ((with_reducible apply u_ref); (first | assumption | exact List.getElem?_set_self (by assumption)); rfl) | ((with_reducible apply u_lst); rfl)
  | ((with_reducible apply h_int); (focus ((try simp only [List.set_cons_succ, List.set_cons_zero, asgs]); rfl))) | ((with_reducible apply h_bl); (focus ((try simp only [List.set_cons_succ, List.set_cons_zero, asgs]); rfl))) | ((with_reducible apply h_str); (focus ((try simp only [List.set_cons_succ, List.set_cons_zero, asgs]); rfl))) | ((with_reducible apply h_ref); (focus ((try simp only [List.set_cons_succ, List.set_cons_zero, asgs]); rfl))) | ((with_reducible apply h_non); (focus ((try simp only [List.set_cons_succ, List.set_cons_zero, asgs]); rfl))) | ((with_reducible apply h_tup); rfl; (first | (focus (simp [noLsts, noLst]; done)) | assumption); (focus ((try simp only [List.set_cons_succ, List.set_cons_zero, asgs]); rfl))) | ((with_reducible apply h_lst); (first | (focus (simp [noLsts, noLst]; done)) | assumption); (focus ((try simp only [List.set_cons_succ, List.set_cons_zero, asgs]); rfl))) | ((with_reducible apply h_pure); (first | (focus (simp [noLsts, noLst]; done)) | assumption); (focus ((try simp only [List.set_cons_succ, List.set_cons_zero, asgs]); rfl)))
  | with_reducible refine w_turn ?_
  | ((with_reducible refine ⟨_, rfl, (fun h => ?_), (fun h => ?_)⟩) <;> first | exact absurd h (by decide +kernel) | (exfalso; simp at h; done) | (exfalso; simp at h; omega) | skip)
  | with_reducible rfl
  | (with_reducible refine ⟨True.intro, ?_⟩)
  | (with_reducible refine ⟨rfl, ?_⟩)
  | (with_reducible refine ⟨_, rfl, ?_⟩)
  | fail)))
section
variable {Φ : Phi} {env env' : Env} {st st' : Store} {Q : MV → Store → Prop} {N : Env → Store → Prop} {R : MV → Store → Prop} {i j : Nat} {m x y : MV} {a b c : E} {es : Es} {k l : Int} {xs ys : List MV}
theorem floop_inv {lk : Locks} {tg : Tg} {b : Env → Store → SOut} {P : Env → Store → Prop} (h2 : ∀ env st, P env st → held lk st = true) : ∀ {items : List MV} {env : Env} {st : Store}, (∀ x ∈ items, ∀ env st, P env st → Wp (asgT tg x env st) fun env1 st1 => Ws (b env1 st1) P R) → P env st → (∀ env st, P env st → N env st) →
    Ws (floop lk tg b items env st) N R
  | [], env, st, _, hp, k => by
    unfold floop
    simp only [Ws_bindS, Wp_chk, Wp_val, Ws_next]
    exact ⟨h2 env st hp, k _ _ hp⟩
  | x :: r, env, st, h, hp, k => by
    unfold floop
    simp only [Ws_bindS, Wp_chk, Ws_seq]
    refine ⟨h2 env st hp, (h x List.mem_cons_self env st hp).mono fun env1 st1 q => q.mono (fun env2 st2 q2 => floop_inv h2 (fun y hy => h y (List.mem_cons_of_mem _ hy)) q2 k) fun _ _ z => z⟩
theorem range_mem {a b : Int} {x : MV} (h : x ∈ range a b) : ∃ k, x = .int k ∧ a ≤ k ∧ k < b := by
  unfold range at h
  obtain ⟨i, hi, rfl⟩ := List.mem_map.mp h
  have := List.mem_range.mp hi
  exact ⟨_, rfl, by omega, by omega⟩
theorem rangeF_len {a b : Int} : (range a b).length = (b - a).toNat := by simp [range]
/-! lists of ints, compared -/
theorem eqvAll_ints : ∀ {ks ls : List Int}, PyData.eqvAll (ks.map PyData.int) (ls.map PyData.int) = decide (ks = ls)
  | [], [] => by simp [PyData.eqvAll]
  | [], _ :: _ => by simp [PyData.eqvAll]
  | _ :: _, [] => by simp [PyData.eqvAll]
  | k :: ks, l :: ls => by
    simp only [List.map_cons, PyData.eqvAll, PyData.eqv, eqvAll_ints, List.cons.injEq, Bool.decide_and, beqd]
theorem toDI_lst {ks : List Int} : toD st 9 (.lst (ks.map .int)) = some (.list (ks.map PyData.int)) := by
  rw [toD_lst (g := fun x => match x with
    | .int i => PyData.int i
    | _ => .none) (by
      intro x hx
      obtain ⟨k, _, rfl⟩ := List.mem_map.mp hx
      rfl), List.map_map]
  rfl
theorem toDI_ref {ks : List Int} (h : st[i]? = some (.lst (ks.map .int))) : toD st 9 (.ref i) = some (.list (ks.map PyData.int)) := by
  rw [toD_ref (g := fun x => match x with
    | .int i => PyData.int i
    | _ => .none) h (by
      intro x hx
      obtain ⟨k, _, rfl⟩ := List.mem_map.mp hx
      rfl), List.map_map]
  rfl
theorem o_eqIs {ks ls : List Int} (h1 : toD st 9 x = some (.list (ks.map PyData.int))) (h2 : toD st 9 y = some (.list (ls.map PyData.int))) (q : Q (.bl (decide (ks = ls))) st) : Wp (cmpM .eq x y st) Q :=
  o_eqD h1 h2 (by rw [show PyData.eqv (.list (ks.map PyData.int)) (.list (ls.map PyData.int)) = PyData.eqvAll (ks.map PyData.int) (ls.map PyData.int) by simp [PyData.eqv], eqvAll_ints]; exact q)
theorem o_neIs {ks ls : List Int} (h1 : toD st 9 x = some (.list (ks.map PyData.int))) (h2 : toD st 9 y = some (.list (ls.map PyData.int))) (q : Q (.bl (!decide (ks = ls))) st) : Wp (cmpM .ne x y st) Q :=
  o_neD h1 h2 (by rw [show PyData.eqv (.list (ks.map PyData.int)) (.list (ls.map PyData.int)) = PyData.eqvAll (ks.map PyData.int) (ls.map PyData.int) by simp [PyData.eqv], eqvAll_ints]; exact q)
/-- a list stored with one more name -/
theorem h_tupL {is : List Nat} (h1 : (ys.length + 1) = is.length) (h2 : noLsts xs = true) (h3 : noLsts ys = true) (h : asgs is (.ref st.length :: ys) env = env') (q : N env' (st ++ [.lst xs])) : Wp (asgT (.nms is) (.tup (.lst xs :: ys)) env st) N :=
  ⟨_, _, by simp [asgT, allocs, alloc, allocs_idp h2, allocs_idp h3, h1], h ▸ q⟩
/-- append to a list in the store -/
theorem t_append (h : st[i]? = some (.lst xs)) (hm : noLst m = true) (hb : xs.length < big) (q : Q .non (st.set i (.lst (xs ++ [m])))) : Wp (mthM .append (.ref i) [m] st) Q :=
  ⟨_, _, by simp only [mthM, alloc_idp hm, h, hb, decide_true, chk_true], q⟩
theorem lstOf_ref (h : st[i]? = some (.lst xs)) : (lstOf st (.ref i)).isSome = true := by simp [lstOf, h]
end
section
variable {X : Nat → Option FDef} {d i : Nat} {st : Store} {m y n b : Int}
theorem Src.app (h : Src st i) (ext : Store) : Src (st ++ ext) i := by
  obtain ⟨a, b, e⟩ := h
  exact ⟨a, b, by rw [List.getElem?_append_left (Src.lt ⟨a, b, e⟩)]; exact e⟩
theorem Src.new {a b : Int} : Src (st ++ [.lst [.int a, .int b]]) st.length := ⟨a, b, by simp⟩
theorem Upd.get {st' : Store} {j : Nat} {c : Cell} (h : Upd st i st') (hj : j ≠ i) (e : st[j]? = some c) : st'[j]? = some c := by rw [h.ne hj]; exact e
theorem rule_ok {most : Int} (hs : Src st i) (h0 : 0 ≤ most) (h1 : most ≤ 4) : Wp (call (lib X) (d + 4) 11 [.ref i, .int most] st) fun v s => ∃ r, v = encR r ∧ okR r ∧ (r.length : Int) ≤ most ∧ Upd st i s := by
  refine Wp_call (fd := f_law_rule) rfl rfl ?_
  rw [allocs_idp (by simp [noLsts, noLst])]
  simp only [f_law_rule, List.map_cons, List.map_nil, List.cons_append, List.nil_append, List.reduceReplicate, Nat.reduceSub]
  have hi := hs.lt
  let ks : List Str := ["cast", "present", "all", "turnout", "turnout", "cast"]
  have hs1 : Src (st ++ [Cell.lst [.str "cast", .str "present", .str "all", .str "turnout", .str "turnout", .str "cast"]]) i := hs.app _
  walk_at "q"
  refine w_comp (e_rng ?_)
  walk_at "q"
  refine (draw_ok hs1 (by omega) (by omega)).mono ?_
  rintro _ s1 ⟨q, rfl, a1, a2, u1⟩
  refine ⟨0, q, rfl, rfl, by omega, ?_⟩
  have hij : st.length ≠ i := by omega
  refine ⟨big_ok (by rw [rangeF_len]; omega), ?_⟩
  refine (cloop_ok (I := fun s => Upd (st ++ [Cell.lst (ks.map .str)]) i s) (P := fun v => ∃ c, v = encC c ∧ okC c) (fun _ _ => rfl) (fun x hx s hI => ?_) u1).mono ?_
  · obtain ⟨k, rfl, _, _⟩ := range_mem hx
    walk_at "q"
    refine (condition_ok (ks := ks) (hI.src (by simp; omega)) (hI.get hij (by simp)) hij (by simp [ks]) (by decide +kernel) (by simp [ks])).mono ?_
    rintro v s' ⟨c, rfl, hc, u⟩
    exact ⟨hI.trans u, fun y hy => by cases hy; exact ⟨c, rfl, hc⟩⟩
  · rintro ys s ⟨hI, hP, hl⟩
    walk_at "q"
    refine b_tup rfl ?_
    have hr : ∃ r : List Cd, ys = r.map encC ∧ ∀ c ∈ r, okC c := by
      clear hl
      induction ys with
      | nil => exact ⟨[], rfl, fun _ z => nomatch z⟩
      | cons y ys ih =>
        obtain ⟨c, rfl, hc⟩ := hP y List.mem_cons_self
        obtain ⟨r, rfl, hr⟩ := ih fun z hz => hP z (List.mem_cons_of_mem _ hz)
        refine ⟨c :: r, rfl, fun z hz => ?_⟩
        rcases List.mem_cons.mp hz with e | e
        · rw [e]; exact hc
        · exact hr z e
    obtain ⟨r, rfl, hr⟩ := hr
    obtain ⟨st1, hu, rfl⟩ := hI.app hi
    have hl2 : r.length ≤ q.toNat := by simpa [rangeF_len] using hl
    exact Kpt.pure_end (m := encR r) hu.kpt (pure_below (encR_pure r)) ⟨r, rfl, ⟨by omega, hr⟩, by omega, hu⟩
theorem votes_ok (hs : Src st i) (h0 : 0 ≤ m) (h1 : m ≤ 40) : Wp (call (lib X) (d + 3) 12 [.ref i, .int m] st) fun v s => ∃ y n b, v = encV y n b ∧ okV m y n b ∧ Upd st i s := by
  refine Wp_call (fd := f_law_votes) rfl rfl ?_
  rw [allocs_idp (by simp [noLsts, noLst])]
  simp only [f_law_votes, List.map_cons, List.map_nil, List.cons_append, List.nil_append, List.reduceReplicate, Nat.reduceSub]
  have hi := hs.lt
  walk_at "q"
  refine (draw_ok hs (by omega) (by omega)).mono ?_
  rintro _ s1 ⟨y, rfl, a1, a2, u1⟩
  walk_at "q"
  refine (draw_ok (u1.src hi) (by omega) (by omega)).mono ?_
  rintro _ s2 ⟨n, rfl, a3, a4, u2⟩
  have u12 := u1.trans u2
  walk_at "q"
  refine (draw_ok (u12.src hi) (by omega) (by omega)).mono ?_
  rintro _ s3 ⟨b, rfl, a5, a6, u3⟩
  have u13 := u12.trans u3
  walk_at "q"
  refine (choice_lst (u13.src hi) (by simp) (by simp [pureMs, pureM]) (by simp)).mono ?_
  rintro v s4 ⟨m2, u4⟩
  have u14 := u13.trans u4
  have hb : ∃ b' : Int, v = .int b' ∧ 0 ≤ b' ∧ b' ≤ b := by
    simp only [List.mem_cons, List.not_mem_nil, or_false] at m2
    rcases m2 with rfl | rfl
    · exact ⟨0, rfl, by omega, by omega⟩
    · exact ⟨b, rfl, by omega, by omega⟩
  obtain ⟨b', rfl, b1, b2⟩ := hb
  walk_at "q"
  have e := Kpt.pure_end (ext := []) (Q := fun v s => ∃ y n b, v = encV y n b ∧ okV m y n b ∧ Upd st i s) u14.kpt (m := encV y n b') (pure_below (encV_pure _ _ _)) ⟨y, n, b', rfl, ⟨a1, a3, b1, by omega⟩, u14⟩
  rw [List.append_nil] at e
  exact e
theorem okC_iff {c : Cd} : okC c ↔ c.kind ∈ kindsL ∧ 0 ≤ c.top ∧ c.top ≤ c.bottom ∧ 1 ≤ c.bottom ∧ c.bottom ≤ 20 := ⟨fun ⟨h1, h2, h3, h4, h5⟩ => ⟨h1, h2, h3, h4, h5⟩, fun ⟨h1, h2, h3, h4, h5⟩ => ⟨h1, h2, h3, h4, h5⟩⟩
theorem gcv_blT {st st2 : Store} {b : Bool} : Wp (gcv st st2 (.bl b)) fun v _ => v = .bl b := by
  unfold gcv
  cases keepOk st.length st st2 with
  | false => exact Wp_val.mpr rfl
  | true => exact ⟨_, _, rfl, rfl⟩
theorem failL_len {r : List Cd} : ∀ {i : Int}, (failL m y n b i r).length ≤ r.length := by
  induction r with
  | nil => intro i; simp [failL]
  | cons c r ih =>
    intro i
    have := ih (i := i + 1)
    cases h : hold c m y n b <;> simp [failL, h] <;> omega
/-- all hold iff no place is told -/
theorem fail_nil {r : List Cd} : ∀ {i : Int}, decide (failL m y n b i r = []) = passR r m y n b := by
  induction r with
  | nil => intro i; rfl
  | cons c r ih =>
    intro i
    cases h : hold c m y n b with
    | true => simpa [failL, passR, h] using ih (i := i + 1)
    | false => simp [failL, passR, h]
end
end QR

set_option Elab.async false
set_option linter.all false
set_option maxRecDepth 100000
set_option maxHeartbeats 4000000
/-! QPlain5: ranges of votes. -/
namespace QR
open PySem
local macro_rules | `(tactic| walk_at "q") => `(tactic| (repeat' (first
  | with_reducible refine z_cons ?_ | with_reducible refine z_asg ?_ | with_reducible refine z_ret ?_ | with_reducible refine z_iff ?_ | with_reducible refine z_nil ?_ | with_reducible refine z_exp ?_ | with_reducible refine z_set ?_ | with_reducible refine z_pass ?_
  | with_reducible refine w_cst ?_ | ((with_reducible apply w_var); rfl) | with_reducible refine w_bin ?_ | with_reducible refine w_cmp ?_ | with_reducible refine w_not ?_ | with_reducible refine w_and ?_ | with_reducible refine w_or ?_ | with_reducible refine w_chn ?_ | with_reducible refine w_ite ?_ | with_reducible refine w_neg ?_
  | with_reducible refine w_call ?_ | with_reducible refine w_blt ?_ | with_reducible refine w_tup ?_ | with_reducible refine w_lst ?_ | with_reducible refine w_sub ?_ | with_reducible refine w_sli ?_ | with_reducible refine w_nil ?_ | with_reducible refine w_cons ?_
  | with_reducible refine o_add ?_ | with_reducible refine o_sub ?_ | ((with_reducible apply o_mulR); decide) | ((with_reducible apply o_mulL); decide) | with_reducible refine o_mul ?_ ?_ | ((with_reducible apply o_fdiv); (first | decide | assumption | omega)) | ((with_reducible apply o_mod); (first | decide | assumption | omega))
  | with_reducible refine o_lt ?_ | with_reducible refine o_le ?_ | with_reducible refine o_gt ?_ | with_reducible refine o_ge ?_ | with_reducible refine o_isn ?_ | with_reducible refine o_is ?_ | with_reducible refine o_isb ?_ | with_reducible refine o_isnb ?_ | with_reducible refine o_eqI ?_ | with_reducible refine o_neI ?_ | with_reducible refine o_eqS ?_ | with_reducible refine o_neS ?_ | with_reducible refine o_eqB ?_ | with_reducible refine o_neB ?_
  | with_reducible refine b_int ?_ | with_reducible refine b_abs ?_ | with_reducible refine b_min ?_ | with_reducible refine b_max ?_ | with_reducible refine b_lenT ?_ | with_reducible refine b_lenL ?_ | with_reducible refine b_lenO ?_ | ((with_reducible apply b_lenR); assumption) | ((with_reducible apply b_isi); rfl)
  | ((with_reducible apply t_set); (first | assumption | exact List.getElem?_set_self (by assumption)); rfl; (first | rfl | assumption)) | ((with_reducible apply u_tup); rfl) | ((with_reducible apply u_ref); (first | assumption | exact List.getElem?_set_self (by assumption)); rfl) | ((with_reducible apply u_lst); rfl)
  | ((with_reducible apply h_int); (focus ((try simp only [List.set_cons_succ, List.set_cons_zero, asgs]); rfl))) | ((with_reducible apply h_bl); (focus ((try simp only [List.set_cons_succ, List.set_cons_zero, asgs]); rfl))) | ((with_reducible apply h_str); (focus ((try simp only [List.set_cons_succ, List.set_cons_zero, asgs]); rfl))) | ((with_reducible apply h_ref); (focus ((try simp only [List.set_cons_succ, List.set_cons_zero, asgs]); rfl))) | ((with_reducible apply h_non); (focus ((try simp only [List.set_cons_succ, List.set_cons_zero, asgs]); rfl))) | ((with_reducible apply h_tup); rfl; (first | (focus (simp [noLsts, noLst]; done)) | assumption); (focus ((try simp only [List.set_cons_succ, List.set_cons_zero, asgs]); rfl))) | ((with_reducible apply h_lst); (first | (focus (simp [noLsts, noLst]; done)) | assumption); (focus ((try simp only [List.set_cons_succ, List.set_cons_zero, asgs]); rfl))) | ((with_reducible apply h_pure); (first | (focus (simp [noLsts, noLst]; done)) | assumption); (focus ((try simp only [List.set_cons_succ, List.set_cons_zero, asgs]); rfl)))
  | with_reducible refine w_turn ?_
  | ((with_reducible refine ⟨_, rfl, (fun h => ?_), (fun h => ?_)⟩) <;> first | exact absurd h (by decide +kernel) | (exfalso; simp at h; done) | (exfalso; simp at h; omega) | skip)
  | with_reducible rfl
  | (with_reducible refine ⟨True.intro, ?_⟩)
  | (with_reducible refine ⟨rfl, ?_⟩)
  | (with_reducible refine ⟨_, rfl, ?_⟩)
  | fail)))
section
variable {Φ : Phi} {env env' : Env} {st st' : Store} {Q : MV → Store → Prop} {N : Env → Store → Prop} {R : MV → Store → Prop} {i j : Nat} {m x y : MV} {a b c : E} {es : Es} {k l : Int} {xs ys : List MV}
theorem fl_nil {tg : Tg} {b : Env → Store → SOut} (q : N env st) : Ws (floop [] tg b [] env st) N R := (Ws_next.mpr q : Ws (.next env st) N R)
theorem fl_cons {tg : Tg} {b : Env → Store → SOut} (h : Wp (asgT tg x env st) fun env st => Ws (b env st) (fun env st => Ws (floop [] tg b xs env st) N R) R) : Ws (floop [] tg b (x :: xs) env st) N R := by
  unfold floop
  simp only [Ws_bindS, Wp_chk, Ws_seq]
  exact ⟨rfl, h⟩
def rngL (a b : Int) : List Int := (List.range (b - a).toNat).map fun i => a + (i : Nat)
theorem range_L {a b : Int} : range a b = (rngL a b).map .int := by
  unfold range rngL
  rw [List.map_map]
  rfl
theorem rngL_mem {a b k : Int} : k ∈ rngL a b ↔ a ≤ k ∧ k < b := by
  unfold rngL
  simp only [List.mem_map, List.mem_range]
  constructor
  · rintro ⟨i, hi, rfl⟩
    omega
  · rintro ⟨h1, h2⟩
    exact ⟨(k - a).toNat, by omega, by omega⟩
theorem rngL_lt {a b : Int} : (rngL a b).Pairwise (· < ·) := by
  unfold rngL
  rw [List.pairwise_map]
  exact List.pairwise_lt_range.imp fun h => by omega
theorem rngL_len {a b : Int} : (rngL a b).length = (b - a).toNat := by simp [rngL]
/-- «found.append(x) if p(x)» over ints: found is the last cell of the store -/
theorem loop_filter {body : Env → Store → SOut} {v : Nat} (p : Int → Bool) (E : Option MV → Env) (st0 : Store) (hs : ∀ o k, (E o).set v (some (.int k)) = E (some (.int k))) : ∀ {all : List Int} {acc : List MV} {o : Option MV},
    (∀ k ∈ all, ∀ acc, acc.length < big → Ws (body (E (some (.int k))) (st0 ++ [.lst acc])) (fun env st => env = E (some (.int k)) ∧ st = st0 ++ [.lst (if p k then acc ++ [.int k] else acc)]) R) → acc.length + all.length < big →
    Ws (floop [] (.nm v) body (all.map .int) (E o) (st0 ++ [.lst acc])) (fun env st => (∃ o, env = E o) ∧ st = st0 ++ [.lst (acc ++ (all.filter p).map .int)]) R
  | [], acc, o, _, _ => fl_nil ⟨⟨o, rfl⟩, by simp⟩
  | k :: all, acc, o, h, hb => by
    refine fl_cons (h_int (hs o k) ?_)
    refine (h k List.mem_cons_self acc (by simp at hb; omega)).mono ?_ fun _ _ z => z
    rintro _ _ ⟨rfl, rfl⟩
    have ih := loop_filter p E st0 hs (all := all) (acc := if p k then acc ++ [.int k] else acc) (o := some (.int k)) (fun k hk => h k (List.mem_cons_of_mem _ hk)) (by simp only [List.length_cons] at hb; cases p k <;> simp <;> omega)
    refine ih.mono ?_ fun _ _ z => z
    rintro env _ ⟨h1, rfl⟩
    refine ⟨h1, ?_⟩
    cases hp : p k <;> simp [hp]
/-- «return x if p(x)» over ints -/
theorem loop_first {body : Env → Store → SOut} {v : Nat} (p : Int → Bool) (f : Int → MV) (E : Option MV → Env) (st0 : Store) (hs : ∀ o k, (E o).set v (some (.int k)) = E (some (.int k))) : ∀ {all : List Int} {o : Option MV},
    (∀ k ∈ all, Ws (body (E (some (.int k))) st0) (fun env st => env = E (some (.int k)) ∧ st = st0 ∧ p k = false) (fun m st => m = f k ∧ st = st0 ∧ p k = true)) →
    Ws (floop [] (.nm v) body (all.map .int) (E o) st0) (fun env st => (∃ o, env = E o) ∧ st = st0 ∧ all.filter p = []) (fun m st => st = st0 ∧ ∃ k r, all.filter p = k :: r ∧ m = f k)
  | [], o, _ => fl_nil ⟨⟨o, rfl⟩, rfl, rfl⟩
  | k :: all, o, h => by
    refine fl_cons (h_int (hs o k) ?_)
    refine (h k List.mem_cons_self).mono ?_ ?_
    · rintro _ _ ⟨rfl, rfl, hp⟩
      refine (loop_first p f E _ hs (all := all) (o := some (.int k)) fun k hk => h k (List.mem_cons_of_mem _ hk)).mono ?_ ?_
      · rintro env st ⟨h1, h2, h3⟩
        exact ⟨h1, h2, by rw [List.filter_cons, hp]; exact h3⟩
      · rintro m st ⟨h1, k', r, h2, h3⟩
        exact ⟨h1, k', r, by rw [List.filter_cons, hp]; exact h2, h3⟩
    · rintro _ _ ⟨rfl, rfl, hp⟩
      exact ⟨rfl, k, all.filter p, by rw [List.filter_cons, hp]; rfl, rfl⟩
/-- the ends of a list of ints -/
def endsM : List Int → MV
  | [] => .non
  | k :: r => .tup [.int k, .int ((k :: r).getLast (by simp))]
def headM : List Int → MV
  | [] => .non
  | k :: _ => .int k
theorem endsM_pure (ks : List Int) : pureM (endsM ks) = true := by cases ks <;> simp [endsM, pureM, pureMs]
theorem atM_last {ks : List Int} (h : ks ≠ []) : atM (ks.map .int) (-1) = some (.int (ks.getLast h)) := by
  have hl : 0 < ks.length := List.length_pos_iff.mpr h
  unfold atM
  rw [if_neg (by decide), if_pos (by simp; omega)]
  have e : (-1 + ((ks.map MV.int).length : Int)).toNat = ks.length - 1 := by simp; omega
  rw [e, List.getElem?_map, List.getElem?_eq_getElem (by omega), ← List.getLast_eq_getElem h]
  rfl
theorem leastOf_min : ∀ {k : Int} {r : List Int}, (k :: r).Pairwise (· < ·) → leastOf (fun a b => decide (a ≤ b)) k r = k
  | k, [], _ => rfl
  | k, y :: ys, h => by
    have h1 := List.pairwise_cons.mp h
    have hky := h1.1 y List.mem_cons_self
    unfold leastOf
    rw [if_pos (by simp; omega)]
    refine leastOf_min (List.pairwise_cons.mpr ⟨fun z hz => h1.1 z (List.mem_cons_of_mem _ hz), (List.pairwise_cons.mp h1.2).2⟩)
theorem leastOf_max : ∀ {k : Int} {r : List Int}, (k :: r).Pairwise (· < ·) → leastOf (fun a b => decide (b ≤ a)) k r = (k :: r).getLast (by simp)
  | k, [], _ => rfl
  | k, y :: ys, h => by
    have h1 := List.pairwise_cons.mp h
    have hky := h1.1 y List.mem_cons_self
    unfold leastOf
    rw [if_neg (by simp; omega), leastOf_max h1.2]
    simp
theorem b_minL {ks : List Int} {n : Int} {r : List Int} (hx : lstOf st x = some (ks.map .int)) (e : ks = n :: r) (hp : ks.Pairwise (· < ·)) (q : Q (.int n) st) : Wp (bltM .min [x] st) Q := by
  subst e
  refine ⟨.int n, st, ?_, q⟩
  have : bltM .min [x] st = minM ((n :: r).map .int) st := by
    cases x <;> first | (simp only [bltM, hx]) | (simp [lstOf] at hx)
  rw [this]
  have e2 : intsOf ((n :: r).map .int) = some (n :: r) := intsOf_mp
  show (match intsOf ((n :: r).map MV.int) with
    | some (n :: ns) => Out.val (MV.int (leastOf (fun a b => decide (a ≤ b)) n ns)) st
    | some [] => .bad
    | none => .bad) = _
  rw [e2]
  show Out.val (MV.int (leastOf (fun a b => decide (a ≤ b)) n r)) st = _
  rw [leastOf_min hp]
theorem b_maxL {ks : List Int} {n : Int} {r : List Int} (hx : lstOf st x = some (ks.map .int)) (e : ks = n :: r) (hp : ks.Pairwise (· < ·)) (q : Q (.int ((n :: r).getLast (by simp))) st) : Wp (bltM .max [x] st) Q := by
  subst e
  refine ⟨_, st, ?_, q⟩
  have : bltM .max [x] st = maxM ((n :: r).map .int) st := by
    cases x <;> first | (simp only [bltM, hx]) | (simp [lstOf] at hx)
  rw [this]
  have e2 : intsOf ((n :: r).map .int) = some (n :: r) := intsOf_mp
  unfold maxM
  rw [e2]
  show Out.val (MV.int (leastOf (fun a b => decide (b ≤ a)) n r)) st = _
  rw [leastOf_max hp]
end
section
variable {X : Nat → Option FDef} {d i j : Nat} {st : Store} {c : Cd} {r : List Cd} {m y n b : Int}
def lpG (m y n b : Int) (x : MV) : Option MV := match x with
  | .tup [.str k, .int t, .int b', .bl o] => if hold ⟨k, t, b', o⟩ m y n b then none else some (.int 1)
  | _ => none
theorem lpG_map : ∀ {r : List Cd}, (r.map encC).filterMap (lpG m y n b) = ((r.filter fun c => !hold c m y n b).map fun _ => (1 : Int)).map MV.int
  | [] => rfl
  | c :: r => by
    have e1 : lpG m y n b (encC c) = if hold c m y n b then none else some (.int 1) := rfl
    rw [List.map_cons, List.filterMap_cons, e1, lpG_map]
    cases hh : hold c m y n b <;> simp [List.filter_cons, hh]
theorem law_passes_ok (h : okR r) : call (lib X) (d + 2) 26 [encR r, .int m, encV y n b] st = .val (.bl (passR r m y n b)) st := by
  refine call_same (fd := f_law_passes) rfl rfl (by simp [noLsts, noLst, encV, pure_noLst (encR_pure r)]) (by simp [below, belows]) ?_
  simp only [f_law_passes, List.map_cons, List.map_nil, List.cons_append, List.nil_append, List.reduceReplicate, Nat.reduceSub]
  have hl := h.len
  walk_at "q"
  refine w_compP (lk := []) (items := r.map encC) (lpG m y n b) (e_ex (w_var rfl ⟨_, rfl, encCs_noLst r, rfl, rfl⟩)) (big_ok (by simp; omega)) rfl (fun x hx => ?_) ?_
  · obtain ⟨c, hc, rfl⟩ := List.mem_map.mp hx
    walk_at "q"
    refine h_pure (pure_noLst (encC_pure c)) (by simp only [List.set_cons_succ, List.set_cons_zero]; rfl) ?_
    walk_at "q"
    refine wp_eq (law_holds_ok (h.all c hc)) ?_
    walk_at "q"
    · rename_i h0
      simp only [Bool.not_eq_true'] at h0
      exact ⟨by simp [lpG, encC, h0], rfl⟩
    · rename_i h0
      simp only [Bool.not_eq_false'] at h0
      exact ⟨by simp [lpG, encC, h0], rfl⟩
  · rw [lpG_map]
    walk_at "q"
    refine o_eqIs toDI_lst (toDI_lst (ks := [])) ?_
    refine ⟨?_, rfl⟩
    congr 1
    simp only [List.map_eq_nil_iff, List.filter_eq_nil_iff, passR]
    rw [Bool.eq_iff_iff]
    simp
theorem need_numbers_ok {a b : Int} (h0 : 0 ≤ a) (h1 : 0 ≤ b) (h2 : a + b ≤ m) : call (lib X) (d + 2) 21 [.int m, .tup [.int a, .int b]] st = .val .non st := by
  refine call_same (fd := f_need_numbers) rfl rfl (by simp [noLsts, noLst]) (by simp [below, belows]) ?_
  simp only [f_need_numbers, List.map_cons, List.map_nil, List.cons_append, List.nil_append, List.reduceReplicate, Nat.reduceSub]
  walk_at "q"
  refine z_for (e_ex (w_var rfl ⟨_, rfl, by simp [noLsts, noLst], ?_⟩))
  refine fl_cons ?_
  unfold b1_need_numbers
  walk_at "q"
  refine wp_eq (is_between_ok (by simp [pureM])) ?_
  rw [btw_int h0 (by omega)]
  walk_at "q"
  refine fl_cons ?_
  walk_at "q"
  refine wp_eq (is_between_ok (by simp [pureM])) ?_
  rw [btw_int h1 (by omega)]
  walk_at "q"
  exact fl_nil (z_nil ⟨trivial, rfl⟩)
theorem ends_of_ok {ks : List Int} (hj : st[j]? = some (.lst (ks.map .int))) : call (lib X) (d + 1) 22 [.ref j] st = .val (endsM ks) st := by
  refine call_same (fd := f_ends_of) rfl rfl (by simp [noLsts, noLst]) (pure_below (endsM_pure ks)) ?_
  simp only [f_ends_of, List.map_cons, List.map_nil, List.cons_append, List.nil_append, List.reduceReplicate, Nat.reduceSub]
  walk_at "q"
  refine o_neIs (toDI_ref hj) (toDI_lst (ks := [])) ?_
  walk_at "q"
  · rename_i h
    have hne : ks ≠ [] := by simpa using h
    cases ks with
    | nil => exact absurd rfl hne
    | cons k r =>
      refine u_ref hj (m := .int k) rfl ?_
      walk_at "q"
      refine u_ref hj (atM_last hne) ?_
      walk_at "q"
  · rename_i h
    have hne : ks = [] := by simpa using h
    subst hne
    exact ⟨rfl, rfl⟩
theorem passes_end {Q : MV → Store → Prop} : True := trivial
/-- the numbers of which a filter is asked -/
def noL (r : List Cd) (m y b : Int) : List Int := (rngL 0 (m - y - b + 1)).filter fun n => passR r m y n b
def blankL (r : List Cd) (m y n : Int) : List Int := (rngL 0 (m - y - n + 1)).filter fun b => passR r m y n b
def yesL (r : List Cd) (m n b : Int) : List Int := (rngL 0 (m - n - b + 1)).filter fun y => passR r m y n b
theorem no_range_ok (h : okR r) (hm : okM m) (h0 : 0 ≤ y) (h1 : 0 ≤ b) (h2 : y + b ≤ m) : call (lib X) (d + 5) 23 [encR r, .int m, .int y, .int b] st = .val (endsM (noL r m y b)) st := by
  refine Wp.eq (Wp_call (fd := f_no_range) rfl rfl ?_)
  rw [allocs_idp (by simp [noLsts, noLst, pure_noLst (encR_pure r)])]
  simp only [f_no_range, List.map_cons, List.map_nil, List.cons_append, List.nil_append, List.reduceReplicate, Nat.reduceSub]
  walk_at "q"
  refine wp_eq (need_rule_ok h) ?_
  walk_at "q"
  refine wp_eq (need_members_ok hm.lo hm.hi) ?_
  walk_at "q"
  refine wp_eq (need_numbers_ok h0 h1 h2) ?_
  walk_at "q"
  refine z_for (e_rng ?_)
  have hm1 := hm.hi
  have hm0 := hm.lo
  walk_at "q"
  refine ⟨_, _, rfl, rfl, by omega, ?_⟩
  rw [range_L]
  refine (loop_filter (fun n => passR r m y n b) (fun o => [some (encR r), some (.int m), some (.int y), some (.int b), some (.ref st.length), o]) st (fun o k => rfl) (fun k hk acc hb => ?_) (by rw [rngL_len]; simp; exact Nat.lt_of_le_of_lt (m := 100) (by omega) (by decide))).mono ?_ fun _ _ z => z
  · have hcell : (st ++ [Cell.lst acc])[st.length]? = some (.lst acc) := by simp
    have hset : ∀ x : List MV, (st ++ [Cell.lst acc]).set st.length (.lst x) = st ++ [.lst x] := fun x => by simp
    unfold b1_no_range
    walk_at "q"
    refine wp_eq (is_passed_ok h) ?_
    walk_at "q"
    · rename_i hp
      refine w_mth (w_var rfl ⟨lstOf_ref hcell, ?_⟩)
      walk_at "q"
      refine t_append hcell (by simp [noLst]) hb ?_
      walk_at "q"
      rw [hset, if_pos hp]
    · rename_i hp
      rw [if_neg (by rw [hp]; decide)]
  · rintro env s ⟨⟨o, rfl⟩, rfl⟩
    walk_at "q"
    refine wp_eq (ends_of_ok (ks := noL r m y b) (by simp; rfl)) ?_
    exact Kpt.pure_end .refl (pure_below (endsM_pure _)) ⟨rfl, rfl⟩
theorem blank_range_ok (h : okR r) (hm : okM m) (h0 : 0 ≤ y) (h1 : 0 ≤ n) (h2 : y + n ≤ m) : call (lib X) (d + 5) 24 [encR r, .int m, .int y, .int n] st = .val (endsM (blankL r m y n)) st := by
  refine Wp.eq (Wp_call (fd := f_blank_range) rfl rfl ?_)
  rw [allocs_idp (by simp [noLsts, noLst, pure_noLst (encR_pure r)])]
  simp only [f_blank_range, List.map_cons, List.map_nil, List.cons_append, List.nil_append, List.reduceReplicate, Nat.reduceSub]
  walk_at "q"
  refine wp_eq (need_rule_ok h) ?_
  walk_at "q"
  refine wp_eq (need_members_ok hm.lo hm.hi) ?_
  walk_at "q"
  refine wp_eq (need_numbers_ok h0 h1 h2) ?_
  walk_at "q"
  refine z_for (e_rng ?_)
  have hm1 := hm.hi
  have hm0 := hm.lo
  walk_at "q"
  refine ⟨_, _, rfl, rfl, by omega, ?_⟩
  rw [range_L]
  refine (loop_filter (fun b => passR r m y n b) (fun o => [some (encR r), some (.int m), some (.int y), some (.int n), some (.ref st.length), o]) st (fun o k => rfl) (fun k hk acc hb => ?_) (by rw [rngL_len]; simp; exact Nat.lt_of_le_of_lt (m := 100) (by omega) (by decide))).mono ?_ fun _ _ z => z
  · have hcell : (st ++ [Cell.lst acc])[st.length]? = some (.lst acc) := by simp
    have hset : ∀ x : List MV, (st ++ [Cell.lst acc]).set st.length (.lst x) = st ++ [.lst x] := fun x => by simp
    unfold b1_blank_range
    walk_at "q"
    refine wp_eq (is_passed_ok h) ?_
    walk_at "q"
    · rename_i hp
      refine w_mth (w_var rfl ⟨lstOf_ref hcell, ?_⟩)
      walk_at "q"
      refine t_append hcell (by simp [noLst]) hb ?_
      walk_at "q"
      rw [hset, if_pos hp]
    · rename_i hp
      rw [if_neg (by rw [hp]; decide)]
  · rintro env s ⟨⟨o, rfl⟩, rfl⟩
    walk_at "q"
    refine wp_eq (ends_of_ok (ks := blankL r m y n) (by simp; rfl)) ?_
    exact Kpt.pure_end .refl (pure_below (endsM_pure _)) ⟨rfl, rfl⟩
theorem fewest_yes_ok (h : okR r) (hm : okM m) (h0 : 0 ≤ n) (h1 : 0 ≤ b) (h2 : n + b ≤ m) : call (lib X) (d + 5) 25 [encR r, .int m, .int n, .int b] st = .val (headM (yesL r m n b)) st := by
  refine Wp.eq (Wp_call (fd := f_fewest_yes) rfl rfl ?_)
  rw [allocs_idp (by simp [noLsts, noLst, pure_noLst (encR_pure r)])]
  simp only [f_fewest_yes, List.map_cons, List.map_nil, List.cons_append, List.nil_append, List.reduceReplicate, Nat.reduceSub]
  walk_at "q"
  refine wp_eq (need_rule_ok h) ?_
  walk_at "q"
  refine wp_eq (need_members_ok hm.lo hm.hi) ?_
  walk_at "q"
  refine wp_eq (need_numbers_ok h0 h1 h2) ?_
  walk_at "q"
  refine z_for (e_rng ?_)
  have hm1 := hm.hi
  have hm0 := hm.lo
  walk_at "q"
  refine ⟨_, _, rfl, rfl, by omega, ?_⟩
  rw [range_L]
  refine (loop_first (fun y => passR r m y n b) .int (fun o => [some (encR r), some (.int m), some (.int n), some (.int b), o]) st (fun o k => rfl) (fun k hk => ?_)).mono ?_ ?_
  · unfold b1_fewest_yes
    walk_at "q"
    refine wp_eq (is_passed_ok h) ?_
    walk_at "q"
    all_goals assumption
  · rintro env s ⟨⟨o, rfl⟩, rfl, he⟩
    walk_at "q"
    rw [gcv_non]
    exact Wp_val.mpr ⟨by unfold yesL; rw [he]; rfl, rfl⟩
  · rintro v s ⟨rfl, k, rr, he, rfl⟩
    rw [gcv_int]
    exact Wp_val.mpr ⟨by unfold yesL; rw [he]; rfl, rfl⟩
end
end QR

set_option Elab.async false
set_option linter.all false
set_option maxRecDepth 100000
set_option maxHeartbeats 4000000
/-! QPlain6: tools for the laws. -/
namespace QR
open PySem
local macro_rules | `(tactic| walk_at "q") => `(tactic| (repeat' (first
  | with_reducible refine z_cons ?_ | with_reducible refine z_asg ?_ | with_reducible refine z_ret ?_ | with_reducible refine z_iff ?_ | with_reducible refine z_nil ?_ | with_reducible refine z_exp ?_ | with_reducible refine z_set ?_ | with_reducible refine z_pass ?_
  | with_reducible refine w_cst ?_ | ((with_reducible apply w_var); rfl) | with_reducible refine w_bin ?_ | with_reducible refine w_cmp ?_ | with_reducible refine w_not ?_ | with_reducible refine w_and ?_ | with_reducible refine w_or ?_ | with_reducible refine w_chn ?_ | with_reducible refine w_ite ?_ | with_reducible refine w_neg ?_
  | with_reducible refine w_call ?_ | with_reducible refine w_blt ?_ | with_reducible refine w_tup ?_ | with_reducible refine w_lst ?_ | with_reducible refine w_sub ?_ | with_reducible refine w_sli ?_ | with_reducible refine w_nil ?_ | with_reducible refine w_cons ?_
  | with_reducible refine o_add ?_ | with_reducible refine o_sub ?_ | ((with_reducible apply o_mulR); decide) | ((with_reducible apply o_mulL); decide) | with_reducible refine o_mul ?_ ?_ | ((with_reducible apply o_fdiv); (first | decide | assumption | omega)) | ((with_reducible apply o_mod); (first | decide | assumption | omega))
  | with_reducible refine o_lt ?_ | with_reducible refine o_le ?_ | with_reducible refine o_gt ?_ | with_reducible refine o_ge ?_ | with_reducible refine o_isn ?_ | with_reducible refine o_is ?_ | with_reducible refine o_isb ?_ | with_reducible refine o_isnb ?_ | with_reducible refine o_eqI ?_ | with_reducible refine o_neI ?_ | with_reducible refine o_eqS ?_ | with_reducible refine o_neS ?_ | with_reducible refine o_eqB ?_ | with_reducible refine o_neB ?_
  | with_reducible refine b_int ?_ | with_reducible refine b_abs ?_ | with_reducible refine b_min ?_ | with_reducible refine b_max ?_ | with_reducible refine b_lenT ?_ | with_reducible refine b_lenL ?_ | with_reducible refine b_lenO ?_ | ((with_reducible apply b_lenR); assumption) | ((with_reducible apply b_isi); rfl)
  | ((with_reducible apply t_set); (first | assumption | exact List.getElem?_set_self (by assumption)); rfl; (first | rfl | assumption)) | ((with_reducible apply u_tup); rfl) | ((with_reducible apply u_ref); (first | assumption | exact List.getElem?_set_self (by assumption)); rfl) | ((with_reducible apply u_lst); rfl)
  | ((with_reducible apply h_int); (focus ((try simp only [List.set_cons_succ, List.set_cons_zero, asgs]); rfl))) | ((with_reducible apply h_bl); (focus ((try simp only [List.set_cons_succ, List.set_cons_zero, asgs]); rfl))) | ((with_reducible apply h_str); (focus ((try simp only [List.set_cons_succ, List.set_cons_zero, asgs]); rfl))) | ((with_reducible apply h_ref); (focus ((try simp only [List.set_cons_succ, List.set_cons_zero, asgs]); rfl))) | ((with_reducible apply h_non); (focus ((try simp only [List.set_cons_succ, List.set_cons_zero, asgs]); rfl))) | ((with_reducible apply h_tup); rfl; (first | (focus (simp [noLsts, noLst]; done)) | assumption); (focus ((try simp only [List.set_cons_succ, List.set_cons_zero, asgs]); rfl))) | ((with_reducible apply h_lst); (first | (focus (simp [noLsts, noLst]; done)) | assumption); (focus ((try simp only [List.set_cons_succ, List.set_cons_zero, asgs]); rfl))) | ((with_reducible apply h_pure); (first | (focus (simp [noLsts, noLst]; done)) | assumption); (focus ((try simp only [List.set_cons_succ, List.set_cons_zero, asgs]); rfl)))
  | with_reducible refine w_turn ?_
  | ((with_reducible refine ⟨_, rfl, (fun h => ?_), (fun h => ?_)⟩) <;> first | exact absurd h (by decide +kernel) | (exfalso; simp at h; done) | (exfalso; simp at h; omega) | skip)
  | with_reducible rfl
  | (with_reducible refine ⟨True.intro, ?_⟩)
  | (with_reducible refine ⟨rfl, ?_⟩)
  | (with_reducible refine ⟨_, rfl, ?_⟩)
  | fail)))
section
variable {Φ : Phi} {env env' : Env} {st st' : Store} {Q : MV → Store → Prop} {N : Env → Store → Prop} {R : MV → Store → Prop} {i j : Nat} {m x y : MV} {a b c : E} {es : Es} {k l : Int} {xs ys : List MV}
/-- a value that is equal to itself -/
def SelfEq (st : Store) (x : MV) : Prop := ∃ d, toD st 9 x = some d ∧ PyData.eqv d d = true
theorem o_neSame (h : SelfEq st x) (q : Q (.bl false) st) : Wp (cmpM .ne x x st) Q := by
  obtain ⟨d, h1, h2⟩ := h
  exact o_neD h1 h1 (by rw [h2]; exact q)
theorem o_eqSame (h : SelfEq st x) (q : Q (.bl true) st) : Wp (cmpM .eq x x st) Q := by
  obtain ⟨d, h1, h2⟩ := h
  exact o_eqD h1 h1 (by rw [h2]; exact q)
theorem ends_self {ks : List Int} : SelfEq st (endsM ks) := by
  cases ks with
  | nil => exact ⟨.none, rfl, by simp [PyData.eqv]⟩
  | cons k r => exact ⟨.tuple [.int k, .int ((k :: r).getLast (by simp))], by simp [endsM, toD], by simp [PyData.eqv, PyData.eqvAll]⟩
theorem head_self {ks : List Int} : SelfEq st (headM ks) := by
  cases ks with
  | nil => exact ⟨.none, rfl, by simp [PyData.eqv]⟩
  | cons k r => exact ⟨.int k, by simp [headM, toD], by simp [PyData.eqv]⟩
theorem headM_pure (ks : List Int) : pureM (headM ks) = true := by cases ks <;> simp [headM, pureM]
/-- [x for x in ints if p(x)] -/
theorem w_compF {v : Nat} {it : It} {c : E} {lk : Locks} (ks : List Int) (p : Int → Bool) (h : Wp (evi Φ it env st) fun q s => q = (lk, ks.map .int) ∧ s = st) (hb : ks.length ≤ big) (hl : held lk st = true) (hv : v < env.length)
    (hc : ∀ k ∈ ks, Wp (ev Φ c (env.set v (some (.int k))) st) fun t s => t = .bl (p k) ∧ s = st) (q : Q (.lst ((ks.filter p).map .int)) st) : Wp (ev Φ (.comp (.var v) (.nm v) it c) env st) Q := by
  refine w_compP (lk := lk) (items := ks.map .int) (fun x => match x with
    | .int k => if p k then some (.int k) else none
    | _ => none) h (by simpa using hb) hl (fun x hx => ?_) ?_
  · obtain ⟨k, hk, rfl⟩ := List.mem_map.mp hx
    refine w_turn (g_int ((hc k hk).mono ?_))
    rintro _ _ ⟨rfl, rfl⟩
    refine ⟨_, rfl, fun h => ?_, fun h => ?_⟩
    · refine w_var (List.getElem?_set_self hv) ⟨?_, rfl⟩
      show some (MV.int k) = if p k then some (MV.int k) else none
      rw [if_pos h]
    · refine ⟨?_, rfl⟩
      show none = if p k then some (MV.int k) else none
      rw [if_neg (by rw [h]; decide)]
  · have e : (ks.map MV.int).filterMap (fun x => match x with
      | .int k => if p k then some (.int k) else none
      | _ => none) = (ks.filter p).map MV.int := by
      clear h hb hl hc q
      induction ks with
      | nil => rfl
      | cons k ks ih =>
        rw [List.map_cons, List.filterMap_cons, ih, List.filter_cons]
        cases hp : p k <;> simp [hp]
    rw [e]
    exact q
theorem held_ref (h : st[j]? = some (.lst xs)) : held [(j, xs)] st = true := by
  simp [held, h, Cell.beq, MV.beqs_refl]
theorem e_exR {v : Nat} {ks : List Int} (hv : env[v]? = some (some (.ref j))) (hj : st[j]? = some (.lst (ks.map MV.int))) : Wp (evi Φ (.ex (.var v)) env st) fun q s => q = ([(j, ks.map MV.int)], ks.map MV.int) ∧ s = st := by
  refine e_ex (w_var hv ⟨ks.map MV.int, by simp [seqOf, hj], pures_noLst pures_int, ?_, rfl⟩)
  simp [lockOf, hj]
theorem h_val {v : MV} {N : Env → Store → Prop} (h1 : pureM v = true) (h : env.set i (some v) = env') (q : N env' st) : Wp (asgT (.nm i) v env st) N := h_pure (pure_noLst h1) h q
end
end QR

set_option Elab.async false
set_option linter.all false
set_option maxRecDepth 100000
set_option maxHeartbeats 4000000
/-! QLaw: votes, conditions and rules as linear inequalities. -/
namespace QR
open PySem
def cy (c : Cd) : Int := if c.kind = ("cast" : Str) then c.bottom - c.top else if c.kind = ("present" : Str) then c.bottom - c.top else c.bottom
def cn (c : Cd) : Int := if c.kind = ("cast" : Str) then -c.top else if c.kind = ("present" : Str) then -c.top else if c.kind = ("all" : Str) then 0 else c.bottom
def cb (c : Cd) : Int := if c.kind = ("cast" : Str) then 0 else if c.kind = ("present" : Str) then -c.top else if c.kind = ("all" : Str) then 0 else c.bottom
def cm (c : Cd) : Int := if c.kind = ("cast" : Str) then 0 else if c.kind = ("present" : Str) then 0 else -c.top
def lin (c : Cd) (m y n b : Int) : Int := y * cy c + n * cn c + b * cb c + m * cm c
def pos (c : Cd) (v : Int) : Bool := if c.more then decide (0 < v) else decide (0 ≤ v)
section
variable {c : Cd} {r : List Cd} {m y n b y' n' b' : Int}
theorem pos_mono {v w : Int} (h : v ≤ w) (hp : pos c v = true) : pos c w = true := by
  unfold pos at *
  cases hm : c.more <;> simp [hm] at hp ⊢ <;> omega
theorem coef (h : okC c) : 0 ≤ cy c ∧ 0 ≤ cy c - cn c ∧ 0 ≤ cy c - cb c ∧ 0 ≤ cb c - cn c := by
  obtain ⟨hk, h1, h2, h3, h4⟩ := h
  unfold cy cn cb
  rcases kinds_cases hk with e | e | e | e <;> rw [e]
  · simp only [if_true]
    omega
  · simp only [show ¬ (("present" : Str) = "cast") by decide +kernel, if_false, if_true]
    omega
  · simp only [show ¬ (("all" : Str) = "cast") by decide +kernel, show ¬ (("all" : Str) = "present") by decide +kernel, if_false, if_true]
    omega
  · simp only [show ¬ (("turnout" : Str) = "cast") by decide +kernel, show ¬ (("turnout" : Str) = "present") by decide +kernel, show ¬ (("turnout" : Str) = "all") by decide +kernel, if_false]
    omega
theorem cmpC_pos {p w v : Int} (h : p * c.bottom - w * c.top = v) : cmpC c p w = pos c v := by
  unfold cmpC pos
  cases c.more
  · simp only [Bool.false_eq_true, if_false]
    congr 1
    exact propext (by omega)
  · simp only [if_true]
    congr 1
    exact propext (by omega)
theorem hold_lin (h : okC c) : hold c m y n b = pos c (lin c m y n b) := by
  unfold hold
  refine cmpC_pos ?_
  obtain ⟨hk, h1, h2, h3, h4⟩ := h
  unfold pw lin cy cn cb cm
  rcases kinds_cases hk with e | e | e | e <;> rw [e]
  · simp only [if_true]
    simp only [Int.mul_sub, Int.add_mul, Int.mul_neg, Int.mul_zero]
    omega
  · rw [if_neg (by decide +kernel), if_pos rfl]
    simp only [show ¬ (("present" : Str) = "cast") by decide +kernel, if_false, if_true]
    simp only [Int.mul_sub, Int.add_mul, Int.mul_neg, Int.mul_zero]
    omega
  · rw [if_neg (by decide +kernel), if_neg (by decide +kernel), if_pos rfl]
    simp only [show ¬ (("all" : Str) = "cast") by decide +kernel, show ¬ (("all" : Str) = "present") by decide +kernel, if_false, if_true]
    simp only [Int.mul_sub, Int.add_mul, Int.mul_neg, Int.mul_zero]
    omega
  · rw [if_neg (by decide +kernel), if_neg (by decide +kernel), if_neg (by decide +kernel)]
    simp only [show ¬ (("turnout" : Str) = "cast") by decide +kernel, show ¬ (("turnout" : Str) = "present") by decide +kernel, show ¬ (("turnout" : Str) = "all") by decide +kernel, if_false, if_true]
    simp only [Int.mul_sub, Int.add_mul, Int.mul_neg, Int.mul_zero]
    omega
theorem pass_iff (h : okR r) : passR r m y n b = true ↔ ∀ c ∈ r, pos c (lin c m y n b) = true := by
  unfold passR
  rw [List.all_eq_true]
  exact forall_congr' fun c => forall_congr' fun hc => by rw [hold_lin (h.all c hc)]
/-- from one place to another with no less in any condition -/
theorem pass_mono (h : okR r) (hl : ∀ c ∈ r, okC c → lin c m y n b ≤ lin c m y' n' b') (hp : passR r m y n b = true) : passR r m y' n' b' = true :=
  (pass_iff h).mpr fun c hc => pos_mono (hl c hc (h.all c hc)) ((pass_iff h).mp hp c hc)
/-- between two places -/
theorem pass_btw {y2 n2 b2 : Int} (h : okR r) (hl : ∀ c ∈ r, okC c → lin c m y n b ≤ lin c m y' n' b' ∨ lin c m y2 n2 b2 ≤ lin c m y' n' b') (hp : passR r m y n b = true) (hp2 : passR r m y2 n2 b2 = true) : passR r m y' n' b' = true :=
  (pass_iff h).mpr fun c hc => by
    rcases hl c hc (h.all c hc) with z | z
    · exact pos_mono z ((pass_iff h).mp hp c hc)
    · exact pos_mono z ((pass_iff h).mp hp2 c hc)
theorem mulr {a b k : Int} (h : a ≤ b) (hk : 0 ≤ k) : a * k ≤ b * k := Int.mul_le_mul_of_nonneg_right h hk
theorem mulr' {a b k : Int} (h : a ≤ b) (hk : k ≤ 0) : b * k ≤ a * k := Int.mul_le_mul_of_nonpos_right h hk
theorem conv_n (h : okR r) {i j k : Int} (h1 : i ≤ j) (h2 : j ≤ k) (p1 : passR r m y i b = true) (p2 : passR r m y k b = true) : passR r m y j b = true :=
  pass_btw h (fun c _ _ => by
    unfold lin
    by_cases q : 0 ≤ cn c
    · left
      have := mulr h1 q
      omega
    · right
      have := mulr' h2 (show cn c ≤ 0 by omega)
      omega) p1 p2
theorem conv_b (h : okR r) {i j k : Int} (h1 : i ≤ j) (h2 : j ≤ k) (p1 : passR r m y n i = true) (p2 : passR r m y n k = true) : passR r m y n j = true :=
  pass_btw h (fun c _ _ => by
    unfold lin
    by_cases q : 0 ≤ cb c
    · left
      have := mulr h1 q
      omega
    · right
      have := mulr' h2 (show cb c ≤ 0 by omega)
      omega) p1 p2
theorem up_y (h : okR r) {i j : Int} (h1 : i ≤ j) (p1 : passR r m i n b = true) : passR r m j n b = true :=
  pass_mono h (fun c _ hc => by
    unfold lin
    have := mulr h1 (coef hc).1
    omega) p1
/-! ### ends of a filtered range -/
def insideB (ks : List Int) (k : Int) : Bool := match ks with
  | [] => false
  | a :: r => decide (a ≤ k) && decide (k ≤ (a :: r).getLast (by simp))
theorem last_max : ∀ {a : Int} {r : List Int}, (a :: r).Pairwise (· < ·) → ∀ k ∈ a :: r, k ≤ (a :: r).getLast (by simp)
  | a, [], _, k, hk => by
    simp only [List.mem_cons, List.not_mem_nil, or_false] at hk
    rw [hk]
    exact Int.le_refl _
  | a, x :: r, h, k, hk => by
    have h1 := List.pairwise_cons.mp h
    rcases List.mem_cons.mp hk with e | e
    · have := last_max h1.2 x List.mem_cons_self
      have := h1.1 x List.mem_cons_self
      rw [List.getLast_cons (by simp)]
      omega
    · rw [List.getLast_cons (by simp)]
      exact last_max h1.2 k e
theorem inside_ok {p : Int → Bool} {N k : Int} (hc : ∀ i j l, i ≤ j → j ≤ l → p i = true → p l = true → p j = true) (hk : 0 ≤ k) (hk2 : k < N) : insideB ((rngL 0 N).filter p) k = p k := by
  have hs : ((rngL 0 N).filter p).Pairwise (· < ·) := rngL_lt.filter _
  have hm : ∀ x, x ∈ (rngL 0 N).filter p ↔ (0 ≤ x ∧ x < N) ∧ p x = true := fun x => by rw [List.mem_filter, rngL_mem]
  generalize (rngL 0 N).filter p = ks at hs hm
  cases ks with
  | nil =>
    cases hp : p k with
    | false => rfl
    | true => exact absurd ((hm k).mpr ⟨⟨hk, hk2⟩, hp⟩) (by simp)
  | cons a r =>
    show (decide (a ≤ k) && decide (k ≤ (a :: r).getLast (by simp))) = p k
    have ha := (hm a).mp List.mem_cons_self
    have hl := (hm ((a :: r).getLast (by simp))).mp (List.getLast_mem _)
    cases hp : p k with
    | true =>
      have hk3 := (hm k).mpr ⟨⟨hk, hk2⟩, hp⟩
      have h1 : a ≤ k := by
        rcases List.mem_cons.mp hk3 with e | e
        · omega
        · have := (List.pairwise_cons.mp hs).1 k e
          omega
      have h2 := last_max hs k hk3
      simp [h1, h2]
    | false =>
      rw [Bool.and_eq_false_iff]
      by_cases h1 : a ≤ k
      · right
        rw [decide_eq_false_iff_not]
        intro h2
        rw [hc a k _ h1 h2 ha.2 hl.2] at hp
        cases hp
      · left
        simpa using h1
/-- the first of an upward set -/
def fromB (ks : List Int) (k : Int) : Bool := match ks with
  | [] => false
  | a :: _ => decide (a ≤ k)
theorem from_ok {p : Int → Bool} {N k : Int} (hc : ∀ i j, i ≤ j → p i = true → p j = true) (hk : 0 ≤ k) (hk2 : k < N) : fromB ((rngL 0 N).filter p) k = p k := by
  have hs : ((rngL 0 N).filter p).Pairwise (· < ·) := rngL_lt.filter _
  have hm : ∀ x, x ∈ (rngL 0 N).filter p ↔ (0 ≤ x ∧ x < N) ∧ p x = true := fun x => by rw [List.mem_filter, rngL_mem]
  generalize (rngL 0 N).filter p = ks at hs hm
  cases ks with
  | nil =>
    cases hp : p k with
    | false => rfl
    | true => exact absurd ((hm k).mpr ⟨⟨hk, hk2⟩, hp⟩) (by simp)
  | cons a r =>
    show decide (a ≤ k) = p k
    have ha := (hm a).mp List.mem_cons_self
    cases hp : p k with
    | true =>
      have hk3 := (hm k).mpr ⟨⟨hk, hk2⟩, hp⟩
      have h1 : a ≤ k := by
        rcases List.mem_cons.mp hk3 with e | e
        · omega
        · have := (List.pairwise_cons.mp hs).1 k e
          omega
      simp [h1]
    | false =>
      rw [decide_eq_false_iff_not]
      intro h1
      rw [hc a k h1 ha.2] at hp
      cases hp
end
end QR

set_option Elab.async false
set_option linter.all false
set_option maxRecDepth 100000
set_option maxHeartbeats 4000000
/-! QPlain7: sure results. -/
namespace QR
open PySem
local macro_rules | `(tactic| walk_at "q") => `(tactic| (repeat' (first
  | with_reducible refine z_cons ?_ | with_reducible refine z_asg ?_ | with_reducible refine z_ret ?_ | with_reducible refine z_iff ?_ | with_reducible refine z_nil ?_ | with_reducible refine z_exp ?_ | with_reducible refine z_set ?_ | with_reducible refine z_pass ?_
  | with_reducible refine w_cst ?_ | ((with_reducible apply w_var); rfl) | with_reducible refine w_bin ?_ | with_reducible refine w_cmp ?_ | with_reducible refine w_not ?_ | with_reducible refine w_and ?_ | with_reducible refine w_or ?_ | with_reducible refine w_chn ?_ | with_reducible refine w_ite ?_ | with_reducible refine w_neg ?_
  | with_reducible refine w_call ?_ | with_reducible refine w_blt ?_ | with_reducible refine w_tup ?_ | with_reducible refine w_lst ?_ | with_reducible refine w_sub ?_ | with_reducible refine w_sli ?_ | with_reducible refine w_nil ?_ | with_reducible refine w_cons ?_
  | with_reducible refine o_add ?_ | with_reducible refine o_sub ?_ | ((with_reducible apply o_mulR); decide) | ((with_reducible apply o_mulL); decide) | with_reducible refine o_mul ?_ ?_ | ((with_reducible apply o_fdiv); (first | decide | assumption | omega)) | ((with_reducible apply o_mod); (first | decide | assumption | omega))
  | with_reducible refine o_lt ?_ | with_reducible refine o_le ?_ | with_reducible refine o_gt ?_ | with_reducible refine o_ge ?_ | with_reducible refine o_isn ?_ | with_reducible refine o_is ?_ | with_reducible refine o_isb ?_ | with_reducible refine o_isnb ?_ | with_reducible refine o_eqI ?_ | with_reducible refine o_neI ?_ | with_reducible refine o_eqS ?_ | with_reducible refine o_neS ?_ | with_reducible refine o_eqB ?_ | with_reducible refine o_neB ?_
  | with_reducible refine b_int ?_ | with_reducible refine b_abs ?_ | with_reducible refine b_min ?_ | with_reducible refine b_max ?_ | with_reducible refine b_lenT ?_ | with_reducible refine b_lenL ?_ | with_reducible refine b_lenO ?_ | ((with_reducible apply b_lenR); assumption) | ((with_reducible apply b_isi); rfl)
  | ((with_reducible apply t_set); (first | assumption | exact List.getElem?_set_self (by assumption)); rfl; (first | rfl | assumption)) | ((with_reducible apply u_tup); rfl) | ((with_reducible apply u_ref); (first | assumption | exact List.getElem?_set_self (by assumption)); rfl) | ((with_reducible apply u_lst); rfl)
  | ((with_reducible apply h_int); (focus ((try simp only [List.set_cons_succ, List.set_cons_zero, asgs]); rfl))) | ((with_reducible apply h_bl); (focus ((try simp only [List.set_cons_succ, List.set_cons_zero, asgs]); rfl))) | ((with_reducible apply h_str); (focus ((try simp only [List.set_cons_succ, List.set_cons_zero, asgs]); rfl))) | ((with_reducible apply h_ref); (focus ((try simp only [List.set_cons_succ, List.set_cons_zero, asgs]); rfl))) | ((with_reducible apply h_non); (focus ((try simp only [List.set_cons_succ, List.set_cons_zero, asgs]); rfl))) | ((with_reducible apply h_tup); rfl; (first | (focus (simp [noLsts, noLst]; done)) | assumption); (focus ((try simp only [List.set_cons_succ, List.set_cons_zero, asgs]); rfl))) | ((with_reducible apply h_lst); (first | (focus (simp [noLsts, noLst]; done)) | assumption); (focus ((try simp only [List.set_cons_succ, List.set_cons_zero, asgs]); rfl))) | ((with_reducible apply h_pure); (first | (focus (simp [noLsts, noLst]; done)) | assumption); (focus ((try simp only [List.set_cons_succ, List.set_cons_zero, asgs]); rfl)))
  | with_reducible refine w_turn ?_
  | ((with_reducible refine ⟨_, rfl, (fun h => ?_), (fun h => ?_)⟩) <;> first | exact absurd h (by decide +kernel) | (exfalso; simp at h; done) | (exfalso; simp at h; omega) | skip)
  | with_reducible rfl
  | (with_reducible refine ⟨True.intro, ?_⟩)
  | (with_reducible refine ⟨rfl, ?_⟩)
  | (with_reducible refine ⟨_, rfl, ?_⟩)
  | fail)))
section
variable {X : Nat → Option FDef} {d i j : Nat} {st : Store} {c : Cd} {r : List Cd} {m y n b f : Int}
def defM (r : List Cd) (m y f : Int) : MV := if passR r m y f 0 then (if passR r m y 0 0 then .non else .tup [.int 0, .int 0]) else .tup [.int f, .int 0]
def sure (r : List Cd) (m y f : Int) : Bool := passR r m y f 0 && passR r m y 0 0
theorem defM_pure : pureM (defM r m y f) = true := by
  unfold defM
  split
  · split <;> simp [pureM, pureMs]
  · simp [pureM, pureMs]
theorem defM_non : isNon (defM r m y f) = sure r m y f := by
  unfold defM sure
  cases passR r m y f 0 <;> cases passR r m y 0 0 <;> rfl
theorem defeat_of_ok (h : okR r) : call (lib X) (d + 4) 27 [encR r, .int m, .int y, .int f] st = .val (defM r m y f) st := by
  refine call_same (fd := f_defeat_of) rfl rfl (by simp [noLsts, noLst, pure_noLst (encR_pure r)]) (pure_below defM_pure) ?_
  simp only [f_defeat_of, List.map_cons, List.map_nil, List.cons_append, List.nil_append, List.reduceReplicate, Nat.reduceSub]
  walk_at "q"
  refine z_for (e_ex ?_)
  walk_at "q"
  refine fl_cons ?_
  unfold b1_defeat_of
  walk_at "q"
  refine wp_eq (is_passed_ok (y := y) (n := f) (b := 0) h) ?_
  walk_at "q"
  · rename_i h0
    simp only [Bool.not_eq_true'] at h0
    exact ⟨by simp [defM, h0], rfl⟩
  · rename_i h0
    simp only [Bool.not_eq_false'] at h0
    refine fl_cons ?_
    walk_at "q"
    refine wp_eq (is_passed_ok (y := y) (n := 0) (b := 0) h) ?_
    walk_at "q"
    · rename_i h1
      simp only [Bool.not_eq_true'] at h1
      exact ⟨by simp [defM, h0, h1], rfl⟩
    · rename_i h1
      simp only [Bool.not_eq_false'] at h1
      refine fl_nil ?_
      walk_at "q"
      exact ⟨by simp [defM, h0, h1], rfl⟩
theorem passes_surely_ok (h : okR r) (hm : okM m) (h0 : 0 ≤ y) (h1 : 0 ≤ f) (h2 : y + f ≤ m) : call (lib X) (d + 5) 28 [encR r, .int m, .int y, .int f] st = .val (.bl (sure r m y f)) st := by
  refine call_same (fd := f_passes_surely) rfl rfl (by simp [noLsts, noLst, pure_noLst (encR_pure r)]) (by simp [below]) ?_
  simp only [f_passes_surely, List.map_cons, List.map_nil, List.cons_append, List.nil_append, List.reduceReplicate, Nat.reduceSub]
  walk_at "q"
  refine wp_eq (need_rule_ok h) ?_
  walk_at "q"
  refine wp_eq (need_members_ok hm.lo hm.hi) ?_
  walk_at "q"
  refine wp_eq (need_numbers_ok h0 h1 h2) ?_
  walk_at "q"
  refine wp_eq (defeat_of_ok h) ?_
  walk_at "q"
  exact ⟨by rw [defM_non], rfl⟩
theorem defeat_ok (h : okR r) (hm : okM m) (h0 : 0 ≤ y) (h1 : 0 ≤ f) (h2 : y + f ≤ m) : call (lib X) (d + 5) 30 [encR r, .int m, .int y, .int f] st = .val (defM r m y f) st := by
  refine call_same (fd := f_defeat) rfl rfl (by simp [noLsts, noLst, pure_noLst (encR_pure r)]) (pure_below defM_pure) ?_
  simp only [f_defeat, List.map_cons, List.map_nil, List.cons_append, List.nil_append, List.reduceReplicate, Nat.reduceSub]
  walk_at "q"
  refine wp_eq (need_rule_ok h) ?_
  walk_at "q"
  refine wp_eq (need_members_ok hm.lo hm.hi) ?_
  walk_at "q"
  refine wp_eq (need_numbers_ok h0 h1 h2) ?_
  walk_at "q"
  exact wp_eq (defeat_of_ok h) ⟨rfl, rfl⟩
def canP (r : List Cd) (m y f : Int) : Bool := (rngL 0 (f + 1)).any fun b => passR r m y 0 b
theorem any_filter {p : Int → Bool} {ks : List Int} : ks.any p = !(ks.filter p).isEmpty := by
  induction ks with
  | nil => rfl
  | cons k ks ih => cases hp : p k <;> simp [hp, ih]
theorem can_pass_ok (h : okR r) (hm : okM m) (h0 : 0 ≤ y) (h1 : 0 ≤ f) (h2 : y + f ≤ m) : call (lib X) (d + 5) 29 [encR r, .int m, .int y, .int f] st = .val (.bl (canP r m y f)) st := by
  refine call_same (fd := f_can_pass) rfl rfl (by simp [noLsts, noLst, pure_noLst (encR_pure r)]) (by simp [below]) ?_
  simp only [f_can_pass, List.map_cons, List.map_nil, List.cons_append, List.nil_append, List.reduceReplicate, Nat.reduceSub]
  have hm0 := hm.lo
  have hm1 := hm.hi
  walk_at "q"
  refine wp_eq (need_rule_ok h) ?_
  walk_at "q"
  refine wp_eq (need_members_ok hm.lo hm.hi) ?_
  walk_at "q"
  refine wp_eq (need_numbers_ok h0 h1 h2) ?_
  walk_at "q"
  refine z_for (e_rng ?_)
  walk_at "q"
  refine ⟨_, _, rfl, rfl, by omega, ?_⟩
  rw [range_L]
  refine (loop_first (fun b => passR r m y 0 b) (fun _ => .bl true) (fun o => [some (encR r), some (.int m), some (.int y), some (.int f), o]) st (fun o k => rfl) (fun k hk => ?_)).mono ?_ ?_
  · unfold b1_can_pass
    walk_at "q"
    refine wp_eq (is_passed_ok h) ?_
    walk_at "q"
    all_goals assumption
  · rintro env s ⟨⟨o, rfl⟩, rfl, he⟩
    walk_at "q"
    exact ⟨by unfold canP; rw [any_filter, he]; rfl, rfl⟩
  · rintro v s ⟨rfl, k, rr, he, rfl⟩
    exact ⟨by unfold canP; rw [any_filter, he]; rfl, rfl⟩
def sureL (r : List Cd) (m : Int) : List Int := (rngL 0 (m + 1)).filter fun y => sure r m y (m - y)
theorem fewest_sure_ok (h : okR r) (hm : okM m) : call (lib X) (d + 5) 31 [encR r, .int m] st = .val (headM (sureL r m)) st := by
  refine call_same (fd := f_fewest_sure) rfl rfl (by simp [noLsts, noLst, pure_noLst (encR_pure r)]) (pure_below (headM_pure _)) ?_
  simp only [f_fewest_sure, List.map_cons, List.map_nil, List.cons_append, List.nil_append, List.reduceReplicate, Nat.reduceSub]
  have hm0 := hm.lo
  have hm1 := hm.hi
  walk_at "q"
  refine wp_eq (need_rule_ok h) ?_
  walk_at "q"
  refine wp_eq (need_members_ok hm.lo hm.hi) ?_
  walk_at "q"
  refine z_for (e_rng ?_)
  walk_at "q"
  refine ⟨_, _, rfl, rfl, by omega, ?_⟩
  rw [range_L]
  refine (loop_first (fun y => sure r m y (m - y)) .int (fun o => [some (encR r), some (.int m), o]) st (fun o k => rfl) (fun k hk => ?_)).mono ?_ ?_
  · unfold b1_fewest_sure
    walk_at "q"
    refine wp_eq (defeat_of_ok h) ?_
    walk_at "q"
    all_goals (rename_i h3; rw [defM_non] at h3; exact h3)
  · rintro env s ⟨⟨o, rfl⟩, rfl, he⟩
    walk_at "q"
    exact ⟨by unfold sureL; rw [he]; rfl, rfl⟩
  · rintro v s ⟨rfl, k, rr, he, rfl⟩
    exact ⟨by unfold sureL; rw [he]; rfl, rfl⟩
end
/-! pairs of ints in lists -/
section
variable {Q : MV → Store → Prop} {st : Store} {j : Nat} {x : MV}
def encP (p : Int × Int) : MV := .tup [.int p.1, .int p.2]
def dP (p : Int × Int) : PyData := .tuple [.int p.1, .int p.2]
theorem encPs_pure (ps : List (Int × Int)) : pureMs (ps.map encP) = true := pures_of fun m hm => by
  obtain ⟨c, _, rfl⟩ := List.mem_map.mp hm
  simp [encP, pureM, pureMs]
theorem toD_P {k : Nat} {p : Int × Int} : toD st (k + 2) (encP p) = some (dP p) := by simp [encP, toD, dP]
theorem toDP_ref {ps : List (Int × Int)} (h : st[j]? = some (.lst (ps.map encP))) : toD st 9 (.ref j) = some (.list (ps.map dP)) := by
  rw [toD_ref (g := fun x => match x with
    | .tup [.int a, .int b] => dP (a, b)
    | _ => .none) h (by
      intro x hx
      obtain ⟨k, _, rfl⟩ := List.mem_map.mp hx
      exact toD_P (k := 6)), List.map_map]
  rfl
theorem o_eqNil {ds : List PyData} (h : toD st 9 x = some (.list ds)) (q : Q (.bl ds.isEmpty) st) : Wp (cmpM .eq x (.lst []) st) Q :=
  o_eqD (e := .list []) h (by simp [toD]) (by rw [show PyData.eqv (.list ds) (.list []) = PyData.eqvAll ds [] by simp [PyData.eqv], eqvAll_nil]; exact q)
theorem o_neNil {ds : List PyData} (h : toD st 9 x = some (.list ds)) (q : Q (.bl (!ds.isEmpty)) st) : Wp (cmpM .ne x (.lst []) st) Q :=
  o_neD (e := .list []) h (by simp [toD]) (by rw [show PyData.eqv (.list ds) (.list []) = PyData.eqvAll ds [] by simp [PyData.eqv], eqvAll_nil]; exact q)
theorem eqv_P {p q : Int × Int} : PyData.eqv (dP p) (dP q) = decide (p = q) := by
  simp only [dP, PyData.eqv, PyData.eqvAll, beqd, Bool.and_true, ← Bool.decide_and]
  congr 1
  exact propext ⟨fun ⟨h1, h2⟩ => Prod.ext h1 h2, fun h => by rw [h]; exact ⟨rfl, rfl⟩⟩
theorem o_nmemP {ps : List (Int × Int)} {p : Int × Int} (h : st[j]? = some (.lst (ps.map encP))) (q : Q (.bl (!decide (p ∈ ps))) st) : Wp (cmpM .nmem (encP p) (.ref j) st) Q := by
  refine ⟨_, st, ?_, q⟩
  have e1 : seqOf st (.ref j) = some (ps.map encP) := by simp [seqOf, h]
  have e2 : (ps.map encP).mapM (toD st 9) = some ((ps.map encP).map fun x => match x with
    | .tup [.int a, .int b] => dP (a, b)
    | _ => .none) := mapM_of (by
      intro x hx
      obtain ⟨k, _, rfl⟩ := List.mem_map.mp hx
      exact toD_P (k := 7))
  simp only [cmpM, memM, e1, e2, toD_P (k := 7), isTup, Bool.not_false, Bool.true_or, chk_true]
  congr 3
  rw [List.map_map, List.any_map, Bool.eq_iff_iff, List.any_eq_true]
  simp only [decide_eq_true_eq]
  constructor
  · rintro ⟨z, hz, e⟩
    have e : PyData.eqv (dP z) (dP p) = true := e
    rw [eqv_P, decide_eq_true_eq] at e
    rw [← e]
    exact hz
  · intro hz
    refine ⟨p, hz, ?_⟩
    show PyData.eqv (dP p) (dP p) = true
    rw [eqv_P]
    simp
end
end QR

set_option Elab.async false
set_option linter.all false
set_option maxRecDepth 100000
set_option maxHeartbeats 4000000
/-! QPlain8: all votes of so many members. -/
namespace QR
open PySem
/-- within a triangle: sure by its two corners -/
theorem sure_all {r : List Cd} {m y f n b : Int} (hr : okR r) (h1 : 0 ≤ n) (h2 : 0 ≤ b) (h3 : n + b ≤ f) (hs : sure r m y f = true) : passR r m y n b = true := by
  unfold sure at hs
  simp only [Bool.and_eq_true] at hs
  refine pass_btw hr (fun c _ hc => ?_) hs.1 hs.2
  have hco := coef hc
  have e1 : (n + b) * cn c = n * cn c + b * cn c := Int.add_mul _ _ _
  have e2 := Int.mul_le_mul_of_nonneg_left (show cn c ≤ cb c by omega) h2
  unfold lin
  by_cases q : 0 ≤ cn c
  · right
    have := mulr (show 0 ≤ n + b by omega) q
    simp only [Int.zero_mul] at *
    omega
  · left
    have := mulr' h3 (show cn c ≤ 0 by omega)
    simp only [Int.zero_mul] at *
    omega
theorem sure_up {r : List Cd} {m i j : Int} (hr : okR r) (h : i ≤ j) (hs : sure r m i (m - i) = true) : sure r m j (m - j) = true := by
  unfold sure at *
  simp only [Bool.and_eq_true] at *
  refine ⟨pass_mono hr (fun c _ hc => ?_) hs.1, up_y hr h hs.2⟩
  have hco := coef hc
  have e1 := mulr h (show 0 ≤ cy c - cn c by omega)
  simp only [lin, Int.sub_mul, Int.mul_sub] at *
  omega
end QR

set_option Elab.async false
set_option linter.all false
set_option maxRecDepth 100000
set_option maxHeartbeats 4000000
/-! QPlain9: all votes, rules compared. -/
namespace QR
open PySem
local macro_rules | `(tactic| walk_at "q") => `(tactic| (repeat' (first
  | with_reducible refine z_cons ?_ | with_reducible refine z_asg ?_ | with_reducible refine z_ret ?_ | with_reducible refine z_iff ?_ | with_reducible refine z_nil ?_ | with_reducible refine z_exp ?_ | with_reducible refine z_set ?_ | with_reducible refine z_pass ?_
  | with_reducible refine w_cst ?_ | ((with_reducible apply w_var); rfl) | with_reducible refine w_bin ?_ | with_reducible refine w_cmp ?_ | with_reducible refine w_not ?_ | with_reducible refine w_and ?_ | with_reducible refine w_or ?_ | with_reducible refine w_chn ?_ | with_reducible refine w_ite ?_ | with_reducible refine w_neg ?_
  | with_reducible refine w_call ?_ | with_reducible refine w_blt ?_ | with_reducible refine w_tup ?_ | with_reducible refine w_lst ?_ | with_reducible refine w_sub ?_ | with_reducible refine w_sli ?_ | with_reducible refine w_nil ?_ | with_reducible refine w_cons ?_
  | with_reducible refine o_add ?_ | with_reducible refine o_sub ?_ | ((with_reducible apply o_mulR); decide) | ((with_reducible apply o_mulL); decide) | with_reducible refine o_mul ?_ ?_ | ((with_reducible apply o_fdiv); (first | decide | assumption | omega)) | ((with_reducible apply o_mod); (first | decide | assumption | omega))
  | with_reducible refine o_lt ?_ | with_reducible refine o_le ?_ | with_reducible refine o_gt ?_ | with_reducible refine o_ge ?_ | with_reducible refine o_isn ?_ | with_reducible refine o_is ?_ | with_reducible refine o_isb ?_ | with_reducible refine o_isnb ?_ | with_reducible refine o_eqI ?_ | with_reducible refine o_neI ?_ | with_reducible refine o_eqS ?_ | with_reducible refine o_neS ?_ | with_reducible refine o_eqB ?_ | with_reducible refine o_neB ?_
  | with_reducible refine b_int ?_ | with_reducible refine b_abs ?_ | with_reducible refine b_min ?_ | with_reducible refine b_max ?_ | with_reducible refine b_lenT ?_ | with_reducible refine b_lenL ?_ | with_reducible refine b_lenO ?_ | ((with_reducible apply b_lenR); assumption) | ((with_reducible apply b_isi); rfl)
  | ((with_reducible apply t_set); (first | assumption | exact List.getElem?_set_self (by assumption)); rfl; (first | rfl | assumption)) | ((with_reducible apply u_tup); rfl) | ((with_reducible apply u_ref); (first | assumption | exact List.getElem?_set_self (by assumption)); rfl) | ((with_reducible apply u_lst); rfl)
  | ((with_reducible apply h_int); (focus ((try simp only [List.set_cons_succ, List.set_cons_zero, asgs]); rfl))) | ((with_reducible apply h_bl); (focus ((try simp only [List.set_cons_succ, List.set_cons_zero, asgs]); rfl))) | ((with_reducible apply h_str); (focus ((try simp only [List.set_cons_succ, List.set_cons_zero, asgs]); rfl))) | ((with_reducible apply h_ref); (focus ((try simp only [List.set_cons_succ, List.set_cons_zero, asgs]); rfl))) | ((with_reducible apply h_non); (focus ((try simp only [List.set_cons_succ, List.set_cons_zero, asgs]); rfl))) | ((with_reducible apply h_tup); rfl; (first | (focus (simp [noLsts, noLst]; done)) | assumption); (focus ((try simp only [List.set_cons_succ, List.set_cons_zero, asgs]); rfl))) | ((with_reducible apply h_lst); (first | (focus (simp [noLsts, noLst]; done)) | assumption); (focus ((try simp only [List.set_cons_succ, List.set_cons_zero, asgs]); rfl))) | ((with_reducible apply h_pure); (first | (focus (simp [noLsts, noLst]; done)) | assumption); (focus ((try simp only [List.set_cons_succ, List.set_cons_zero, asgs]); rfl)))
  | with_reducible refine w_turn ?_
  | ((with_reducible refine ⟨_, rfl, (fun h => ?_), (fun h => ?_)⟩) <;> first | exact absurd h (by decide +kernel) | (exfalso; simp at h; done) | (exfalso; simp at h; omega) | skip)
  | with_reducible rfl
  | (with_reducible refine ⟨True.intro, ?_⟩)
  | (with_reducible refine ⟨rfl, ?_⟩)
  | (with_reducible refine ⟨_, rfl, ?_⟩)
  | fail)))
abbrev T3 := Int × Int × Int
def encT (t : T3) : MV := encV t.1 t.2.1 t.2.2
def trip (m : Int) : List T3 := (rngL 0 (m + 1)).flatMap fun y => (rngL 0 (m - y + 1)).flatMap fun n => (rngL 0 (m - y - n + 1)).map fun b => (y, n, b)
theorem trip_mem {m y n b : Int} : (y, n, b) ∈ trip m ↔ okV m y n b := by
  unfold trip
  simp only [List.mem_flatMap, List.mem_map, rngL_mem, Prod.mk.injEq]
  constructor
  · rintro ⟨y', h1, n', h2, b', h3, rfl, rfl, rfl⟩
    exact ⟨by omega, by omega, by omega, by omega⟩
  · rintro ⟨h1, h2, h3, h4⟩
    exact ⟨y, by omega, n, by omega, b, by omega, rfl, rfl, rfl⟩
theorem encTs_pure (ps : List T3) : pureMs (ps.map encT) = true := pures_of fun m hm => by
  obtain ⟨c, _, rfl⟩ := List.mem_map.mp hm
  exact encV_pure _ _ _
theorem map_nil_of {α β : Type} {f : α → β} {rem : List α} (h : [] = rem.map f) : rem = [] := by
  cases rem with
  | nil => rfl
  | cons _ _ => cases h
section
variable {L : Nat → Option FDef} {X : Nat → Option FDef} {d i j id : Nat} {st : Store} {c : Cd} {r o : List Cd} {m y n b f : Int}
theorem all_votes_gen (hL : L id = some f_all_votes) (h0 : 0 ≤ m) (h1 : m ≤ 40) : call L (d + 1) id [.int m] st = .val (.lst ((trip m).map encT)) st := by
  refine Wp.eq (Wp_call hL rfl ?_)
  rw [allocs_idp (by simp [noLsts, noLst])]
  simp only [f_all_votes, List.map_cons, List.map_nil, List.cons_append, List.nil_append, List.reduceReplicate, Nat.reduceSub]
  walk_at "q"
  refine z_for (e_rng ?_)
  walk_at "q"
  refine ⟨_, _, rfl, rfl, by omega, ?_⟩
  refine (floop_ok (P := fun rem env s => (∃ o2 o3 o4, env = [some (.int m), some (.ref st.length), o2, o3, o4]) ∧ ∃ (done : List T3) (rem' : List Int), rem = rem'.map MV.int ∧ (∀ z ∈ rem', 0 ≤ z ∧ z ≤ m) ∧ done ++ (rem'.flatMap fun y => (rngL 0 (m - y + 1)).flatMap fun n => (rngL 0 (m - y - n + 1)).map fun b => (y, n, b)) = trip m ∧ done.length + 1681 * rem'.length ≤ 68921 ∧ s = st ++ [.lst (done.map encT)])
    (fun x rem env s hP => ⟨rfl, ?_⟩) (fun _ _ _ => rfl) ⟨⟨_, _, _, rfl⟩, [], rngL 0 (m + 1), range_L, fun z hz => by have := rngL_mem.mp hz; omega, rfl, by rw [rngL_len]; simp; omega, rfl⟩).mono ?_ fun _ _ z => z
  · obtain ⟨⟨o2, o3, o4, rfl⟩, done, rem', e1', hrem, e2', e3', rfl⟩ := hP
    cases rem' with
    | nil => cases e1'
    | cons y rem' =>
    obtain ⟨rfl, rfl⟩ := List.cons.inj e1'
    obtain ⟨hy0, hy1⟩ := hrem y List.mem_cons_self
    refine h_int (by simp only [List.set_cons_succ, List.set_cons_zero]; rfl) ?_
    unfold b3_all_votes
    walk_at "q"
    refine z_for (e_rng ?_)
    walk_at "q"
    refine ⟨_, _, rfl, rfl, by omega, ?_⟩
    generalize hrest : (rem'.flatMap fun y => (rngL 0 (m - y + 1)).flatMap fun n => (rngL 0 (m - y - n + 1)).map fun b => (y, n, b)) = rest
    have e2a : done ++ (((rngL 0 (m - y + 1)).flatMap fun n => (rngL 0 (m - y - n + 1)).map fun b => (y, n, b)) ++ rest) = trip m := by rw [← e2', ← hrest]; rfl
    refine (floop_ok (P := fun rem env s => (∃ o3 o4, env = [some (.int m), some (.ref st.length), some (.int y), o3, o4]) ∧ ∃ (done : List T3) (rem2 : List Int), rem = rem2.map MV.int ∧ (∀ z ∈ rem2, 0 ≤ z ∧ y + z ≤ m) ∧ done ++ ((rem2.flatMap fun n => (rngL 0 (m - y - n + 1)).map fun b => (y, n, b)) ++ rest) = trip m ∧ done.length + 41 * rem2.length + 1681 * rem'.length ≤ 68921 ∧ s = st ++ [.lst (done.map encT)])
      (fun x rem env s hP => ⟨rfl, ?_⟩) (fun _ _ _ => rfl) ⟨⟨_, _, rfl⟩, done, rngL 0 (m - y + 1), range_L, fun z hz => by have := rngL_mem.mp hz; omega, e2a, by rw [rngL_len]; simp at e3'; omega, rfl⟩).mono ?_ fun _ _ z => z
    · obtain ⟨⟨o3, o4, rfl⟩, done, rem2, e1', hrem2, e2', e3', rfl⟩ := hP
      cases rem2 with
      | nil => cases e1'
      | cons n rem2 =>
      obtain ⟨rfl, rfl⟩ := List.cons.inj e1'
      obtain ⟨hn0, hn1⟩ := hrem2 n List.mem_cons_self
      refine h_int (by simp only [List.set_cons_succ, List.set_cons_zero]; rfl) ?_
      unfold b2_all_votes
      walk_at "q"
      refine z_for (e_rng ?_)
      walk_at "q"
      refine ⟨_, _, rfl, rfl, by omega, ?_⟩
      generalize hrest2 : (rem2.flatMap fun n => (rngL 0 (m - y - n + 1)).map fun b => (y, n, b)) ++ rest = rest2
      have e2b : done ++ (((rngL 0 (m - y - n + 1)).map fun b => (y, n, b)) ++ rest2) = trip m := by rw [← e2', ← hrest2]; simp
      refine (floop_ok (P := fun rem env s => (∃ o4, env = [some (.int m), some (.ref st.length), some (.int y), some (.int n), o4]) ∧ ∃ (done : List T3) (rem3 : List Int), rem = rem3.map MV.int ∧ done ++ ((rem3.map fun b => (y, n, b)) ++ rest2) = trip m ∧ done.length + rem3.length + 41 * rem2.length + 1681 * rem'.length ≤ 68921 ∧ s = st ++ [.lst (done.map encT)])
        (fun x rem env s hP => ⟨rfl, ?_⟩) (fun _ _ _ => rfl) ⟨⟨_, rfl⟩, done, rngL 0 (m - y - n + 1), range_L, e2b, by rw [rngL_len]; simp at e3'; omega, rfl⟩).mono ?_ fun _ _ z => z
      · obtain ⟨⟨o4, rfl⟩, done, rem3, e1', e2', e3', rfl⟩ := hP
        cases rem3 with
        | nil => cases e1'
        | cons b rem3 =>
        obtain ⟨rfl, rfl⟩ := List.cons.inj e1'
        refine h_int (by simp only [List.set_cons_succ, List.set_cons_zero]; rfl) ?_
        unfold b1_all_votes
        have hcell : (st ++ [Cell.lst (done.map encT)])[st.length]? = some (.lst (done.map encT)) := by simp
        refine z_cons (z_exp (w_mth (w_var rfl ⟨lstOf_ref hcell, ?_⟩)))
        walk_at "q"
        refine t_append hcell (by simp [noLst, noLsts]) ?_ ?_
        · rw [List.length_map]
          exact Nat.lt_of_le_of_lt (m := 68921) (by simp at e3'; omega) (by decide)
        · refine z_nil ⟨⟨_, rfl⟩, done ++ [(y, n, b)], rem3, rfl, by rw [← e2']; simp, by simp at e3' ⊢; omega, ?_⟩
          simp [encT, encV]
      · rintro env s ⟨⟨o4, rfl⟩, done, rem3, e1', e2', e3', rfl⟩
        have := map_nil_of e1'
        subst this
        refine z_nil ⟨⟨_, _, rfl⟩, done, rem2, rfl, fun w hw => hrem2 w (List.mem_cons_of_mem _ hw), by rw [← e2', ← hrest2]; simp, by simpa using e3', rfl⟩
    · rintro env s ⟨⟨o3, o4, rfl⟩, done, rem2, e1', _, e2', e3', rfl⟩
      have := map_nil_of e1'
      subst this
      refine z_nil ⟨⟨_, _, _, rfl⟩, done, rem', rfl, fun w hw => hrem w (List.mem_cons_of_mem _ hw), by rw [← e2', ← hrest]; simp, by simpa using e3', rfl⟩
  · rintro env s ⟨⟨o2, o3, o4, rfl⟩, done, rem', e1', _, e2', _, rfl⟩
    have := map_nil_of e1'
    subst this
    have hd : done = trip m := by simpa using e2'
    subst hd
    walk_at "q"
    rw [gcv_new (xs := (trip m).map encT) .refl (Nat.le_refl _) (by simp) (pures_belows (encTs_pure _))]
    exact Wp_val.mpr ⟨rfl, rfl⟩
theorem all_votes_ok (h0 : 0 ≤ m) (h1 : m ≤ 40) : call (lib X) (d + 1) 32 [.int m] st = .val (.lst ((trip m).map encT)) st := all_votes_gen rfl h0 h1
theorem law_all_ok (h0 : 0 ≤ m) (h1 : m ≤ 40) : call (lib X) (d + 1) 37 [.int m] st = .val (.lst ((trip m).map encT)) st := all_votes_gen rfl h0 h1
/-- loops over data of one kind -/
theorem loop_firstG {α : Type} {body : Env → Store → SOut} {v : Nat} {R : MV → Store → Prop} (enc : α → MV) (he : ∀ a, noLst (enc a) = true) (p : α → Bool) (f : α → MV) (E : Option MV → Env) (st0 : Store) (hs : ∀ o a, (E o).set v (some (enc a)) = E (some (enc a))) : ∀ {all : List α} {o : Option MV},
    (∀ k ∈ all, Ws (body (E (some (enc k))) st0) (fun env st => env = E (some (enc k)) ∧ st = st0 ∧ p k = false) (fun m st => m = f k ∧ st = st0 ∧ p k = true)) →
    Ws (floop [] (.nm v) body (all.map enc) (E o) st0) (fun env st => (∃ o, env = E o) ∧ st = st0 ∧ all.filter p = []) (fun m st => st = st0 ∧ ∃ k r, all.filter p = k :: r ∧ m = f k)
  | [], o, _ => fl_nil ⟨⟨o, rfl⟩, rfl, rfl⟩
  | k :: all, o, h => by
    refine fl_cons (h_pure (he k) (hs o k) ?_)
    refine (h k List.mem_cons_self).mono ?_ ?_
    · rintro _ _ ⟨rfl, rfl, hp⟩
      refine (loop_firstG (R := R) enc he p f E _ hs (all := all) (o := some (enc k)) fun k hk => h k (List.mem_cons_of_mem _ hk)).mono ?_ ?_
      · rintro env st ⟨h1, h2, h3⟩
        exact ⟨h1, h2, by rw [List.filter_cons, hp]; exact h3⟩
      · rintro m st ⟨h1, k', r, h2, h3⟩
        exact ⟨h1, k', r, by rw [List.filter_cons, hp]; exact h2, h3⟩
    · rintro _ _ ⟨rfl, rfl, hp⟩
      exact ⟨rfl, k, all.filter p, by rw [List.filter_cons, hp]; rfl, rfl⟩
def headT : List T3 → MV
  | [] => .non
  | t :: _ => encT t
theorem headT_pure (ts : List T3) : pureM (headT ts) = true := by
  cases ts with
  | nil => rfl
  | cons t ts => exact encV_pure _ _ _
def passT (r : List Cd) (m : Int) (t : T3) : Bool := passR r m t.1 t.2.1 t.2.2
def toldL (r o : List Cd) (m : Int) : List T3 := (trip m).filter fun t => passT r m t && !passT o m t
theorem told_by_ok (hr : okR r) (ho : okR o) (h0 : 0 ≤ m) (h1 : m ≤ 40) : call (lib X) (d + 4) 38 [encR r, encR o, .int m] st = .val (headT (toldL r o m)) st := by
  refine call_same (fd := f_told_by) rfl rfl (by simp [noLsts, noLst, pure_noLst (encR_pure r), pure_noLst (encR_pure o)]) (pure_below (headT_pure _)) ?_
  simp only [f_told_by, List.map_cons, List.map_nil, List.cons_append, List.nil_append, List.reduceReplicate, Nat.reduceSub]
  refine z_cons (z_for (e_ex ?_))
  walk_at "q"
  refine wp_eq (all_votes_ok h0 h1) ⟨_, rfl, pures_noLst (encTs_pure _), ?_⟩
  refine (loop_firstG (R := fun _ _ => True) encT (fun a => pure_noLst (encV_pure _ _ _)) (fun t => passT r m t && !passT o m t) encT (fun x => [some (encR r), some (encR o), some (.int m), x]) st (fun x k => rfl) (fun t ht => ?_)).mono ?_ ?_
  · unfold b1_told_by
    walk_at "q"
    refine wp_eq (is_passed_ok (y := t.1) (n := t.2.1) (b := t.2.2) hr) ?_
    walk_at "q"
    · refine wp_eq (is_passed_ok (y := t.1) (n := t.2.1) (b := t.2.2) ho) ?_
      rename_i h2
      walk_at "q"
      · rename_i h3
        simp only [passT, h2, Bool.true_and]
        exact h3
      · rename_i h3
        simp only [passT, h2, Bool.true_and]
        exact h3
    · rename_i h2 _
      simp [passT, h2]
  · rintro env s ⟨⟨x, rfl⟩, rfl, he⟩
    walk_at "q"
    exact ⟨by unfold toldL; rw [he]; rfl, rfl⟩
  · rintro v s ⟨rfl, t, rr, he, rfl⟩
    exact ⟨by unfold toldL; rw [he]; rfl, rfl⟩
theorem telling_votes_ok (hr : okR r) (ho : okR o) (hm : okM m) : call (lib X) (d + 5) 39 [encR r, encR o, .int m] st = .val (headT (toldL r o m)) st := by
  refine call_same (fd := f_telling_votes) rfl rfl (by simp [noLsts, noLst, pure_noLst (encR_pure r), pure_noLst (encR_pure o)]) (pure_below (headT_pure _)) ?_
  simp only [f_telling_votes, List.map_cons, List.map_nil, List.cons_append, List.nil_append, List.reduceReplicate, Nat.reduceSub]
  have hm0 := hm.lo
  walk_at "q"
  refine wp_eq (need_rule_ok hr) ?_
  walk_at "q"
  refine wp_eq (need_rule_ok ho) ?_
  walk_at "q"
  refine wp_eq (need_members_ok hm.lo hm.hi) ?_
  walk_at "q"
  exact wp_eq (told_by_ok hr ho (by omega) hm.hi) ⟨rfl, rfl⟩
theorem headT_non {ts : List T3} : isNon (headT ts) = ts.isEmpty := by
  cases ts <;> rfl
theorem implies_ok (hr : okR r) (ho : okR o) (hm : okM m) : call (lib X) (d + 6) 40 [encR r, encR o, .int m] st = .val (.bl (toldL r o m).isEmpty) st := by
  refine call_same (fd := f_implies) rfl rfl (by simp [noLsts, noLst, pure_noLst (encR_pure r), pure_noLst (encR_pure o)]) (by simp [below]) ?_
  simp only [f_implies, List.map_cons, List.map_nil, List.cons_append, List.nil_append, List.reduceReplicate, Nat.reduceSub]
  walk_at "q"
  refine wp_eq (telling_votes_ok hr ho hm) ?_
  walk_at "q"
  exact ⟨by rw [headT_non], rfl⟩
theorem same_ok (hr : okR r) (ho : okR o) (hm : okM m) : call (lib X) (d + 6) 41 [encR r, encR o, .int m] st = .val (.bl ((toldL r o m).isEmpty && (toldL o r m).isEmpty)) st := by
  refine call_same (fd := f_same) rfl rfl (by simp [noLsts, noLst, pure_noLst (encR_pure r), pure_noLst (encR_pure o)]) (by simp [below]) ?_
  simp only [f_same, List.map_cons, List.map_nil, List.cons_append, List.nil_append, List.reduceReplicate, Nat.reduceSub]
  have hm0 := hm.lo
  walk_at "q"
  refine wp_eq (telling_votes_ok hr ho hm) ?_
  walk_at "q"
  · rename_i h
    rw [headT_non] at h
    refine wp_eq (told_by_ok ho hr (by omega) hm.hi) ?_
    walk_at "q"
    exact ⟨by rw [headT_non, h]; rfl, rfl⟩
  · rename_i h
    rw [headT_non] at h
    exact ⟨by rw [h]; rfl, rfl⟩
end
end QR

set_option Elab.async false
set_option linter.all false
set_option maxRecDepth 100000
set_option maxHeartbeats 4000000
/-! QPlain10: needless conditions. -/
namespace QR
open PySem
local macro_rules | `(tactic| walk_at "q") => `(tactic| (repeat' (first
  | with_reducible refine z_cons ?_ | with_reducible refine z_asg ?_ | with_reducible refine z_ret ?_ | with_reducible refine z_iff ?_ | with_reducible refine z_nil ?_ | with_reducible refine z_exp ?_ | with_reducible refine z_set ?_ | with_reducible refine z_pass ?_
  | with_reducible refine w_cst ?_ | ((with_reducible apply w_var); rfl) | with_reducible refine w_bin ?_ | with_reducible refine w_cmp ?_ | with_reducible refine w_not ?_ | with_reducible refine w_and ?_ | with_reducible refine w_or ?_ | with_reducible refine w_chn ?_ | with_reducible refine w_ite ?_ | with_reducible refine w_neg ?_
  | with_reducible refine w_call ?_ | with_reducible refine w_blt ?_ | with_reducible refine w_tup ?_ | with_reducible refine w_lst ?_ | with_reducible refine w_sub ?_ | with_reducible refine w_sli ?_ | with_reducible refine w_nil ?_ | with_reducible refine w_cons ?_
  | with_reducible refine o_add ?_ | with_reducible refine o_sub ?_ | ((with_reducible apply o_mulR); decide) | ((with_reducible apply o_mulL); decide) | with_reducible refine o_mul ?_ ?_ | ((with_reducible apply o_fdiv); (first | decide | assumption | omega)) | ((with_reducible apply o_mod); (first | decide | assumption | omega))
  | with_reducible refine o_lt ?_ | with_reducible refine o_le ?_ | with_reducible refine o_gt ?_ | with_reducible refine o_ge ?_ | with_reducible refine o_isn ?_ | with_reducible refine o_is ?_ | with_reducible refine o_isb ?_ | with_reducible refine o_isnb ?_ | with_reducible refine o_eqI ?_ | with_reducible refine o_neI ?_ | with_reducible refine o_eqS ?_ | with_reducible refine o_neS ?_ | with_reducible refine o_eqB ?_ | with_reducible refine o_neB ?_
  | with_reducible refine b_int ?_ | with_reducible refine b_abs ?_ | with_reducible refine b_min ?_ | with_reducible refine b_max ?_ | with_reducible refine b_lenT ?_ | with_reducible refine b_lenL ?_ | with_reducible refine b_lenO ?_ | ((with_reducible apply b_lenR); assumption) | ((with_reducible apply b_isi); rfl)
  | ((with_reducible apply t_set); (first | assumption | exact List.getElem?_set_self (by assumption)); rfl; (first | rfl | assumption)) | ((with_reducible apply u_tup); rfl) | ((with_reducible apply u_ref); (first | assumption | exact List.getElem?_set_self (by assumption)); rfl) | ((with_reducible apply u_lst); rfl)
  | ((with_reducible apply h_int); (focus ((try simp only [List.set_cons_succ, List.set_cons_zero, asgs]); rfl))) | ((with_reducible apply h_bl); (focus ((try simp only [List.set_cons_succ, List.set_cons_zero, asgs]); rfl))) | ((with_reducible apply h_str); (focus ((try simp only [List.set_cons_succ, List.set_cons_zero, asgs]); rfl))) | ((with_reducible apply h_ref); (focus ((try simp only [List.set_cons_succ, List.set_cons_zero, asgs]); rfl))) | ((with_reducible apply h_non); (focus ((try simp only [List.set_cons_succ, List.set_cons_zero, asgs]); rfl))) | ((with_reducible apply h_tup); rfl; (first | (focus (simp [noLsts, noLst]; done)) | assumption); (focus ((try simp only [List.set_cons_succ, List.set_cons_zero, asgs]); rfl))) | ((with_reducible apply h_lst); (first | (focus (simp [noLsts, noLst]; done)) | assumption); (focus ((try simp only [List.set_cons_succ, List.set_cons_zero, asgs]); rfl))) | ((with_reducible apply h_pure); (first | (focus (simp [noLsts, noLst]; done)) | assumption); (focus ((try simp only [List.set_cons_succ, List.set_cons_zero, asgs]); rfl)))
  | with_reducible refine w_turn ?_
  | ((with_reducible refine ⟨_, rfl, (fun h => ?_), (fun h => ?_)⟩) <;> first | exact absurd h (by decide +kernel) | (exfalso; simp at h; done) | (exfalso; simp at h; omega) | skip)
  | with_reducible rfl
  | (with_reducible refine ⟨True.intro, ?_⟩)
  | (with_reducible refine ⟨rfl, ?_⟩)
  | (with_reducible refine ⟨_, rfl, ?_⟩)
  | fail)))
theorem flatMap_len {α β : Type} {f : α → List β} {k : Nat} : ∀ {l : List α}, (∀ x ∈ l, (f x).length ≤ k) → (l.flatMap f).length ≤ l.length * k
  | [], _ => by simp
  | x :: l, h => by
    have h1 := h x List.mem_cons_self
    have h2 := flatMap_len (l := l) fun y hy => h y (List.mem_cons_of_mem _ hy)
    simp only [List.flatMap_cons, List.length_append, List.length_cons, Nat.add_mul, Nat.one_mul]
    omega
theorem trip_len {m : Int} (h1 : m ≤ 40) : (trip m).length ≤ 68921 := by
  unfold trip
  have h := flatMap_len (l := rngL 0 (m + 1)) (k := 1681) (f := fun y => (rngL 0 (m - y + 1)).flatMap fun n => (rngL 0 (m - y - n + 1)).map fun b => ((y, n, b) : T3)) fun y hy => by
    have hy := rngL_mem.mp hy
    have h := flatMap_len (l := rngL 0 (m - y + 1)) (k := 41) (f := fun n => (rngL 0 (m - y - n + 1)).map fun b => ((y, n, b) : T3)) fun n hn => by
      have hn := rngL_mem.mp hn
      rw [List.length_map, rngL_len]
      omega
    rw [rngL_len] at h
    have : (m - y + 1 - 0).toNat * 41 ≤ 41 * 41 := Nat.mul_le_mul_right _ (by omega)
    omega
  rw [rngL_len] at h
  have : (m + 1 - 0).toNat * 1681 ≤ 41 * 1681 := Nat.mul_le_mul_right _ (by omega)
  omega
section
variable {Φ : Phi} {env env' : Env} {st st' : Store} {Q : MV → Store → Prop} {N : Env → Store → Prop} {R : MV → Store → Prop} {i j : Nat} {m x y : MV} {a b c : E} {es : Es} {k l : Int} {xs ys : List MV}
theorem b_listT (q : Q (.lst xs) st) : Wp (bltM .list [.tup xs] st) Q := ⟨_, st, by simp [bltM, seqOf], q⟩
theorem sl_upto (h : 0 ≤ k) (q : Q (.tup (xs.take k.toNat)) st) : Wp (sliM .upto (.tup xs) (.int k) st) Q := ⟨_, st, by simp [sliM, seqOf, h, again], q⟩
theorem sl_frm (h : 0 ≤ k) (q : Q (.tup (xs.drop k.toNat)) st) : Wp (sliM .frm (.tup xs) (.int k) st) Q := ⟨_, st, by simp [sliM, seqOf, h, again], q⟩
/-- «found.append(x) if p(x)» over data: found is the last cell of the store -/
theorem loop_filterG {α : Type} {body : Env → Store → SOut} {v : Nat} (enc : α → MV) (he : ∀ a, noLst (enc a) = true) (p : α → Bool) (E : Option MV → Env) (st0 : Store) (hs : ∀ o k, (E o).set v (some (enc k)) = E (some (enc k))) : ∀ {all : List α} {acc : List MV} {o : Option MV},
    (∀ k ∈ all, ∀ acc, acc.length < big → Ws (body (E (some (enc k))) (st0 ++ [.lst acc])) (fun env st => env = E (some (enc k)) ∧ st = st0 ++ [.lst (if p k then acc ++ [enc k] else acc)]) R) → acc.length + all.length < big →
    Ws (floop [] (.nm v) body (all.map enc) (E o) (st0 ++ [.lst acc])) (fun env st => (∃ o, env = E o) ∧ st = st0 ++ [.lst (acc ++ (all.filter p).map enc)]) R
  | [], acc, o, _, _ => fl_nil ⟨⟨o, rfl⟩, by simp⟩
  | k :: all, acc, o, h, hb => by
    refine fl_cons (h_pure (he k) (hs o k) ?_)
    refine (h k List.mem_cons_self acc (by simp at hb; omega)).mono ?_ fun _ _ z => z
    rintro _ _ ⟨rfl, rfl⟩
    have ih := loop_filterG enc he p E st0 hs (all := all) (acc := if p k then acc ++ [enc k] else acc) (o := some (enc k)) (fun k hk => h k (List.mem_cons_of_mem _ hk)) (by simp only [List.length_cons] at hb; cases p k <;> simp <;> omega)
    refine ih.mono ?_ fun _ _ z => z
    rintro env _ ⟨h1, rfl⟩
    refine ⟨h1, ?_⟩
    cases hp : p k <;> simp [hp]
def dC (c : Cd) : PyData := .tuple [.str c.kind, .int c.top, .int c.bottom, .bool c.more]
theorem toD_C {n : Nat} {c : Cd} : toD st (n + 2) (encC c) = some (dC c) := by simp [encC, toD, dC]
theorem toD_R {r : List Cd} : toD st 9 (encR r) = some (.tuple (r.map dC)) := by
  unfold encR
  rw [toD_tup (g := fun x => match x with
    | .tup [.str k, .int t, .int b, .bl o] => dC ⟨k, t, b, o⟩
    | _ => .none) (by
      intro x hx
      obtain ⟨k, _, rfl⟩ := List.mem_map.mp hx
      exact toD_C (n := 6)), List.map_map]
  rfl
theorem o_neR0 {r : List Cd} (q : Q (.bl (!r.isEmpty)) st) : Wp (cmpM .ne (encR r) (.tup []) st) Q :=
  o_neD (e := .tuple []) toD_R (by simp [toD]) (by rw [show PyData.eqv (.tuple (r.map dC)) (.tuple []) = PyData.eqvAll (r.map dC) [] by simp [PyData.eqv], eqvAll_nil, List.isEmpty_map]; exact q)
theorem o_eqR0 {r : List Cd} (q : Q (.bl r.isEmpty) st) : Wp (cmpM .eq (encR r) (.tup []) st) Q :=
  o_eqD (e := .tuple []) toD_R (by simp [toD]) (by rw [show PyData.eqv (.tuple (r.map dC)) (.tuple []) = PyData.eqvAll (r.map dC) [] by simp [PyData.eqv], eqvAll_nil, List.isEmpty_map]; exact q)
def dT (t : T3) : PyData := .tuple [.int t.1, .int t.2.1, .int t.2.2]
theorem toD_T {n : Nat} {t : T3} : toD st (n + 2) (encT t) = some (dT t) := by simp [encT, encV, toD, dT]
theorem toDT_ref {ps : List T3} (h : st[j]? = some (.lst (ps.map encT))) : toD st 9 (.ref j) = some (.list (ps.map dT)) := by
  rw [toD_ref (g := fun x => match x with
    | .tup [.int a, .int b, .int c] => dT (a, b, c)
    | _ => .none) h (by
      intro x hx
      obtain ⟨k, _, rfl⟩ := List.mem_map.mp hx
      exact toD_T (n := 6)), List.map_map]
  rfl
end
section
variable {X : Nat → Option FDef} {d i j : Nat} {st : Store} {c : Cd} {r o : List Cd} {m y n b f : Int}
def wo (r : List Cd) (i : Nat) : List Cd := r.take i ++ r.drop (i + 1)
theorem wo_mem {i : Nat} (h : c ∈ wo r i) : c ∈ r := by
  rcases List.mem_append.mp h with h | h
  · exact List.mem_of_mem_take h
  · exact List.mem_of_mem_drop h
theorem wo_ok {i : Nat} (h : okR r) : okR (wo r i) := ⟨by
  have := h.len
  unfold wo
  rw [List.length_append, List.length_take, List.length_drop]
  omega, fun c hc => h.all c (wo_mem hc)⟩
theorem wo_enc {i : Nat} : (r.map encC).take i ++ (r.map encC).drop (i + 1) = (wo r i).map encC := by
  unfold wo
  rw [List.map_append, List.map_take, List.map_drop]
theorem pass_sub (h : ∀ c ∈ o, c ∈ r) (hp : passR r m y n b = true) : passR o m y n b = true := by
  unfold passR at *
  rw [List.all_eq_true] at *
  exact fun c hc => hp c (h c hc)
theorem told_nil (h : ∀ c ∈ o, c ∈ r) : toldL r o m = [] := by
  unfold toldL
  rw [List.filter_eq_nil_iff]
  intro t _
  cases hp : passT r m t with
  | false => simp
  | true => simp [show passT o m t = true from pass_sub h hp]
theorem without_ok {i : Int} (h0 : 0 ≤ i) (hl : r.length ≤ 4) : call (lib X) (d + 1) 43 [encR r, .int i] st = .val (encR (wo r i.toNat)) st := by
  refine call_same (fd := f_without_compare) rfl rfl (by simp [noLsts, noLst, pure_noLst (encR_pure r)]) (pure_below (encR_pure _)) ?_
  simp only [f_without_compare, List.map_cons, List.map_nil, List.cons_append, List.nil_append, List.reduceReplicate, Nat.reduceSub]
  walk_at "q"
  refine sl_upto h0 ?_
  walk_at "q"
  refine sl_frm (k := i + 1) (by omega) ?_
  refine o_addT (big_ok (by simp; omega)) ⟨?_, rfl⟩
  rw [show (i + 1).toNat = i.toNat + 1 by omega, wo_enc]
  rfl
def needL (r : List Cd) (m : Int) : List Int := (rngL 0 r.length).filter fun i => (toldL (wo r i.toNat) r m).isEmpty
theorem needless_ok (hr : okR r) (hm : okM m) : call (lib X) (d + 5) 44 [encR r, .int m] st = .val (.lst ((needL r m).map .int)) st := by
  refine Wp.eq (Wp_call (fd := f_needless) rfl rfl ?_)
  rw [allocs_idp (by simp [noLsts, noLst, pure_noLst (encR_pure r)])]
  simp only [f_needless, List.map_cons, List.map_nil, List.cons_append, List.nil_append, List.reduceReplicate, Nat.reduceSub]
  have hl := hr.len
  have hm0 := hm.lo
  walk_at "q"
  refine wp_eq (need_rule_ok hr) ?_
  walk_at "q"
  refine wp_eq (need_members_ok hm.lo hm.hi) ?_
  walk_at "q"
  refine w_compF (rngL 0 r.length) (fun i => (toldL (wo r i.toNat) r m).isEmpty) (lk := []) (e_rng (w_cst (w_blt (w_cons (w_var (m := encR r) rfl (w_nil (b_lenT ⟨_, _, rfl, rfl, ?_, ?_⟩))))))) (big_ok (by rw [rngL_len]; omega)) rfl (by simp) (fun k hk => ?_) ?_
  · simp only [List.length_map]
    omega
  · rw [range_L, List.length_map]
    exact ⟨rfl, rfl⟩
  · have hk := rngL_mem.mp hk
    simp only [List.set_cons_succ, List.set_cons_zero]
    walk_at "q"
    refine wp_eq (without_ok hk.1 hl) ?_
    walk_at "q"
    refine wp_eq (told_by_ok (wo_ok hr) hr (by omega) hm.hi) ?_
    walk_at "q"
    exact ⟨by rw [headT_non], rfl⟩
  · rw [gcv_sameL (pures_belows pures_int)]
    exact Wp_val.mpr ⟨rfl, rfl⟩
end
end QR

set_option Elab.async false
set_option linter.all false
set_option maxRecDepth 100000
set_option maxHeartbeats 4000000
/-! QPlain11: votes where a no helps. -/
namespace QR
open PySem
local macro_rules | `(tactic| walk_at "q") => `(tactic| (repeat' (first
  | with_reducible refine z_cons ?_ | with_reducible refine z_asg ?_ | with_reducible refine z_ret ?_ | with_reducible refine z_iff ?_ | with_reducible refine z_nil ?_ | with_reducible refine z_exp ?_ | with_reducible refine z_set ?_ | with_reducible refine z_pass ?_
  | with_reducible refine w_cst ?_ | ((with_reducible apply w_var); rfl) | with_reducible refine w_bin ?_ | with_reducible refine w_cmp ?_ | with_reducible refine w_not ?_ | with_reducible refine w_and ?_ | with_reducible refine w_or ?_ | with_reducible refine w_chn ?_ | with_reducible refine w_ite ?_ | with_reducible refine w_neg ?_
  | with_reducible refine w_call ?_ | with_reducible refine w_blt ?_ | with_reducible refine w_tup ?_ | with_reducible refine w_lst ?_ | with_reducible refine w_sub ?_ | with_reducible refine w_sli ?_ | with_reducible refine w_nil ?_ | with_reducible refine w_cons ?_
  | with_reducible refine o_add ?_ | with_reducible refine o_sub ?_ | ((with_reducible apply o_mulR); decide) | ((with_reducible apply o_mulL); decide) | with_reducible refine o_mul ?_ ?_ | ((with_reducible apply o_fdiv); (first | decide | assumption | omega)) | ((with_reducible apply o_mod); (first | decide | assumption | omega))
  | with_reducible refine o_lt ?_ | with_reducible refine o_le ?_ | with_reducible refine o_gt ?_ | with_reducible refine o_ge ?_ | with_reducible refine o_isn ?_ | with_reducible refine o_is ?_ | with_reducible refine o_isb ?_ | with_reducible refine o_isnb ?_ | with_reducible refine o_eqI ?_ | with_reducible refine o_neI ?_ | with_reducible refine o_eqS ?_ | with_reducible refine o_neS ?_ | with_reducible refine o_eqB ?_ | with_reducible refine o_neB ?_
  | with_reducible refine b_int ?_ | with_reducible refine b_abs ?_ | with_reducible refine b_min ?_ | with_reducible refine b_max ?_ | with_reducible refine b_lenT ?_ | with_reducible refine b_lenL ?_ | with_reducible refine b_lenO ?_ | ((with_reducible apply b_lenR); assumption) | ((with_reducible apply b_isi); rfl)
  | ((with_reducible apply t_set); (first | assumption | exact List.getElem?_set_self (by assumption)); rfl; (first | rfl | assumption)) | ((with_reducible apply u_tup); rfl) | ((with_reducible apply u_ref); (first | assumption | exact List.getElem?_set_self (by assumption)); rfl) | ((with_reducible apply u_lst); rfl)
  | ((with_reducible apply h_int); (focus ((try simp only [List.set_cons_succ, List.set_cons_zero, asgs]); rfl))) | ((with_reducible apply h_bl); (focus ((try simp only [List.set_cons_succ, List.set_cons_zero, asgs]); rfl))) | ((with_reducible apply h_str); (focus ((try simp only [List.set_cons_succ, List.set_cons_zero, asgs]); rfl))) | ((with_reducible apply h_ref); (focus ((try simp only [List.set_cons_succ, List.set_cons_zero, asgs]); rfl))) | ((with_reducible apply h_non); (focus ((try simp only [List.set_cons_succ, List.set_cons_zero, asgs]); rfl))) | ((with_reducible apply h_tup); rfl; (first | (focus (simp [noLsts, noLst]; done)) | assumption); (focus ((try simp only [List.set_cons_succ, List.set_cons_zero, asgs]); rfl))) | ((with_reducible apply h_lst); (first | (focus (simp [noLsts, noLst]; done)) | assumption); (focus ((try simp only [List.set_cons_succ, List.set_cons_zero, asgs]); rfl))) | ((with_reducible apply h_pure); (first | (focus (simp [noLsts, noLst]; done)) | assumption); (focus ((try simp only [List.set_cons_succ, List.set_cons_zero, asgs]); rfl)))
  | with_reducible refine w_turn ?_
  | ((with_reducible refine ⟨_, rfl, (fun h => ?_), (fun h => ?_)⟩) <;> first | exact absurd h (by decide +kernel) | (exfalso; simp at h; done) | (exfalso; simp at h; omega) | skip)
  | with_reducible rfl
  | (with_reducible refine ⟨True.intro, ?_⟩)
  | (with_reducible refine ⟨rfl, ?_⟩)
  | (with_reducible refine ⟨_, rfl, ?_⟩)
  | fail)))
section
variable {X : Nat → Option FDef} {d i j : Nat} {st : Store} {c : Cd} {r o : List Cd} {m y n b f : Int}
theorem cond_body {i j : Nat} {ks : List Str} (hs : Src st i) (hj : st[j]? = some (.lst (ks.map .str))) (hij : j ≠ i) (hk : ks ≠ []) (hk2 : ∀ k ∈ ks, k ∈ kindsL) (hl : ks.length < 1000000) :
    Ws (exs (call (lib X) (d + 2)) f_law_condition.body [some (.ref i), some (.ref j), none, none] st) (fun _ _ => False) (fun v s => ∃ c, v = encC c ∧ okC c ∧ c.kind ∈ ks ∧ Upd st i s) := by
  simp only [f_law_condition]
  have hi := hs.lt
  walk_at "q"
  refine (draw_ok hs (by decide) (by decide)).mono ?_
  rintro _ s1 ⟨r1, rfl, a1, a2, u1⟩
  walk_at "q"
  refine (choice_lst (u1.src hi) (by simp) (by simp [pureMs, pureM]) (by simp)).mono ?_
  rintro v1 s2 ⟨m1, u2⟩
  have hb : ∃ b : Int, v1 = .int b ∧ 1 ≤ b ∧ b ≤ 20 := by
    simp only [List.mem_cons, List.not_mem_nil, or_false] at m1
    rcases m1 with rfl | rfl | rfl | rfl | rfl | rfl | rfl
    all_goals first
      | exact ⟨_, rfl, by decide, by decide⟩
      | exact ⟨_, rfl, by omega, by omega⟩
  obtain ⟨b, rfl, b1, b2⟩ := hb
  have u12 := u1.trans u2
  have s2s := u12.src hi
  walk_at "q"
  refine (draw_ok s2s (by omega) (by omega)).mono ?_
  rintro _ s3 ⟨r2, rfl, a3, a4, u3⟩
  have u13 := u12.trans u3
  walk_at "q"
  refine (choice_lst (u13.src hi) (by simp) (by simp [pureMs, pureM]) (by simp)).mono ?_
  rintro v2 s4 ⟨m2, u4⟩
  have ht : ∃ t : Int, v2 = .int t ∧ 0 ≤ t ∧ t ≤ b := by
    simp only [List.mem_cons, List.not_mem_nil, or_false] at m2
    have e1 : b.fdiv 2 = b / 2 := Int.fdiv_eq_ediv_of_nonneg _ (by decide)
    have e2 : (b + 1).fdiv 2 = (b + 1) / 2 := Int.fdiv_eq_ediv_of_nonneg _ (by decide)
    have e3 : (2 * b).fdiv 3 = (2 * b) / 3 := Int.fdiv_eq_ediv_of_nonneg _ (by decide)
    rcases m2 with rfl | rfl | rfl | rfl
    · exact ⟨_, rfl, by omega, by omega⟩
    · exact ⟨_, rfl, by omega, by omega⟩
    · exact ⟨_, rfl, by omega, by omega⟩
    · exact ⟨_, rfl, by omega, by omega⟩
  obtain ⟨t, rfl, t1, t2⟩ := ht
  have u14 := u13.trans u4
  walk_at "q"
  refine (choice_ref (u14.src hi) (by rw [u14.ne hij]; exact hj) hij (by simpa using hk) (pures_of fun m hm => by
    obtain ⟨z, _, rfl⟩ := List.mem_map.mp hm
    simp [pureM]) (by simpa using hl)).mono ?_
  rintro v3 s5 ⟨m3, u5⟩
  obtain ⟨z, hz, rfl⟩ := List.mem_map.mp m3
  have u15 := u14.trans u5
  walk_at "q"
  refine (draw_ok (u15.src hi) (by decide) (by decide)).mono ?_
  rintro _ s6 ⟨r3, rfl, a5, a6, u6⟩
  have u16 := u15.trans u6
  walk_at "q"
  exact ⟨⟨z, t, b, decide (r3 = 0)⟩, rfl, ⟨hk2 z hz, t1, t2, b1, b2⟩, hz, u16⟩
theorem condition_lst {i : Nat} {ks : List Str} (hs : Src st i) (hk : ks ≠ []) (hk2 : ∀ k ∈ ks, k ∈ kindsL) (hl : ks.length < 1000000) :
    Wp (call (lib X) (d + 3) 10 [.ref i, .lst (ks.map .str)] st) fun v s => ∃ c, v = encC c ∧ okC c ∧ c.kind ∈ ks ∧ Upd st i s := by
  refine Wp_call (fd := f_law_condition) rfl rfl ?_
  have hp : pureMs (ks.map MV.str) = true := pures_of fun m hm => by
    obtain ⟨z, _, rfl⟩ := List.mem_map.mp hm
    simp [pureM]
  have ea : allocs [.ref i, .lst (ks.map .str)] st = ([.ref i, .ref st.length], st ++ [.lst (ks.map .str)]) := by simp [allocs, alloc, allocs_idp (pures_noLst hp)]
  rw [ea]
  have hi := hs.lt
  refine (cond_body (ks := ks) (hs.app _) (by simp) (by omega) hk hk2 hl).mono (fun _ _ z => z.elim) ?_
  rintro v s ⟨c, rfl, hc, hck, hu⟩
  obtain ⟨st1, hu1, rfl⟩ := hu.app hi
  exact Kpt.pure_end hu1.kpt (pure_below (encC_pure c)) ⟨c, rfl, hc, hck, hu1⟩
/-- «found.append(x) if p(x)» over data, any target: found is the last cell of the store -/
theorem loop_filterT {α : Type} {body : Env → Store → SOut} {tg : Tg} {R : MV → Store → Prop} (enc : α → MV) (p : α → Bool) (E : Option α → Env) (st0 : Store) (hs : ∀ o k st, asgT tg (enc k) (E o) st = .val (E (some k)) st) : ∀ {all : List α} {acc : List MV} {o : Option α},
    (∀ k ∈ all, ∀ acc, acc.length < big → Ws (body (E (some k)) (st0 ++ [.lst acc])) (fun env st => env = E (some k) ∧ st = st0 ++ [.lst (if p k then acc ++ [enc k] else acc)]) R) → acc.length + all.length < big →
    Ws (floop [] tg body (all.map enc) (E o) (st0 ++ [.lst acc])) (fun env st => (∃ o, env = E o) ∧ st = st0 ++ [.lst (acc ++ (all.filter p).map enc)]) R
  | [], acc, o, _, _ => fl_nil ⟨⟨o, rfl⟩, by simp⟩
  | k :: all, acc, o, h, hb => by
    refine fl_cons (wp_eq (hs o k _) ?_)
    refine (h k List.mem_cons_self acc (by simp at hb; omega)).mono ?_ fun _ _ z => z
    rintro _ _ ⟨rfl, rfl⟩
    have ih := loop_filterT enc p E st0 hs (all := all) (acc := if p k then acc ++ [enc k] else acc) (o := some k) (fun k hk => h k (List.mem_cons_of_mem _ hk)) (by simp only [List.length_cons] at hb; cases p k <;> simp <;> omega)
    refine ih.mono ?_ fun _ _ z => z
    rintro env _ ⟨h1, rfl⟩
    refine ⟨h1, ?_⟩
    cases hp : p k <;> simp [hp]
def helpB (r : List Cd) (m : Int) (t : T3) : Bool := decide (t.1 + t.2.1 + t.2.2 < m) && (!passR r m t.1 t.2.1 t.2.2 && passR r m t.1 (t.2.1 + 1) t.2.2)
def helpL (r : List Cd) (m : Int) : List T3 := (trip m).filter (helpB r m)
/-- the three names of a row -/
def slots (o : Option T3) (a b c : Option MV) : List (Option MV) := match o with
  | none => [a, b, c]
  | some t => [some (.int t.1), some (.int t.2.1), some (.int t.2.2)]
theorem helped_ok (h : okR r) (h0 : 0 ≤ m) (h1 : m ≤ 40) : call (lib X) (d + 4) 33 [encR r, .int m] st = .val (.lst ((helpL r m).map encT)) st := by
  refine Wp.eq (Wp_call (fd := f_helped) rfl rfl ?_)
  rw [allocs_idp (by simp [noLsts, noLst, pure_noLst (encR_pure r)])]
  simp only [f_helped, List.map_cons, List.map_nil, List.cons_append, List.nil_append, List.reduceReplicate, Nat.reduceSub]
  walk_at "q"
  refine z_for (e_ex ?_)
  walk_at "q"
  refine wp_eq (all_votes_ok h0 h1) ⟨_, rfl, pures_noLst (encTs_pure _), ?_⟩
  refine (loop_filterT encT (helpB r m) (fun o => [some (encR r), some (.int m), some (.ref st.length)] ++ slots o none none none) st (fun o k s => ?_) (o := none) (fun t ht acc hb => ?_) (Nat.lt_of_le_of_lt (m := 68921) (by simpa using trip_len h1) (by decide))).mono ?_ fun _ _ z => z
  · cases o <;> simp [asgT, encT, encV, allocs, asgs, slots]
  · have hcell : (st ++ [Cell.lst acc])[st.length]? = some (.lst acc) := by simp
    have hset : ∀ x : List MV, (st ++ [Cell.lst acc]).set st.length (.lst x) = st ++ [.lst x] := fun x => by simp
    unfold b1_helped
    simp only [slots, List.cons_append, List.nil_append]
    walk_at "q"
    · rename_i h2
      refine wp_eq (is_passed_ok (y := t.1) (n := t.2.1) (b := t.2.2) h) ?_
      walk_at "q"
      · rename_i h3
        refine wp_eq (is_passed_ok (y := t.1) (n := t.2.1 + 1) (b := t.2.2) h) ?_
        walk_at "q"
        · rename_i h4
          refine w_mth (w_var rfl ⟨lstOf_ref hcell, ?_⟩)
          walk_at "q"
          refine t_append hcell (by simp [noLst, noLsts]) hb ?_
          walk_at "q"
          rw [hset, if_pos (by simp only [helpB, h2, h3, h4]; rfl)]
          rfl
        · rename_i h4
          rw [if_neg (by simp [helpB, h4])]
      · rename_i h3
        rw [if_neg (by simp only [helpB, h3]; simp)]
    · rename_i h2 _
      rw [if_neg (by simp only [helpB, h2]; simp)]
  · rintro _ s ⟨⟨o, rfl⟩, rfl⟩
    cases o <;> simp only [slots, List.cons_append, List.nil_append]
    all_goals
      walk_at "q"
      rw [gcv_new (xs := (helpL r m).map encT) .refl (Nat.le_refl _) (by simp [helpL]) (pures_belows (encTs_pure _))]
      exact Wp_val.mpr ⟨rfl, rfl⟩
theorem helpful_no_ok (h : okR r) (hm : okM m) : call (lib X) (d + 5) 34 [encR r, .int m] st = .val (.lst ((helpL r m).map encT)) st := by
  refine Wp.eq (Wp_call (fd := f_helpful_no) rfl rfl ?_)
  rw [allocs_idp (by simp [noLsts, noLst, pure_noLst (encR_pure r)])]
  simp only [f_helpful_no, List.map_cons, List.map_nil, List.cons_append, List.nil_append, List.reduceReplicate, Nat.reduceSub]
  have hm0 := hm.lo
  walk_at "q"
  refine wp_eq (need_rule_ok h) ?_
  walk_at "q"
  refine wp_eq (need_members_ok hm.lo hm.hi) ?_
  walk_at "q"
  refine wp_eq (helped_ok h (by omega) hm.hi) ?_
  rw [gcv_sameL (pures_belows (encTs_pure _))]
  exact Wp_val.mpr ⟨rfl, rfl⟩
theorem toDT_lst {ps : List T3} : toD st 9 (.lst (ps.map encT)) = some (.list (ps.map dT)) := by
  rw [toD_lst (g := fun x => match x with
    | .tup [.int a, .int b, .int c] => dT (a, b, c)
    | _ => .none) (by
      intro x hx
      obtain ⟨k, _, rfl⟩ := List.mem_map.mp hx
      exact toD_T (n := 6)), List.map_map]
  rfl
theorem is_fair_ok (h : okR r) (hm : okM m) : call (lib X) (d + 5) 35 [encR r, .int m] st = .val (.bl (helpL r m).isEmpty) st := by
  refine call_same (fd := f_is_fair) rfl rfl (by simp [noLsts, noLst, pure_noLst (encR_pure r)]) (by simp [below]) ?_
  simp only [f_is_fair, List.map_cons, List.map_nil, List.cons_append, List.nil_append, List.reduceReplicate, Nat.reduceSub]
  have hm0 := hm.lo
  walk_at "q"
  refine wp_eq (need_rule_ok h) ?_
  walk_at "q"
  refine wp_eq (need_members_ok hm.lo hm.hi) ?_
  walk_at "q"
  refine wp_eq (helped_ok h (by omega) hm.hi) ?_
  walk_at "q"
  refine o_eqNil toDT_lst ⟨?_, rfl⟩
  rw [List.isEmpty_map]
def badN (r : List Cd) (m y f : Int) : List Int := (rngL 0 (f + 1)).filter fun n => !passR r m y n 0
theorem no_numbers_ok (h : okR r) (hm : okM m) (h0 : 0 ≤ y) (h1 : 0 ≤ f) (h2 : y + f ≤ m) : call (lib X) (d + 5) 36 [encR r, .int m, .int y, .int f] st = .val (.lst ((badN r m y f).map .int)) st := by
  refine Wp.eq (Wp_call (fd := f_no_numbers) rfl rfl ?_)
  rw [allocs_idp (by simp [noLsts, noLst, pure_noLst (encR_pure r)])]
  simp only [f_no_numbers, List.map_cons, List.map_nil, List.cons_append, List.nil_append, List.reduceReplicate, Nat.reduceSub]
  have hm0 := hm.lo
  have hm1 := hm.hi
  walk_at "q"
  refine wp_eq (need_rule_ok h) ?_
  walk_at "q"
  refine wp_eq (need_members_ok hm.lo hm.hi) ?_
  walk_at "q"
  refine wp_eq (need_numbers_ok h0 h1 h2) ?_
  walk_at "q"
  refine w_compF (rngL 0 (f + 1)) (fun n => !passR r m y n 0) (lk := []) (e_rng (w_cst (w_bin (w_var (m := .int f) rfl (w_cst (o_add ⟨_, _, rfl, rfl, by omega, by rw [range_L]; exact ⟨rfl, rfl⟩⟩)))))) (big_ok (by rw [rngL_len]; omega)) rfl (by simp) (fun k hk => ?_) ?_
  · simp only [List.set_cons_succ, List.set_cons_zero]
    walk_at "q"
    refine wp_eq (is_passed_ok h) ?_
    walk_at "q"
  · rw [gcv_sameL (pures_belows pures_int)]
    exact Wp_val.mpr ⟨rfl, rfl⟩
theorem help_nil (h : okR r) (hk : ∀ c ∈ r, c.kind ≠ ("turnout" : Str)) : helpL r m = [] := by
  unfold helpL
  rw [List.filter_eq_nil_iff]
  intro t _
  unfold helpB
  cases hp : passR r m t.1 (t.2.1 + 1) t.2.2 with
  | false => simp
  | true =>
    have : passR r m t.1 t.2.1 t.2.2 = true := pass_mono h (fun c hc hok => by
      have hcn : cn c ≤ 0 := by
        obtain ⟨h1, h2, h3, h4, h5⟩ := hok
        unfold cn
        rcases kinds_cases h1 with e | e | e | e
        · rw [e]; simp only [if_true]; omega
        · rw [e]; simp only [show ¬ (("present" : Str) = "cast") by decide +kernel, if_false, if_true]; omega
        · rw [e]; simp only [show ¬ (("all" : Str) = "cast") by decide +kernel, show ¬ (("all" : Str) = "present") by decide +kernel, if_false, if_true]; omega
        · exact absurd e (hk c hc)
      simp only [lin, Int.add_mul, Int.one_mul]
      omega) hp
    simp [this]
theorem eqv_C {c o : Cd} : PyData.eqv (dC c) (dC o) = decide (c = o) := by
  obtain ⟨a1, a2, a3, a4⟩ := c
  obtain ⟨b1, b2, b3, b4⟩ := o
  simp only [dC, PyData.eqv, PyData.eqvAll, beqd, Bool.and_true, ← Bool.decide_and, Cd.mk.injEq]
theorem eqvAll_C : ∀ {r o : List Cd}, PyData.eqvAll (r.map dC) (o.map dC) = decide (r = o)
  | [], [] => by simp [PyData.eqvAll]
  | [], _ :: _ => by simp [PyData.eqvAll]
  | _ :: _, [] => by simp [PyData.eqvAll]
  | c :: r, o :: os => by
    simp only [List.map_cons, PyData.eqvAll, eqv_C, eqvAll_C, List.cons.injEq, Bool.decide_and]
theorem o_eqRR {Q : MV → Store → Prop} (q : Q (.bl (decide (r = o))) st) : Wp (cmpM .eq (encR r) (encR o) st) Q :=
  o_eqD toD_R toD_R (by rw [show PyData.eqv (.tuple (r.map dC)) (.tuple (o.map dC)) = PyData.eqvAll (r.map dC) (o.map dC) by simp [PyData.eqv], eqvAll_C]; exact q)
end
end QR

set_option Elab.async false
set_option linter.all false
set_option maxRecDepth 100000
set_option maxHeartbeats 4000000
/-! QG1: rows, comprehensions, comparisons of data of one kind. -/
namespace QR
open PySem
/-! ### data of one kind -/
structure EncOk {α : Type} [DecidableEq α] (enc : α → MV) (dat : α → PyData) : Prop where
  pure : ∀ a, pureM (enc a) = true
  toD : ∀ st n a, toD st (n + 5) (enc a) = some (dat a)
  eqv : ∀ a b, PyData.eqv (dat a) (dat b) = decide (a = b)
section
variable {α β : Type} [DecidableEq α] [DecidableEq β] {enc : α → MV} {dat : α → PyData} {enc2 : β → MV} {dat2 : β → PyData}
theorem encInt : EncOk MV.int PyData.int := ⟨fun _ => rfl, fun _ _ _ => rfl, fun a b => by simp [PyData.eqv, beqd]⟩
theorem encBl : EncOk MV.bl PyData.bool := ⟨fun _ => rfl, fun _ _ _ => rfl, fun a b => by simp [PyData.eqv, beqd]⟩
theorem encStr : EncOk MV.str PyData.str := ⟨fun _ => rfl, fun _ _ _ => rfl, fun a b => by simp [PyData.eqv, beqd]⟩
theorem eqvAll_enc (h : EncOk enc dat) : ∀ {xs ys : List α}, PyData.eqvAll (xs.map dat) (ys.map dat) = decide (xs = ys)
  | [], [] => by simp [PyData.eqvAll]
  | [], _ :: _ => by simp [PyData.eqvAll]
  | _ :: _, [] => by simp [PyData.eqvAll]
  | x :: xs, y :: ys => by
    simp only [List.map_cons, PyData.eqvAll, h.eqv, eqvAll_enc h, List.cons.injEq, Bool.decide_and]
/-- a row's data -/
def rwD (r : List Int) : PyData := .tuple (r.map .int)
theorem rwD_eqv {xs ys : List Int} : PyData.eqv (rwD xs) (rwD ys) = decide (xs = ys) := by
  simp only [rwD, PyData.eqv]
  exact eqvAll_enc encInt
theorem toD_row {st : Store} {n : Nat} {r : List Int} : toD st (n + 2) (rowMV r) = some (rwD r) := by
  show ((r.map MV.int).mapM (toD st (n + 1))).map PyData.tuple = _
  rw [mapM_of (g := fun x => match x with
    | .int i => PyData.int i
    | _ => .none) (fun x hx => by
      obtain ⟨i, _, rfl⟩ := List.mem_map.mp hx
      rfl), List.map_map]
  rfl
theorem row_pure (r : List Int) : pureM (rowMV r) = true := by
  simp only [rowMV, pureM]
  exact pures_int
theorem encRow : EncOk rowMV rwD := ⟨row_pure, fun _ _ _ => toD_row, fun _ _ => rwD_eqv⟩
theorem encPair : EncOk encP dP := ⟨fun a => by simp [encP, pureM, pureMs], fun _ _ _ => by simp [encP, toD, dP], fun a b => eqv_P⟩
/-- an int and a row -/
def encK (p : Int × List Int) : MV := .tup [.int p.1, rowMV p.2]
def dK (p : Int × List Int) : PyData := .tuple [.int p.1, rwD p.2]
theorem encKey : EncOk encK dK := ⟨fun a => by simp [encK, pureM, pureMs, row_pure], fun st n a => by
    show (([MV.int a.1, rowMV a.2]).mapM (toD st (n + 4))).map PyData.tuple = _
    rw [List.mapM_cons, List.mapM_cons, List.mapM_nil, toD_row]
    rfl, fun a b => by
    simp only [dK, PyData.eqv, PyData.eqvAll, rwD_eqv, beqd, Bool.and_true, ← Bool.decide_and]
    congr 1
    exact propext ⟨fun ⟨h1, h2⟩ => Prod.ext h1 h2, fun h => by rw [h]; exact ⟨rfl, rfl⟩⟩⟩
/-- a value, or None -/
def encO (enc : α → MV) : Option α → MV
  | none => .non
  | some a => enc a
def datO (dat : α → PyData) : Option α → PyData
  | none => .none
  | some a => dat a
structure NotNone (dat : α → PyData) : Prop where
  l : ∀ a, PyData.eqv (dat a) .none = false
  r : ∀ a, PyData.eqv .none (dat a) = false
theorem nnRow : NotNone rwD := ⟨fun a => by simp [rwD, PyData.eqv], fun a => by simp [rwD, PyData.eqv]⟩
theorem nnKey : NotNone dK := ⟨fun a => by simp [dK, PyData.eqv], fun a => by simp [dK, PyData.eqv]⟩
theorem encOpt (h : EncOk enc dat) (n : NotNone dat) : EncOk (encO enc) (datO dat) := by
  refine ⟨fun a => ?_, fun st k a => ?_, fun a b => ?_⟩
  · cases a with
    | none => rfl
    | some a => exact h.pure a
  · cases a with
    | none => rfl
    | some a => exact h.toD st k a
  · cases a with
    | none =>
      cases b with
      | none => simp [datO, PyData.eqv]
      | some b => simpa [datO] using n.r b
    | some a =>
      cases b with
      | none => simpa [datO] using n.l a
      | some b => simp [datO, h.eqv]
/-- a tuple of data of one kind -/
theorem EncOk.noLst (h : EncOk enc dat) (a : α) : noLst (enc a) = true := pure_noLst (h.pure a)
theorem EncOk.pures (h : EncOk enc dat) (xs : List α) : pureMs (xs.map enc) = true := pures_of fun m hm => by
  obtain ⟨c, _, rfl⟩ := List.mem_map.mp hm
  exact h.pure c
theorem EncOk.noLsts (h : EncOk enc dat) (xs : List α) : noLsts (xs.map enc) = true := pures_noLst (h.pures xs)
theorem toDL (h : EncOk enc dat) {st : Store} {x : MV} {xs : List α} (hx : lstOf st x = some (xs.map enc)) : toD st 9 x = some (.list (xs.map dat)) := by
  cases x with
  | lst ys =>
    have e : ys = xs.map enc := Option.some.inj hx
    rw [e, toD_lst (g := fun m => (toD st 8 m).getD .none) (fun y hy => by
      obtain ⟨a, _, rfl⟩ := List.mem_map.mp hy
      rw [h.toD st 3 a]
      rfl), List.map_map]
    congr 2
    exact List.map_congr_left fun a _ => by simp [h.toD st 3 a]
  | ref i =>
    have hi : st[i]? = some (.lst (xs.map enc)) := by
      simp only [lstOf] at hx
      split at hx
      · rename_i e
        rw [e]
        cases hx
        rfl
      · cases hx
    rw [toD_ref (g := fun m => (toD st 8 m).getD .none) hi (fun y hy => by
      obtain ⟨a, _, rfl⟩ := List.mem_map.mp hy
      rw [h.toD st 3 a]
      rfl), List.map_map]
    congr 2
    exact List.map_congr_left fun a _ => by simp [h.toD st 3 a]
  | _ => cases hx
/-- is it one of them? -/
def memB (a : α) (xs : List α) : Bool := decide (a ∈ xs)
theorem memB_iff {a : α} {xs : List α} : memB a xs = true ↔ a ∈ xs := by simp [memB]
theorem memB_no {a : α} {xs : List α} : memB a xs = false ↔ a ∉ xs := by simp [memB]
section
variable {st : Store} {Q : MV → Store → Prop} {x y : MV} {xs ys : List α} {a b : α}
theorem o_eqE (h : EncOk enc dat) (q : Q (.bl (decide (a = b))) st) : Wp (cmpM .eq (enc a) (enc b) st) Q := o_eqD (h.toD st 4 a) (h.toD st 4 b) (by rw [h.eqv]; exact q)
theorem o_neE (h : EncOk enc dat) (q : Q (.bl (!decide (a = b))) st) : Wp (cmpM .ne (enc a) (enc b) st) Q := o_neD (h.toD st 4 a) (h.toD st 4 b) (by rw [h.eqv]; exact q)
theorem o_eqL (h : EncOk enc dat) (hx : lstOf st x = some (xs.map enc)) (hy : lstOf st y = some (ys.map enc)) (q : Q (.bl (decide (xs = ys))) st) : Wp (cmpM .eq x y st) Q :=
  o_eqD (toDL h hx) (toDL h hy) (by simp only [PyData.eqv]; rw [eqvAll_enc h]; exact q)
theorem o_neL (h : EncOk enc dat) (hx : lstOf st x = some (xs.map enc)) (hy : lstOf st y = some (ys.map enc)) (q : Q (.bl (!decide (xs = ys))) st) : Wp (cmpM .ne x y st) Q :=
  o_neD (toDL h hx) (toDL h hy) (by simp only [PyData.eqv]; rw [eqvAll_enc h]; exact q)
theorem mem_any (h : EncOk enc dat) : (xs.map dat).any (fun e => PyData.eqv e (dat a)) = memB a xs := by
  rw [List.any_map, Bool.eq_iff_iff, List.any_eq_true, memB_iff]
  constructor
  · rintro ⟨z, hz, e⟩
    have e : PyData.eqv (dat z) (dat a) = true := e
    rw [h.eqv, decide_eq_true_eq] at e
    rw [← e]; exact hz
  · intro hz
    exact ⟨a, hz, by show PyData.eqv (dat a) (dat a) = true; rw [h.eqv]; simp⟩
theorem mapM_enc (h : EncOk enc dat) : (xs.map enc).mapM (toD st 9) = some (xs.map dat) := by
  rw [mapM_of (g := fun m => (toD st 9 m).getD .none) (fun y hy => by
    obtain ⟨a, _, rfl⟩ := List.mem_map.mp hy
    rw [h.toD st 4 a]
    rfl), List.map_map]
  congr 1
  exact List.map_congr_left fun a _ => by simp [h.toD st 4 a]
theorem lstOf_seq {st : Store} {y : MV} {ms : List MV} (h : lstOf st y = some ms) : seqOf st y = some ms ∧ isTup y = false := by
  cases y with
  | lst ys => exact ⟨h, rfl⟩
  | ref i => exact ⟨h, rfl⟩
  | _ => cases h
theorem o_memL (h : EncOk enc dat) (hy : lstOf st y = some (xs.map enc)) (q : Q (.bl (memB a xs)) st) : Wp (cmpM .mem (enc a) y st) Q := by
  obtain ⟨h1, h2⟩ := lstOf_seq hy
  refine ⟨_, st, ?_, q⟩
  simp only [cmpM, memM, h1, h2, Bool.not_false, Bool.true_or, chk_true, h.toD st 4 a, mapM_enc h, mem_any h]
theorem o_nmemL (h : EncOk enc dat) (hy : lstOf st y = some (xs.map enc)) (q : Q (.bl (!memB a xs)) st) : Wp (cmpM .nmem (enc a) y st) Q := by
  obtain ⟨h1, h2⟩ := lstOf_seq hy
  refine ⟨_, st, ?_, q⟩
  simp only [cmpM, memM, h1, h2, Bool.not_false, Bool.true_or, chk_true, h.toD st 4 a, mapM_enc h, mem_any h]
theorem o_memR {i : Int} {c : List Int} (q : Q (.bl (memB i c)) st) : Wp (cmpM .mem (.int i) (rowMV c) st) Q := by
  refine ⟨_, st, ?_, q⟩
  have h1 : seqOf st (rowMV c) = some (c.map MV.int) := rfl
  have h3 : (flat (.int i) && (c.map MV.int).all flat) = true := by
    rw [List.all_map]
    simp [flat, Function.comp_def]
  have h4 := encInt.toD st 4 i
  simp only [cmpM, memM, h1, h3, Bool.or_true, chk_true, h4, mapM_enc encInt, mem_any encInt]
theorem o_nmemR {i : Int} {c : List Int} (q : Q (.bl (!memB i c)) st) : Wp (cmpM .nmem (.int i) (rowMV c) st) Q := by
  refine ⟨_, st, ?_, q⟩
  have h1 : seqOf st (rowMV c) = some (c.map MV.int) := rfl
  have h3 : (flat (.int i) && (c.map MV.int).all flat) = true := by
    rw [List.all_map]
    simp [flat, Function.comp_def]
  have h4 := encInt.toD st 4 i
  simp only [cmpM, memM, h1, h3, Bool.or_true, chk_true, h4, mapM_enc encInt, mem_any encInt]
end
end
/-! ### comprehensions -/
section
variable {Φ : Phi} {env env' : Env} {st st' : Store} {Q : MV → Store → Prop} {N : Env → Store → Prop} {R : MV → Store → Prop} {i j : Nat} {m x y : MV} {a b c e : E} {es : Es} {k l : Int} {tg : Tg}
theorem filterMap_pf {α β : Type} {p : α → Bool} {f : α → β} {xs : List α} : xs.filterMap (fun a => if p a then some (f a) else none) = (xs.filter p).map f := by
  induction xs with
  | nil => rfl
  | cons x xs ih => cases h : p x <;> simp [h, ih]
theorem cloop_enc {α : Type} {lk : Locks} {g : MV → Store → Out (Option MV)} {enc : α → MV} {F : α → Option MV} (hl : held lk st = true) : ∀ {xs : List α}, (∀ a ∈ xs, g (enc a) st = .val (F a) st) → cloop lk g (xs.map enc) st = .val (xs.filterMap F) st
  | [], _ => by
    show cloop lk g [] st = _
    unfold cloop
    rw [hl]
    rfl
  | x :: r, h => by
    show cloop lk g (enc x :: r.map enc) st = _
    unfold cloop
    rw [hl, h x List.mem_cons_self]
    simp only [chk_true, Out.bind_val]
    rw [cloop_enc hl fun y hy => h y (List.mem_cons_of_mem _ hy)]
    simp only [Out.bind_val, List.filterMap_cons]
    cases F x <;> rfl
/-- [f(a) for a in xs if p(a)], whatever is walked -/
theorem w_compG {α : Type} {enc : α → MV} {it : It} {lk : Locks} {xs : List α} {p : α → Bool} {f : α → MV} (h : Wp (evi Φ it env st) fun q s => q = (lk, xs.map enc) ∧ s = st) (hb : xs.length ≤ big) (hl : held lk st = true)
    (ht : ∀ a ∈ xs, Wp (asgT tg (enc a) env st) fun env' s => s = st ∧ Wp (ev Φ c env' st) fun t s => t = .bl (p a) ∧ s = st ∧ (p a = true → Wp (ev Φ e env' st) fun y s => y = f a ∧ s = st)) (q : Q (.lst ((xs.filter p).map f)) st) : Wp (ev Φ (.comp e tg it c) env st) Q := by
  refine w_comp (h.mono ?_)
  rintro _ _ ⟨rfl, rfl⟩
  refine ⟨by rw [List.length_map]; exact hb, wp_eq (cloop_enc (F := fun a => if p a then some (f a) else none) hl fun a ha => Wp.eq (w_turn ((ht a ha).mono ?_))) ?_⟩
  · rintro env' _ ⟨rfl, h⟩
    refine h.mono ?_
    rintro _ _ ⟨rfl, rfl, h⟩
    refine ⟨_, rfl, fun hp => ?_, fun hp => ?_⟩
    · refine (h hp).mono ?_
      rintro _ _ ⟨rfl, rfl⟩
      rw [hp]
      exact ⟨rfl, rfl⟩
    · rw [hp]
      exact ⟨rfl, rfl⟩
  · rw [filterMap_pf]
    exact q
theorem filter_tt {α : Type} {xs : List α} : xs.filter (fun _ => true) = xs := List.filter_eq_self.mpr fun _ _ => rfl
/-- [f(a) for a in xs] -/
theorem w_compM {α : Type} {enc : α → MV} {it : It} {lk : Locks} {xs : List α} {f : α → MV} (h : Wp (evi Φ it env st) fun q s => q = (lk, xs.map enc) ∧ s = st) (hb : xs.length ≤ big) (hl : held lk st = true)
    (ht : ∀ a ∈ xs, Wp (asgT tg (enc a) env st) fun env' s => s = st ∧ Wp (ev Φ e env' st) fun y s => y = f a ∧ s = st) (q : Q (.lst (xs.map f)) st) : Wp (ev Φ (.comp e tg it (.cst (.bl true))) env st) Q :=
  w_compG (p := fun _ => true) h hb hl (fun a ha => (ht a ha).mono fun env' s ⟨h1, h2⟩ => ⟨h1, w_cst ⟨rfl, rfl, fun _ => h2⟩⟩) (by rw [filter_tt]; exact q)
/-! what is walked -/
theorem i_row {c : List Int} {a : E} (h : Wp (ev Φ a env st) fun x s => x = rowMV c ∧ s = st) : Wp (evi Φ (.ex a) env st) fun q s => q = ([], c.map MV.int) ∧ s = st := by
  refine e_ex (h.mono ?_)
  rintro _ _ ⟨rfl, rfl⟩
  exact ⟨c.map MV.int, rfl, pures_noLst pures_int, rfl, rfl⟩
theorem i_lst {xs : List MV} {a : E} (hn : noLsts xs = true) (h : Wp (ev Φ a env st) fun x s => x = .lst xs ∧ s = st) : Wp (evi Φ (.ex a) env st) fun q s => q = ([], xs) ∧ s = st := by
  refine e_ex (h.mono ?_)
  rintro _ _ ⟨rfl, rfl⟩
  exact ⟨xs, rfl, hn, rfl, rfl⟩
theorem i_tup {xs : List MV} {a : E} (hn : noLsts xs = true) (h : Wp (ev Φ a env st) fun x s => x = .tup xs ∧ s = st) : Wp (evi Φ (.ex a) env st) fun q s => q = ([], xs) ∧ s = st := by
  refine e_ex (h.mono ?_)
  rintro _ _ ⟨rfl, rfl⟩
  exact ⟨xs, rfl, hn, rfl, rfl⟩
theorem i_ref {xs : List MV} {v : Nat} (hn : noLsts xs = true) (hj : st[j]? = some (.lst xs)) (hv : env[v]? = some (some (.ref j))) : Wp (evi Φ (.ex (.var v)) env st) fun q s => q = ([(j, xs)], xs) ∧ s = st := by
  refine e_ex (w_var hv ⟨xs, by simp [seqOf, hj], hn, ?_, rfl⟩)
  simp [lockOf, hj]
theorem i_rng {a b : E} (h : Wp (ev Φ a env st) fun x s => x = .int k ∧ Wp (ev Φ b env s) fun y s => y = .int l ∧ s = st) (hk : -(2 ^ 62) ≤ k ∧ k < 2 ^ 62 ∧ -(2 ^ 62) ≤ l ∧ l < 2 ^ 62) : Wp (evi Φ (.rng a b) env st) fun q s => q = ([], (rngL k l).map MV.int) ∧ s = st := by
  refine e_rng (h.mono ?_)
  rintro _ s ⟨rfl, h⟩
  refine h.mono ?_
  rintro _ _ ⟨rfl, rfl⟩
  exact ⟨k, l, rfl, rfl, hk, by rw [range_L], rfl⟩
theorem e_zip {a b : E} {Q : Locks × List MV → Store → Prop} (h : Wp (ev Φ a env st) fun x s => Wp (ev Φ b env s) fun y s => (isTup x == isTup y) = true ∧ ∃ xs ys, seqOf s x = some xs ∧ seqOf s y = some ys ∧ noLsts xs = true ∧ noLsts ys = true ∧ Q (lockOf s x ++ lockOf s y, pairUp xs ys) s) : Wp (evi Φ (.zip a b) env st) Q := by
  refine w_bind (h.mono fun x s h => w_bind (h.mono ?_))
  rintro y s ⟨h0, xs, ys, h1, h2, h3, h4, q⟩
  refine Wp_chk.mpr ⟨h0, ?_⟩
  rw [h1, h2]
  exact Wp_chk.mpr ⟨by rw [h3, h4]; rfl, Wp_val.mpr q⟩
/-! ### calls that leave the store as it was, what they made aside -/
theorem call_lst {L : Nat → Option FDef} {d f : Nat} {vs : List MV} {st : Store} {fd : FDef} {xs : List MV} (hL : L f = some fd) (hl : vs.length = fd.np) (hv : noLsts vs = true) (hb : pureMs xs = true)
    (h : Ws (exs (call L d) fd.body (vs.map some ++ List.replicate (fd.ns - fd.np) none) st) (fun _ _ => False) (fun m st2 => ∃ ext, st2 = st ++ ext ∧ (m = .lst xs ∨ ∃ a, m = .ref a ∧ st.length ≤ a ∧ st2[a]? = some (.lst xs)))) : call L (d + 1) f vs st = .val (.lst xs) st := by
  refine Wp.eq (Wp_call hL hl ?_)
  rw [allocs_idp hv]
  refine h.mono ?_ ?_
  · intro _ _ z
    exact z.elim
  · rintro _ _ ⟨ext, rfl, rfl | ⟨a, rfl, ha, hx⟩⟩
    · rw [gcv_lst .refl (pures_belows hb)]
      exact Wp_val.mpr ⟨rfl, rfl⟩
    · rw [gcv_new .refl ha hx (pures_belows hb)]
      exact Wp_val.mpr ⟨rfl, rfl⟩
theorem call_val {L : Nat → Option FDef} {d f : Nat} {vs : List MV} {st : Store} {fd : FDef} {v : MV} (hL : L f = some fd) (hl : vs.length = fd.np) (hv : noLsts vs = true) (hb : pureM v = true)
    (h : Ws (exs (call L d) fd.body (vs.map some ++ List.replicate (fd.ns - fd.np) none) st) (fun _ st2 => v = .non ∧ ∃ ext, st2 = st ++ ext) (fun m st2 => m = v ∧ ∃ ext, st2 = st ++ ext)) : call L (d + 1) f vs st = .val v st := by
  refine Wp.eq (Wp_call hL hl ?_)
  rw [allocs_idp hv]
  refine h.mono ?_ ?_
  · rintro _ _ ⟨rfl, ext, rfl⟩
    rw [gcv_pure .refl (pure_below hb)]
    exact Wp_val.mpr ⟨rfl, rfl⟩
  · rintro _ _ ⟨rfl, ext, rfl⟩
    rw [gcv_pure .refl (pure_below hb)]
    exact Wp_val.mpr ⟨rfl, rfl⟩
/-! ### loops as folds -/
theorem floop_fold {α σ : Type} {lk : Locks} {tg : Tg} {b : Env → Store → SOut} {enc : α → MV} {I : σ → Env → Store → Prop} {step : σ → α → σ} (hh : ∀ s env st, I s env st → held lk st = true) : ∀ {xs : List α} {s : σ} {env : Env} {st : Store},
    (∀ x ∈ xs, ∀ s env st, I s env st → Wp (asgT tg (enc x) env st) fun env1 st1 => Ws (b env1 st1) (I (step s x)) R) → I s env st → (∀ env st, I (xs.foldl step s) env st → N env st) → Ws (floop lk tg b (xs.map enc) env st) N R
  | [], s, env, st, _, hp, k => by
    show Ws (floop lk tg b [] env st) N R
    unfold floop
    simp only [Ws_bindS, Wp_chk, Wp_val, Ws_next]
    exact ⟨hh s env st hp, k _ _ hp⟩
  | x :: r, s, env, st, h, hp, k => by
    show Ws (floop lk tg b (enc x :: r.map enc) env st) N R
    unfold floop
    simp only [Ws_bindS, Wp_chk, Ws_seq]
    exact ⟨hh s env st hp, (h x List.mem_cons_self s env st hp).mono fun env1 st1 q => q.mono (fun env2 st2 q2 => floop_fold hh (fun y hy => h y (List.mem_cons_of_mem _ hy)) q2 k) fun _ _ z => z⟩
/-! cells of a longer store -/
theorem cell_app {c d : Cell} (h : st[k.toNat]? = some c) : (st ++ [d])[k.toNat]? = some c := by
  rw [List.getElem?_append_left (List.getElem?_eq_some_iff.mp h).1]
  exact h
theorem cellA {c d : Cell} {n : Nat} (h : st[n]? = some c) : (st ++ [d])[n]? = some c := by
  rw [List.getElem?_append_left (List.getElem?_eq_some_iff.mp h).1]
  exact h
theorem cellN {c : Cell} : (st ++ [c])[st.length]? = some c := by simp
theorem lstR {n : Nat} {xs : List MV} (h : st[n]? = some (.lst xs)) : lstOf st (.ref n) = some xs := by simp [lstOf, h]
theorem lstL {xs : List MV} : lstOf st (.lst xs) = some xs := rfl
/-! values stored, more built-ins -/
theorem h_row {N : Env → Store → Prop} {r : List Int} (h : env.set i (some (rowMV r)) = env') (q : N env' st) : Wp (asgT (.nm i) (rowMV r) env st) N := h_pure (pure_noLst (row_pure r)) h q
theorem b_tupL {xs : List MV} (q : Q (.tup xs) st) : Wp (bltM .tuple [.lst xs] st) Q := ⟨_, st, rfl, q⟩
theorem b_sumR {r : List Int} (q : Q (.int r.sum) st) : Wp (bltM .sum [rowMV r] st) Q := ⟨_, st, by simp [bltM, seqOf, rowMV, intsOf_mp], q⟩
theorem b_sumL {x : MV} {r : List Int} (hx : lstOf st x = some (r.map MV.int)) (q : Q (.int r.sum) st) : Wp (bltM .sum [x] st) Q := ⟨_, st, by simp [bltM, (lstOf_seq hx).1, intsOf_mp], q⟩
theorem b_lenRow {r : List Int} (q : Q (.int r.length) st) : Wp (bltM .len [rowMV r] st) Q := ⟨.int (r.map MV.int).length, st, rfl, by rw [List.length_map]; exact q⟩
theorem b_intB {k : Bool} (q : Q (.int (if k then 1 else 0)) st) : Wp (bltM .int [.bl k] st) Q := ⟨_, st, rfl, q⟩
theorem b_lenLs {x : MV} {xs : List MV} (hx : lstOf st x = some xs) (q : Q (.int xs.length) st) : Wp (bltM .len [x] st) Q := by
  refine ⟨_, st, ?_, q⟩
  have h := (lstOf_seq hx).1
  cases x with
  | lst ys => show lenM (.lst ys) st = _; simp only [lenM, h]
  | ref i => show lenM (.ref i) st = _; simp only [lenM, h]
  | _ => cases hx
theorem u_row {r : List Int} {k : Int} {n : Int} (h0 : 0 ≤ k) (h : r[k.toNat]? = some n) (q : Q (.int n) st) : Wp (subM (rowMV r) (.int k) st) Q := u_tup (m := .int n) (by simp [atM, h0, h]) q
end
end QR

set_option Elab.async false
set_option linter.all false
set_option maxRecDepth 100000
set_option maxHeartbeats 4000000
/-! QG2: groups, coalitions: what the shared defs do. -/
namespace QR
open PySem
local macro_rules | `(tactic| walk_at "q") => `(tactic| (repeat' (first
  | with_reducible refine z_cons ?_ | with_reducible refine z_asg ?_ | with_reducible refine z_ret ?_ | with_reducible refine z_iff ?_ | with_reducible refine z_nil ?_ | with_reducible refine z_exp ?_ | with_reducible refine z_set ?_ | with_reducible refine z_pass ?_
  | with_reducible refine w_cst ?_ | ((with_reducible apply w_var); rfl) | with_reducible refine w_bin ?_ | with_reducible refine w_cmp ?_ | with_reducible refine w_not ?_ | with_reducible refine w_and ?_ | with_reducible refine w_or ?_ | with_reducible refine w_chn ?_ | with_reducible refine w_ite ?_ | with_reducible refine w_neg ?_
  | with_reducible refine w_call ?_ | with_reducible refine w_blt ?_ | with_reducible refine w_tup ?_ | with_reducible refine w_lst ?_ | with_reducible refine w_sub ?_ | with_reducible refine w_sli ?_ | with_reducible refine w_nil ?_ | with_reducible refine w_cons ?_
  | with_reducible refine o_add ?_ | with_reducible refine o_sub ?_ | ((with_reducible apply o_mulR); decide) | ((with_reducible apply o_mulL); decide) | with_reducible refine o_mul ?_ ?_ | ((with_reducible apply o_fdiv); (first | decide | assumption | omega)) | ((with_reducible apply o_mod); (first | decide | assumption | omega))
  | with_reducible refine o_lt ?_ | with_reducible refine o_le ?_ | with_reducible refine o_gt ?_ | with_reducible refine o_ge ?_ | with_reducible refine o_isn ?_ | with_reducible refine o_is ?_ | with_reducible refine o_isb ?_ | with_reducible refine o_isnb ?_ | with_reducible refine o_eqI ?_ | with_reducible refine o_neI ?_ | with_reducible refine o_eqS ?_ | with_reducible refine o_neS ?_ | with_reducible refine o_eqB ?_ | with_reducible refine o_neB ?_
  | with_reducible refine b_lenRow ?_ | with_reducible refine b_sumR ?_ | with_reducible refine b_intB ?_ | with_reducible refine b_tupL ?_ | with_reducible refine o_memR ?_ | with_reducible refine o_nmemR ?_ | ((with_reducible apply h_row); (focus ((try simp only [List.set_cons_succ, List.set_cons_zero, asgs]); rfl)))
  | with_reducible refine b_int ?_ | with_reducible refine b_abs ?_ | with_reducible refine b_min ?_ | with_reducible refine b_max ?_ | with_reducible refine b_lenT ?_ | with_reducible refine b_lenL ?_ | with_reducible refine b_lenO ?_ | ((with_reducible apply b_lenR); assumption) | ((with_reducible apply b_isi); rfl)
  | ((with_reducible apply t_set); (first | assumption | exact List.getElem?_set_self (by assumption)); rfl; (first | rfl | assumption)) | ((with_reducible apply u_tup); rfl) | ((with_reducible apply u_ref); (first | assumption | exact List.getElem?_set_self (by assumption)); rfl) | ((with_reducible apply u_lst); rfl)
  | ((with_reducible apply h_int); (focus ((try simp only [List.set_cons_succ, List.set_cons_zero, asgs]); rfl))) | ((with_reducible apply h_bl); (focus ((try simp only [List.set_cons_succ, List.set_cons_zero, asgs]); rfl))) | ((with_reducible apply h_str); (focus ((try simp only [List.set_cons_succ, List.set_cons_zero, asgs]); rfl))) | ((with_reducible apply h_ref); (focus ((try simp only [List.set_cons_succ, List.set_cons_zero, asgs]); rfl))) | ((with_reducible apply h_non); (focus ((try simp only [List.set_cons_succ, List.set_cons_zero, asgs]); rfl))) | ((with_reducible apply h_tup); rfl; (first | (focus (simp [noLsts, noLst]; done)) | assumption); (focus ((try simp only [List.set_cons_succ, List.set_cons_zero, asgs]); rfl))) | ((with_reducible apply h_lst); (first | (focus (simp [noLsts, noLst]; done)) | assumption); (focus ((try simp only [List.set_cons_succ, List.set_cons_zero, asgs]); rfl))) | ((with_reducible apply h_pure); (first | (focus (simp [noLsts, noLst]; done)) | assumption); (focus ((try simp only [List.set_cons_succ, List.set_cons_zero, asgs]); rfl)))
  | with_reducible refine w_turn ?_
  | ((with_reducible refine ⟨_, rfl, (fun h => ?_), (fun h => ?_)⟩) <;> first | exact absurd h (by decide +kernel) | (exfalso; simp at h; done) | (exfalso; simp at h; omega) | skip)
  | with_reducible rfl
  | (with_reducible refine ⟨True.intro, ?_⟩)
  | (with_reducible refine ⟨rfl, ?_⟩)
  | (with_reducible refine ⟨_, rfl, ?_⟩)
  | fail)))

theorem floop_pre {α : Type} {lk : Locks} {tg : Tg} {b : Env → Store → SOut} {enc : α → MV} {I : List α → Env → Store → Prop} {all : List α} {N : Env → Store → Prop} {R : MV → Store → Prop} (hh : ∀ s env st, I s env st → held lk st = true)
    (h : ∀ pre x post, all = pre ++ x :: post → ∀ env st, I pre env st → Wp (asgT tg (enc x) env st) fun env1 st1 => Ws (b env1 st1) (I (pre ++ [x])) R) : ∀ {post pre : List α} {env : Env} {st : Store}, all = pre ++ post → I pre env st → (∀ env st, I all env st → N env st) → Ws (floop lk tg b (post.map enc) env st) N R
  | [], pre, env, st, e, hp, k => by
    show Ws (floop lk tg b [] env st) N R
    unfold floop
    simp only [Ws_bindS, Wp_chk, Wp_val, Ws_next]
    rw [List.append_nil] at e
    rw [← e] at hp
    exact ⟨hh _ env st hp, k _ _ hp⟩
  | x :: r, pre, env, st, e, hp, k => by
    show Ws (floop lk tg b (enc x :: r.map enc) env st) N R
    unfold floop
    simp only [Ws_bindS, Wp_chk, Ws_seq]
    exact ⟨hh _ env st hp, (h pre x r e env st hp).mono fun env1 st1 q => q.mono (fun env2 st2 q2 => floop_pre hh h (by rw [e]; simp) q2 k) fun _ _ z => z⟩
/-! ### groups -/
structure okG (zs : List Int) : Prop where
  l1 : 1 ≤ zs.length
  l7 : zs.length ≤ 7
  pos : ∀ z ∈ zs, 1 ≤ z ∧ z ≤ 40
  sum : zs.sum ≤ 40
def restL : List Str := ["no", "blank", "away"]
theorem rest_cases {x : Str} (h : x ∈ restL) : x = "no" ∨ x = "blank" ∨ x = "away" := by simpa [restL] using h
def at0 (zs : List Int) (i : Int) : Int := zs.getD i.toNat 0
def cosum (zs c : List Int) : Int := (c.map (at0 zs)).sum
def winY (r : List Cd) (m : Int) (rs : Str) (y : Int) : Bool := passR r m y (if rs = ("no" : Str) then m - y else 0) (if rs = ("blank" : Str) then m - y else 0)
def winC (r : List Cd) (zs : List Int) (rs : Str) (c : List Int) : Bool := winY r zs.sum rs (cosum zs c)
/-- indices of so many groups -/
def okI (n : Nat) (c : List Int) : Prop := ∀ i ∈ c, 0 ≤ i ∧ i < n
def dblS (f : List (List Int)) (i : Int) : List (List Int) := f ++ f.map fun c => c ++ [i]
def dbl (is : List Int) : List (List Int) := is.foldl dblS [[]]
def coals (n : Int) : List (List Int) := isort lexLe (dbl (rngL 0 n))
def less (c : List Int) (i : Int) : List Int := c.filter fun j => !decide (j = i)
def wonL (r : List Cd) (zs : List Int) (rs : Str) : List (List Int) := (coals zs.length).filter (winC r zs rs)
def leastL (r : List Cd) (zs : List Int) (rs : Str) : List (List Int) := (wonL r zs rs).filter fun c => !(c.any fun i => memB (less c i) (wonL r zs rs))
def swingP (won : List (List Int)) (i : Int) (c : List Int) : Bool := memB i c && !memB (less c i) won
def swingOf (r : List Cd) (zs : List Int) (rs : Str) (i : Int) : List (List Int) := (wonL r zs rs).filter (swingP (wonL r zs rs) i)
def swingL (r : List Cd) (zs : List Int) (rs : Str) : List Int := (rngL 0 zs.length).map fun i => ((swingOf r zs rs i).length : Int)
def vetoL (r : List Cd) (zs : List Int) (rs : Str) : List Int := (rngL 0 zs.length).filter fun i => !winC r zs rs (less (rngL 0 zs.length) i)
theorem dbl_snoc {is : List Int} {i : Int} : dbl (is ++ [i]) = dblS (dbl is) i := by simp [dbl]
theorem dbl_len {is : List Int} : (dbl is).length = 2 ^ is.length := by
  suffices h : ∀ (is : List Int) (f : List (List Int)), (is.foldl dblS f).length = f.length * 2 ^ is.length by simpa [dbl] using h is [[]]
  intro is
  induction is with
  | nil => intro f; simp
  | cons i is ih =>
    intro f
    rw [List.foldl_cons, ih, dblS, List.length_append, List.length_map, List.length_cons, Nat.pow_succ]
    rw [← Nat.mul_two, Nat.mul_assoc, Nat.mul_comm 2]
theorem dbl_head {is : List Int} : ∃ t, dbl is = [] :: t := by
  suffices h : ∀ (is : List Int) (f t : List (List Int)), f = [] :: t → ∃ t, is.foldl dblS f = [] :: t from h is [[]] [] rfl
  intro is
  induction is with
  | nil => intro f t e; exact ⟨t, e⟩
  | cons i is ih =>
    intro f t e
    rw [List.foldl_cons]
    exact ih _ (t ++ f.map fun c => c ++ [i]) (by rw [dblS, e]; rfl)
theorem ins_perm' {α : Type} (le : α → α → Bool) (x : α) : ∀ l : List α, (ins le x l).Perm (x :: l)
  | [] => List.Perm.refl _
  | y :: ys => by
    unfold ins
    split
    · exact List.Perm.refl _
    · exact ((ins_perm' le x ys).cons y).trans (List.Perm.swap x y ys)
theorem isort_perm' {α : Type} (le : α → α → Bool) : ∀ l : List α, (isort le l).Perm l
  | [] => List.Perm.refl _
  | x :: xs => (ins_perm' le x _).trans ((isort_perm' le xs).cons x)
theorem coals_len {n : Int} : (coals n).length = 2 ^ n.toNat := by
  rw [coals, (isort_perm' _ _).length_eq, dbl_len, rngL_len]
  simp
theorem pow7 {n : Nat} (h : n ≤ 7) : 2 ^ n ≤ 128 := by
  have := Nat.pow_le_pow_right (n := 2) (by decide) h
  simpa using this
theorem coals_le {n : Int} (h : n ≤ 7) : (coals n).length ≤ 128 := by rw [coals_len]; exact pow7 (by omega)
theorem dbl_mem {is c : List Int} (h : c ∈ dbl is) : c.Sublist is := by
  suffices k : ∀ (is : List Int) (f : List (List Int)) (pre : List Int), (∀ c ∈ f, c.Sublist pre) → ∀ c ∈ is.foldl dblS f, c.Sublist (pre ++ is) by simpa using k is [[]] [] (by simp) c h
  intro is
  induction is with
  | nil => intro f pre hf c hc; simpa using hf c hc
  | cons i is ih =>
    intro f pre hf c hc
    rw [List.foldl_cons] at hc
    have := ih _ (pre ++ [i]) (fun c hc => ?_) c hc
    · simpa using this
    · rw [dblS] at hc
      rcases List.mem_append.mp hc with hc | hc
      · exact (hf c hc).trans (List.sublist_append_left _ _)
      · obtain ⟨c', hc', rfl⟩ := List.mem_map.mp hc
        exact (hf c' hc').append (List.Sublist.refl _)
theorem mem_dbl {is c : List Int} (h : c.Sublist is) : c ∈ dbl is := by
  suffices k : ∀ (is : List Int) (f : List (List Int)) (pre c : List Int), pre ∈ f → c.Sublist is → pre ++ c ∈ is.foldl dblS f from k is [[]] [] c (by simp) h
  intro is
  induction is with
  | nil =>
    intro f pre c hp hc
    have : c = [] := List.sublist_nil.mp hc
    subst this
    simpa using hp
  | cons i is ih =>
    intro f pre c hp hc
    rw [List.foldl_cons]
    cases hc with
    | cons _ hc => exact ih _ pre c (by rw [dblS]; exact List.mem_append_left _ hp) hc
    | cons_cons _ hc =>
      rename_i c
      have := ih (dblS f i) (pre ++ [i]) c (by rw [dblS]; exact List.mem_append_right _ (List.mem_map.mpr ⟨pre, hp, rfl⟩)) hc
      simpa using this
/-- a coalition: a part of all groups, in their order -/
theorem coals_mem {n : Int} {c : List Int} : c ∈ coals n ↔ c.Sublist (rngL 0 n) := by
  rw [coals, (isort_perm' _ _).mem_iff]
  exact ⟨dbl_mem, mem_dbl⟩
theorem co_okI {n : Nat} {c : List Int} (h : c ∈ coals n) : okI n c := fun i hi => by
  have := rngL_mem.mp ((coals_mem.mp h).subset hi)
  omega
theorem co_len {n : Nat} {c : List Int} (h : c ∈ coals n) : c.length ≤ n := by
  have := (coals_mem.mp h).length_le
  rw [rngL_len] at this
  omega
theorem less_okI {n : Nat} {c : List Int} {i : Int} (h : okI n c) : okI n (less c i) := fun j hj => h j ((List.mem_filter.mp hj).1)
theorem less_co {n : Int} {c : List Int} {i : Int} (h : c ∈ coals n) : less c i ∈ coals n := coals_mem.mpr (List.Sublist.trans (List.filter_sublist) (coals_mem.mp h))
theorem won_co {r : List Cd} {zs : List Int} {rs : Str} {c : List Int} (h : c ∈ wonL r zs rs) : c ∈ coals zs.length := (List.mem_filter.mp h).1
theorem won_le {r : List Cd} {zs : List Int} {rs : Str} (h : zs.length ≤ 7) : (wonL r zs rs).length ≤ 128 := Nat.le_trans (List.length_filter_le _ _) (coals_le (by omega))
theorem all_rng {n : Nat} : rngL 0 n ∈ coals n := coals_mem.mpr (List.Sublist.refl _)
section
variable {X : Nat → Option FDef} {d i j : Nat} {st : Store} {r o : List Cd} {zs c : List Int} {rs : Str} {k : Int}
theorem allT {p : Int → Bool} {zs : List Int} (h : ∀ z ∈ zs, p z = true) : ((zs.map p).all id) = true := by
  rw [List.all_map, List.all_eq_true]
  exact h
theorem o_addL {x y : MV} {xs ys : List MV} {Q : MV → Store → Prop} (hx : lstOf st x = some xs) (hy : lstOf st y = some ys) (hb : xs.length + ys.length ≤ big) (q : Q (.lst (xs ++ ys)) st) : Wp (binM .add x y st) Q := by
  refine ⟨_, st, ?_, q⟩
  have e : addM x y st = (match lstOf st x, lstOf st y with
    | some xs, some ys => chk (decide (xs.length + ys.length ≤ big)) (Out.val (MV.lst (xs ++ ys)) st)
    | _, _ => addB x y st) := by
    cases x with
    | lst _ => cases y <;> first | rfl | cases hy
    | ref _ => cases y <;> first | rfl | cases hy
    | _ => cases hx
  show addM x y st = _
  rw [e, hx, hy]
  simp only [decide_eq_true hb, chk_true]
theorem o_nmemRest {x : Str} {Q : MV → Store → Prop} (h : x ∈ restL) (q : Q (.bl false) st) : Wp (cmpM .nmem (.str x) (.tup [.str "no", .str "blank", .str "away"]) st) Q := by
  refine ⟨_, st, ?_, q⟩
  rcases rest_cases h with rfl | rfl | rfl <;> rfl
theorem need_game_ok (hr : okR r) (hg : okG zs) (hs : rs ∈ restL) : call (lib X) (d + 5) 70 [encR r, rowMV zs, .str rs] st = .val .non st := by
  refine call_val (fd := f_need_game) rfl rfl (by simp [noLsts, noLst, pure_noLst (encR_pure r), pure_noLst (row_pure zs)]) rfl ?_
  simp only [f_need_game, List.map_cons, List.map_nil, List.cons_append, List.nil_append, List.reduceReplicate, Nat.reduceSub]
  have h1 := hg.l1
  have h7 := hg.l7
  have hsum := hg.sum
  walk_at "q"
  refine wp_eq (need_rule_ok hr) ?_
  walk_at "q"
  refine w_compM (enc := MV.int) (f := fun z => .bl (btw (.int z) 1 40)) (i_row (w_var rfl ⟨rfl, rfl⟩)) (big_ok (by omega)) rfl (fun z hz => ?_) ?_
  · walk_at "q"
    exact wp_eq (is_between_ok rfl) ⟨rfl, rfl⟩
  walk_at "q"
  rw [show (zs.map fun z => MV.bl (btw (.int z) 1 40)) = (zs.map fun z => btw (.int z) 1 40).map MV.bl by rw [List.map_map]; rfl]
  refine b_all ?_
  rw [allT fun z hz => btw_int (hg.pos z hz).1 (hg.pos z hz).2]
  walk_at "q"
  refine o_nmemRest hs ?_
  walk_at "q"
  exact ⟨[], by simp⟩
theorem sum_map_int {α : Type} {f : α → Int} {xs : List α} : (xs.map fun i => MV.int (f i)) = (xs.map f).map MV.int := by rw [List.map_map]; rfl
theorem cosum_get {i : Int} (h0 : 0 ≤ i) (h1 : i < zs.length) : zs[i.toNat]? = some (at0 zs i) := by
  have : i.toNat < zs.length := by omega
  rw [at0, List.getD_eq_getElem?_getD, List.getElem?_eq_getElem this]
  rfl
theorem does_win_ok (hr : okR r) (hc : okI zs.length c) (hl : c.length ≤ 1000) : call (lib X) (d + 4) 71 [encR r, rowMV zs, .str rs, rowMV c] st = .val (.bl (winC r zs rs c)) st := by
  refine call_val (fd := f_does_win) rfl rfl (by simp [noLsts, noLst, pure_noLst (encR_pure r), pure_noLst (row_pure _)]) rfl ?_
  simp only [f_does_win, List.map_cons, List.map_nil, List.cons_append, List.nil_append, List.reduceReplicate, Nat.reduceSub]
  walk_at "q"
  refine w_compM (enc := MV.int) (f := fun i => .int (at0 zs i)) (i_row (w_var rfl ⟨rfl, rfl⟩)) (big_ok (by omega)) rfl (fun i hi => ?_) ?_
  · walk_at "q"
    exact u_row (hc i hi).1 (cosum_get (hc i hi).1 (hc i hi).2) ⟨rfl, rfl⟩
  walk_at "q"
  refine b_sumL (r := c.map (at0 zs)) (by rw [sum_map_int]; rfl) ?_
  walk_at "q"
  all_goals
    refine wp_eq (is_passed_ok (m := zs.sum) hr) ?_
    refine ⟨?_, [], by simp⟩
    rename_i h1 h2
    simp only [decide_eq_true_eq, decide_eq_false_iff_not] at h1 h2
    rw [winC, winY]
    first | rw [if_pos h1] | rw [if_neg h1]
    first | rw [if_pos h2] | rw [if_neg h2]
    rfl
theorem all_coalitions_gen {fd : FDef} {L : Nat → Option FDef} {id : Nat} {v : MV} {n : Nat} {e : E} (hn : n ≤ 7) (hb : fd = ⟨1, 4, .cons (.asg (.nm 1) (.lst (.cons (.tup (.nil)) .nil))) (.cons (.for (.nm 2) (.rng (.cst (.int 0)) e) (b1_law_coalitions)) (.cons (.ret (.blt .sorted (.cons (.var 1) .nil))) .nil))⟩)
    (hL : L id = some fd) (hv : pureM v = true) (he : ∀ env st Φ, env[0]? = some (some v) → Wp (ev Φ e env st) fun y s => y = .int n ∧ s = st) : call L (d + 1) id [v] st = .val (.lst ((coals n).map rowMV)) st := by
  subst hb
  refine call_lst hL rfl (by simp [noLsts, pure_noLst hv]) (encRow.pures _) ?_
  simp only [List.map_cons, List.map_nil, List.cons_append, List.nil_append, List.reduceReplicate, Nat.reduceSub]
  walk_at "q"
  refine z_for ?_
  refine Wp.mono (i_rng (k := 0) (l := n) (w_cst ⟨rfl, he _ _ _ rfl⟩) (by omega)) ?_
  rintro _ _ ⟨rfl, rfl⟩
  refine floop_pre (all := rngL 0 n) (pre := []) (I := fun pre env s => ∃ (a : Nat) (o2 o3 : Option MV) (ext : Store), env = [some v, some (.ref a), o2, o3] ∧ s = st ++ ext ∧ st.length ≤ a ∧ s[a]? = some (Cell.lst ((dbl pre).map rowMV))) (fun _ _ _ _ => rfl) (fun pre x post e env s h => ?_) rfl ⟨st.length, none, none, _, rfl, rfl, Nat.le_refl _, by simp [dbl, rowMV]⟩ ?_
  · obtain ⟨a, o2, o3, ext, rfl, rfl, ha, hs⟩ := h
    have hpl : pre.length < 7 := by
      have := congrArg List.length e
      rw [rngL_len] at this
      simp at this
      omega
    have hdl : (dbl pre).length ≤ 128 := by rw [dbl_len]; exact pow7 (by omega)
    unfold b1_law_coalitions
    walk_at "q"
    refine w_compM (enc := rowMV) (f := fun c => rowMV (c ++ [x])) (i_ref (encRow.noLsts _) hs rfl) (big_ok (by omega)) (held_ref hs) (fun c hc => ?_) ?_
    · refine h_row (by simp only [List.set_cons_succ, List.set_cons_zero]; rfl) ⟨rfl, ?_⟩
      walk_at "q"
      refine o_addT (big_ok ?_) ⟨by simp [rowMV], rfl⟩
      have := (dbl_mem hc).length_le
      simp
      omega
    refine o_addL (xs := (dbl pre).map rowMV) (ys := (dbl pre).map fun c => rowMV (c ++ [x])) (lstR hs) rfl (big_ok (by simp; omega)) ?_
    rw [show ((dbl pre).map rowMV) ++ ((dbl pre).map fun c => rowMV (c ++ [x])) = (dblS (dbl pre) x).map rowMV by simp [dblS, List.map_append, List.map_map, Function.comp_def]]
    walk_at "q"
    refine h_lst (encRow.noLsts _) (by simp only [List.set_cons_succ, List.set_cons_zero]; rfl) ?_
    walk_at "q"
    refine ⟨_, _, _, ext ++ [Cell.lst ((dblS (dbl pre) x).map rowMV)], rfl, by simp, ?_, by rw [dbl_snoc]; exact cellN⟩
    simp
  · rintro env s ⟨a, o2, o3, ext, rfl, rfl, ha, hs⟩
    walk_at "q"
    obtain ⟨t, ht⟩ := dbl_head (is := rngL 0 n)
    refine wp_eq (v := MV.lst ((coals n).map rowMV)) (st := st ++ ext) ?_ ⟨ext, rfl, .inl rfl⟩
    have hq : seqOf (st ++ ext) (.ref a) = some ((dbl (rngL 0 n)).map rowMV) := (lstOf_seq (lstR hs)).1
    simp only [bltM, hq, isTup]
    unfold sortM
    have h1 : intsOf ((dbl (rngL 0 n)).map rowMV) = none := by rw [ht]; rfl
    have h2 : rowsOf ((dbl (rngL 0 n)).map rowMV) = some (dbl (rngL 0 n)) := by
      generalize dbl (rngL 0 n) = l
      induction l with
      | nil => rfl
      | cons c l ih =>
        show ((intsOf (c.map MV.int)).bind fun i => (rowsOf (l.map rowMV)).map (i :: ·)) = _
        rw [intsOf_mp, ih]
        rfl
    rw [h1]
    simp only [h2]
    have h3 : rowsOk (dbl (rngL 0 n)) = true := by rw [ht]; rfl
    rw [h3]
    rfl
theorem law_coalitions_ok {n : Nat} (hn : n ≤ 7) : call (lib X) (d + 1) 74 [.int n] st = .val (.lst ((coals n).map rowMV)) st :=
  all_coalitions_gen (e := .var 0) hn rfl rfl rfl fun env st Φ h => w_var h ⟨rfl, rfl⟩
theorem all_coalitions_ok (hg : zs.length ≤ 7) : call (lib X) (d + 1) 76 [rowMV zs] st = .val (.lst ((coals zs.length).map rowMV)) st :=
  all_coalitions_gen (fd := f_all_coalitions) (e := .blt .len (.cons (.var 0) .nil)) hg rfl rfl (row_pure zs) fun env st Φ h => w_blt (w_cons (w_var h (w_nil (b_lenRow ⟨rfl, rfl⟩))))
end
end QR

set_option Elab.async false
set_option linter.all false
set_option maxRecDepth 100000
set_option maxHeartbeats 4000000
/-! QG3: groups: what the shared defs do. -/
namespace QR
open PySem
local macro_rules | `(tactic| walk_at "q") => `(tactic| (repeat' (first
  | with_reducible refine z_cons ?_ | with_reducible refine z_asg ?_ | with_reducible refine z_ret ?_ | with_reducible refine z_iff ?_ | with_reducible refine z_nil ?_ | with_reducible refine z_exp ?_ | with_reducible refine z_set ?_ | with_reducible refine z_pass ?_
  | with_reducible refine w_cst ?_ | ((with_reducible apply w_var); rfl) | with_reducible refine w_bin ?_ | with_reducible refine w_cmp ?_ | with_reducible refine w_not ?_ | with_reducible refine w_and ?_ | with_reducible refine w_or ?_ | with_reducible refine w_chn ?_ | with_reducible refine w_ite ?_ | with_reducible refine w_neg ?_
  | with_reducible refine w_call ?_ | with_reducible refine w_blt ?_ | with_reducible refine w_tup ?_ | with_reducible refine w_lst ?_ | with_reducible refine w_sub ?_ | with_reducible refine w_sli ?_ | with_reducible refine w_nil ?_ | with_reducible refine w_cons ?_
  | with_reducible refine o_add ?_ | with_reducible refine o_sub ?_ | ((with_reducible apply o_mulR); decide) | ((with_reducible apply o_mulL); decide) | with_reducible refine o_mul ?_ ?_ | ((with_reducible apply o_fdiv); (first | decide | assumption | omega)) | ((with_reducible apply o_mod); (first | decide | assumption | omega))
  | with_reducible refine o_lt ?_ | with_reducible refine o_le ?_ | with_reducible refine o_gt ?_ | with_reducible refine o_ge ?_ | with_reducible refine o_isn ?_ | with_reducible refine o_is ?_ | with_reducible refine o_isb ?_ | with_reducible refine o_isnb ?_ | with_reducible refine o_eqI ?_ | with_reducible refine o_neI ?_ | with_reducible refine o_eqS ?_ | with_reducible refine o_neS ?_ | with_reducible refine o_eqB ?_ | with_reducible refine o_neB ?_
  | with_reducible refine b_lenRow ?_ | with_reducible refine b_sumR ?_ | with_reducible refine b_intB ?_ | with_reducible refine b_tupL ?_ | with_reducible refine o_memR ?_ | with_reducible refine o_nmemR ?_ | ((with_reducible apply h_row); (focus ((try simp only [List.set_cons_succ, List.set_cons_zero, asgs]); rfl)))
  | with_reducible refine b_int ?_ | with_reducible refine b_abs ?_ | with_reducible refine b_min ?_ | with_reducible refine b_max ?_ | with_reducible refine b_lenT ?_ | with_reducible refine b_lenL ?_ | with_reducible refine b_lenO ?_ | ((with_reducible apply b_lenR); assumption) | ((with_reducible apply b_isi); rfl)
  | ((with_reducible apply t_set); (first | assumption | exact List.getElem?_set_self (by assumption)); rfl; (first | rfl | assumption)) | ((with_reducible apply u_tup); rfl) | ((with_reducible apply u_ref); (first | assumption | exact List.getElem?_set_self (by assumption)); rfl) | ((with_reducible apply u_lst); rfl)
  | ((with_reducible apply h_int); (focus ((try simp only [List.set_cons_succ, List.set_cons_zero, asgs]); rfl))) | ((with_reducible apply h_bl); (focus ((try simp only [List.set_cons_succ, List.set_cons_zero, asgs]); rfl))) | ((with_reducible apply h_str); (focus ((try simp only [List.set_cons_succ, List.set_cons_zero, asgs]); rfl))) | ((with_reducible apply h_ref); (focus ((try simp only [List.set_cons_succ, List.set_cons_zero, asgs]); rfl))) | ((with_reducible apply h_non); (focus ((try simp only [List.set_cons_succ, List.set_cons_zero, asgs]); rfl))) | ((with_reducible apply h_tup); rfl; (first | (focus (simp [noLsts, noLst]; done)) | assumption); (focus ((try simp only [List.set_cons_succ, List.set_cons_zero, asgs]); rfl))) | ((with_reducible apply h_lst); (first | (focus (simp [noLsts, noLst]; done)) | assumption); (focus ((try simp only [List.set_cons_succ, List.set_cons_zero, asgs]); rfl))) | ((with_reducible apply h_pure); (first | (focus (simp [noLsts, noLst]; done)) | assumption); (focus ((try simp only [List.set_cons_succ, List.set_cons_zero, asgs]); rfl)))
  | with_reducible refine w_turn ?_
  | ((with_reducible refine ⟨_, rfl, (fun h => ?_), (fun h => ?_)⟩) <;> first | exact absurd h (by decide +kernel) | (exfalso; simp at h; done) | (exfalso; simp at h; omega) | skip)
  | with_reducible rfl
  | (with_reducible refine ⟨True.intro, ?_⟩)
  | (with_reducible refine ⟨rfl, ?_⟩)
  | (with_reducible refine ⟨_, rfl, ?_⟩)
  | fail)))

section
variable {X : Nat → Option FDef} {d i j : Nat} {st : Store} {r o : List Cd} {zs c : List Int} {rs : Str} {k : Int}
theorem pairUp_row : ∀ {c e : List Int}, pairUp (c.map MV.int) (e.map MV.int) = (c.zip e).map encP
  | [], _ => rfl
  | _ :: _, [] => rfl
  | x :: c, y :: e => by
    show MV.tup [.int x, .int y] :: pairUp (c.map MV.int) (e.map MV.int) = _
    rw [pairUp_row]
    rfl
theorem asc_zip : ∀ {c : List Int}, c.Pairwise (· < ·) → ∀ p ∈ c.zip (c.drop 1), p.1 < p.2
  | [], _, p, h => by simp at h
  | [x], _, p, h => by simp at h
  | x :: y :: c, hp, p, h => by
    have h : p ∈ (x, y) :: (y :: c).zip ((y :: c).drop 1) := h
    rcases List.mem_cons.mp h with e | h
    · rw [e]
      exact (List.pairwise_cons.mp hp).1 y List.mem_cons_self
    · exact asc_zip (List.pairwise_cons.mp hp).2 p h
theorem wins_ok (hr : okR r) (hg : okG zs) (hs : rs ∈ restL) (hc : c ∈ coals zs.length) : call (lib X) (d + 6) 72 [encR r, rowMV zs, .str rs, rowMV c] st = .val (.bl (winC r zs rs c)) st := by
  refine call_val (fd := f_wins) rfl rfl (by simp [noLsts, noLst, pure_noLst (encR_pure r), pure_noLst (row_pure _)]) rfl ?_
  simp only [f_wins, List.map_cons, List.map_nil, List.cons_append, List.nil_append, List.reduceReplicate, Nat.reduceSub]
  have h7 := hg.l7
  have hl := co_len hc
  walk_at "q"
  refine wp_eq (need_game_ok hr hg hs) ?_
  walk_at "q"
  refine w_compM (enc := MV.int) (f := fun z => .bl (btw (.int z) 0 (zs.length - 1))) (i_row (w_var rfl ⟨rfl, rfl⟩)) (big_ok (by omega)) rfl (fun z hz => ?_) ?_
  · walk_at "q"
    exact wp_eq (is_between_ok rfl) ⟨rfl, rfl⟩
  walk_at "q"
  rw [show (c.map fun z => MV.bl (btw (.int z) 0 (zs.length - 1))) = (c.map fun z => btw (.int z) 0 (zs.length - 1)).map MV.bl by rw [List.map_map]; rfl]
  refine b_all ?_
  rw [allT fun z hz => btw_int (co_okI hc z hz).1 (by have := (co_okI hc z hz).2; omega)]
  walk_at "q"
  refine w_compM (enc := encP) (xs := c.zip (c.drop 1)) (lk := []) (f := fun p => .bl (decide (p.1 < p.2))) ?_ (big_ok (by simp; omega)) rfl (fun p hp => ?_) ?_
  · refine e_zip (w_var (m := rowMV c) rfl (w_sli (w_var (m := rowMV c) rfl (w_cst (sl_frm (k := 1) (by decide) ?_)))))
    rw [show (c.map MV.int).drop (1 : Int).toNat = (c.drop 1).map MV.int by rw [List.map_drop]; rfl]
    exact ⟨rfl, c.map MV.int, (c.drop 1).map MV.int, rfl, rfl, pures_noLst pures_int, pures_noLst pures_int, by rw [pairUp_row]; rfl, rfl⟩
  · obtain ⟨x, y⟩ := p
    unfold encP
    walk_at "q"
  rw [show ((c.zip (c.drop 1)).map fun p => MV.bl (decide (p.1 < p.2))) = ((c.zip (c.drop 1)).map fun p => decide (p.1 < p.2)).map MV.bl by rw [List.map_map]; rfl]
  walk_at "q"
  refine b_all ?_
  have hasc : (((c.zip (c.drop 1)).map fun p => decide (p.1 < p.2)).all id) = true := by
    rw [List.all_map, List.all_eq_true]
    intro p hp
    exact decide_eq_true (asc_zip (rngL_lt.sublist (coals_mem.mp hc)) p hp)
  rw [hasc]
  walk_at "q"
  refine wp_eq (does_win_ok hr (co_okI hc) (by omega)) ⟨rfl, [], by simp⟩
theorem law_groups_ok {most wide : Int} (hs : Src st i) (h0 : 1 ≤ most) (h1 : most ≤ 7) (h2 : 1 ≤ wide) (h3 : wide ≤ 40) : Wp (call (lib X) (d + 2) 73 [.ref i, .int most, .int wide] st) fun v s => ∃ zs, v = rowMV zs ∧ 1 ≤ zs.length ∧ (zs.length : Int) ≤ most ∧ (∀ z ∈ zs, 1 ≤ z ∧ z ≤ wide) ∧ Upd st i s := by
  refine Wp_call (fd := f_law_groups) rfl rfl ?_
  rw [allocs_idp (by simp [noLsts, noLst])]
  simp only [f_law_groups, List.map_cons, List.map_nil, List.cons_append, List.nil_append, List.reduceReplicate, Nat.reduceSub]
  have hi := hs.lt
  walk_at "q"
  refine z_for (e_rng ?_)
  walk_at "q"
  refine (draw_ok hs (by omega) (by omega)).mono ?_
  rintro _ s1 ⟨q, rfl, a1, a2, u1⟩
  walk_at "q"
  refine ⟨0, 1 + q, rfl, rfl, by omega, ?_⟩
  rw [range_L]
  refine floop_pre (all := rngL 0 (1 + q)) (pre := []) (I := fun pre env s => ∃ (zs : List Int) (o4 : Option MV), env = [some (.ref i), some (.int most), some (.int wide), some (rowMV zs), o4] ∧ zs.length = pre.length ∧ (∀ z ∈ zs, 1 ≤ z ∧ z ≤ wide) ∧ Upd st i s) (fun _ _ _ _ => rfl) (fun pre x post e env s h => ?_) rfl ⟨[], none, rfl, rfl, (fun _ z => nomatch z), u1⟩ ?_
  · obtain ⟨zs, o4, rfl, hl, hz, u⟩ := h
    have hpl := congrArg List.length e
    rw [rngL_len] at hpl
    simp at hpl
    unfold b1_law_groups
    walk_at "q"
    refine (draw_ok (u.src hi) (by omega) (by omega)).mono ?_
    rintro _ s2 ⟨z, rfl, b1, b2, u2⟩
    walk_at "q"
    refine o_addT (big_ok (by simp; omega)) ?_
    rw [show zs.map MV.int ++ [MV.int (1 + z)] = (zs ++ [1 + z]).map MV.int by simp]
    refine h_row (r := zs ++ [1 + z]) (by simp only [List.set_cons_succ, List.set_cons_zero]; rfl) ?_
    walk_at "q"
    refine ⟨zs ++ [1 + z], _, rfl, by simp [hl], fun y hy => ?_, u.trans u2⟩
    rcases List.mem_append.mp hy with h | h
    · exact hz y h
    · have : y = 1 + z := by simpa using h
      omega
  · rintro env s ⟨zs, o4, rfl, hl, hz, u⟩
    rw [rngL_len] at hl
    walk_at "q"
    have e := Kpt.pure_end (ext := []) (Q := fun v s => ∃ zs, v = rowMV zs ∧ 1 ≤ zs.length ∧ (zs.length : Int) ≤ most ∧ (∀ z ∈ zs, 1 ≤ z ∧ z ≤ wide) ∧ Upd st i s) u.kpt (pure_below (row_pure zs)) ⟨zs, rfl, by omega, by omega, hz, u⟩
    rw [List.append_nil] at e
    exact e
theorem mulB (x : Int) (p : Bool) : x * (if p then 1 else 0) = if p then x else 0 := by cases p <;> simp
theorem law_yes_ok (hr : okR r) (hc : okI zs.length c) (hl : c.length ≤ 1000) : call (lib X) (d + 3) 75 [encR r, rowMV zs, .str rs, rowMV c] st = .val (.bl (winC r zs rs c)) st := by
  refine call_val (fd := f_law_yes) rfl rfl (by simp [noLsts, noLst, pure_noLst (encR_pure r), pure_noLst (row_pure _)]) rfl ?_
  simp only [f_law_yes, List.map_cons, List.map_nil, List.cons_append, List.nil_append, List.reduceReplicate, Nat.reduceSub]
  walk_at "q"
  refine w_compM (enc := MV.int) (f := fun i => .int (at0 zs i)) (i_row (w_var rfl ⟨rfl, rfl⟩)) (big_ok (by omega)) rfl (fun i hi => ?_) ?_
  · walk_at "q"
    exact u_row (hc i hi).1 (cosum_get (hc i hi).1 (hc i hi).2) ⟨rfl, rfl⟩
  walk_at "q"
  refine b_sumL (r := c.map (at0 zs)) (by rw [sum_map_int]; rfl) ?_
  walk_at "q"
  · cases decide (rs = "no") <;> simp [small64]
  walk_at "q"
  · cases decide (rs = "blank") <;> simp [small64]
  walk_at "q"
  refine wp_eq (law_passes_ok (m := zs.sum) hr) ⟨?_, [], by simp⟩
  rw [mulB, mulB]
  simp [winC, winY, cosum]
theorem winning_ok (hr : okR r) (hg : zs.length ≤ 7) : call (lib X) (d + 5) 77 [encR r, rowMV zs, .str rs] st = .val (.lst ((wonL r zs rs).map rowMV)) st := by
  refine call_lst (fd := f_winning) rfl rfl (by simp [noLsts, noLst, pure_noLst (encR_pure r), pure_noLst (row_pure _)]) (encRow.pures _) ?_
  simp only [f_winning, List.map_cons, List.map_nil, List.cons_append, List.nil_append, List.reduceReplicate, Nat.reduceSub]
  walk_at "q"
  refine w_compG (enc := rowMV) (xs := coals zs.length) (p := winC r zs rs) (f := rowMV) (i_lst (encRow.noLsts _) ?_) (big_ok (Nat.le_trans (coals_le (by omega)) (by decide))) rfl (fun c hc => ?_) ?_
  · walk_at "q"
    exact wp_eq (all_coalitions_ok hg) ⟨rfl, rfl⟩
  · have := co_len hc
    walk_at "q"
    refine wp_eq (does_win_ok hr (co_okI hc) (by omega)) ?_
    walk_at "q"
    intro _
    walk_at "q"
  · exact ⟨[], by simp, .inl rfl⟩
theorem law_won_ok (hr : okR r) (hg : zs.length ≤ 7) : call (lib X) (d + 4) 80 [encR r, rowMV zs, .str rs] st = .val (.lst ((wonL r zs rs).map rowMV)) st := by
  refine call_lst (fd := f_law_won) rfl rfl (by simp [noLsts, noLst, pure_noLst (encR_pure r), pure_noLst (row_pure _)]) (encRow.pures _) ?_
  simp only [f_law_won, List.map_cons, List.map_nil, List.cons_append, List.nil_append, List.reduceReplicate, Nat.reduceSub]
  walk_at "q"
  refine w_compG (enc := rowMV) (xs := coals zs.length) (p := winC r zs rs) (f := rowMV) (i_lst (encRow.noLsts _) ?_) (big_ok (Nat.le_trans (coals_le (by omega)) (by decide))) rfl (fun c hc => ?_) ?_
  · walk_at "q"
    exact wp_eq (law_coalitions_ok hg) ⟨rfl, rfl⟩
  · have := co_len hc
    walk_at "q"
    refine wp_eq (law_yes_ok hr (co_okI hc) (by omega)) ?_
    walk_at "q"
    intro _
    walk_at "q"
  · exact ⟨[], by simp, .inl rfl⟩
theorem without_gen {L : Nat → Option FDef} {id : Nat} (hL : L id = some f_without_blocs) (hl : c.length ≤ 1000) : call L (d + 1) id [rowMV c, .int k] st = .val (rowMV (less c k)) st := by
  refine call_val (fd := f_without_blocs) hL rfl (by simp [noLsts, noLst, pure_noLst (row_pure _)]) (row_pure _) ?_
  simp only [f_without_blocs, List.map_cons, List.map_nil, List.cons_append, List.nil_append, List.reduceReplicate, Nat.reduceSub]
  walk_at "q"
  refine w_compG (enc := MV.int) (xs := c) (p := fun j => !decide (j = k)) (f := MV.int) (i_row (w_var rfl ⟨rfl, rfl⟩)) (big_ok (by omega)) rfl (fun z hz => ?_) ?_
  · walk_at "q"
    intro _
    walk_at "q"
  walk_at "q"
  exact ⟨[], by simp⟩
theorem without_b_ok (hl : c.length ≤ 1000) : call (lib X) (d + 1) 78 [rowMV c, .int k] st = .val (rowMV (less c k)) st := without_gen rfl hl
theorem law_less_ok (hl : c.length ≤ 1000) : call (lib X) (d + 1) 81 [rowMV c, .int k] st = .val (rowMV (less c k)) st := without_gen rfl hl
theorem bls_map {α : Type} {p : α → Bool} {xs : List α} : (xs.map fun a => MV.bl (p a)) = (xs.map p).map MV.bl := by rw [List.map_map]; rfl
theorem any_id {α : Type} {p : α → Bool} {xs : List α} : ((xs.map p).any id) = xs.any p := by rw [List.any_map]; rfl
theorem least_ok (hr : okR r) (hg : okG zs) (hs : rs ∈ restL) : call (lib X) (d + 6) 79 [encR r, rowMV zs, .str rs] st = .val (.lst ((leastL r zs rs).map rowMV)) st := by
  refine call_lst (fd := f_least_coalitions) rfl rfl (by simp [noLsts, noLst, pure_noLst (encR_pure r), pure_noLst (row_pure _)]) (encRow.pures _) ?_
  simp only [f_least_coalitions, List.map_cons, List.map_nil, List.cons_append, List.nil_append, List.reduceReplicate, Nat.reduceSub]
  have h7 := hg.l7
  walk_at "q"
  refine wp_eq (need_game_ok hr hg hs) ?_
  walk_at "q"
  refine wp_eq (winning_ok hr h7) ?_
  refine h_lst (encRow.noLsts _) (by simp only [List.set_cons_succ, List.set_cons_zero]; rfl) ?_
  have hc0 : (st ++ [Cell.lst ((wonL r zs rs).map rowMV)])[st.length]? = some (.lst ((wonL r zs rs).map rowMV)) := cellN
  walk_at "q"
  refine w_compG (enc := rowMV) (xs := wonL r zs rs) (p := fun c => !(c.any fun i => memB (less c i) (wonL r zs rs))) (f := rowMV) (i_ref (encRow.noLsts _) hc0 rfl) (big_ok (Nat.le_trans (won_le h7) (by decide))) (held_ref hc0) (fun c hc => ?_) ?_
  · have hcl := co_len (won_co hc)
    walk_at "q"
    refine w_compM (enc := MV.int) (f := fun i => .bl (memB (less c i) (wonL r zs rs))) (i_row (w_var rfl ⟨rfl, rfl⟩)) (big_ok (by omega)) rfl (fun i hi => ?_) ?_
    · walk_at "q"
      refine wp_eq (without_b_ok (by omega)) ?_
      walk_at "q"
      exact o_memL encRow (lstR hc0) ⟨rfl, rfl⟩
    walk_at "q"
    rw [bls_map]
    refine b_any ?_
    rw [any_id]
    walk_at "q"
    intro _
    walk_at "q"
  · exact ⟨_, rfl, .inl rfl⟩
theorem swings_of_ok (hr : okR r) (h7 : zs.length ≤ 7) : call (lib X) (d + 6) 82 [encR r, rowMV zs, .str rs, .int k] st = .val (.lst (((swingOf r zs rs k).map fun c => (c.length : Int)).map .int)) st := by
  refine call_lst (fd := f_swings_of) rfl rfl (by simp [noLsts, noLst, pure_noLst (encR_pure r), pure_noLst (row_pure _)]) pures_int ?_
  simp only [f_swings_of, List.map_cons, List.map_nil, List.cons_append, List.nil_append, List.reduceReplicate, Nat.reduceSub]
  walk_at "q"
  refine wp_eq (winning_ok hr h7) ?_
  refine h_lst (encRow.noLsts _) (by simp only [List.set_cons_succ, List.set_cons_zero]; rfl) ?_
  have hc0 : (st ++ [Cell.lst ((wonL r zs rs).map rowMV)])[st.length]? = some (.lst ((wonL r zs rs).map rowMV)) := cellN
  walk_at "q"
  refine w_compG (enc := rowMV) (xs := wonL r zs rs) (p := swingP (wonL r zs rs) k) (f := fun c => .int c.length) (i_ref (encRow.noLsts _) hc0 rfl) (big_ok (Nat.le_trans (won_le h7) (by decide))) (held_ref hc0) (fun c hc => ?_) ?_
  · have hcl := co_len (won_co hc)
    walk_at "q"
    · rename_i h1
      refine wp_eq (without_b_ok (by omega)) ?_
      walk_at "q"
      refine o_nmemL encRow (lstR hc0) ?_
      refine ⟨by rw [swingP, h1]; rfl, rfl, fun _ => ?_⟩
      walk_at "q"
    · rename_i h1
      refine ⟨by rw [swingP, h1]; rfl, rfl, fun z => ?_⟩
      rw [swingP, h1] at z
      cases z
  · refine ⟨_, rfl, .inl ?_⟩
    rw [List.map_map]
    rfl
theorem swings_ok (hr : okR r) (hg : okG zs) (hs : rs ∈ restL) : call (lib X) (d + 7) 83 [encR r, rowMV zs, .str rs] st = .val (.lst ((swingL r zs rs).map .int)) st := by
  refine call_lst (fd := f_swings) rfl rfl (by simp [noLsts, noLst, pure_noLst (encR_pure r), pure_noLst (row_pure _)]) pures_int ?_
  simp only [f_swings, List.map_cons, List.map_nil, List.cons_append, List.nil_append, List.reduceReplicate, Nat.reduceSub]
  have h7 := hg.l7
  walk_at "q"
  refine wp_eq (need_game_ok hr hg hs) ?_
  walk_at "q"
  refine w_compM (enc := MV.int) (f := fun k => .int ((swingOf r zs rs k).length : Int)) (i_rng (k := 0) (l := zs.length) (w_cst ⟨rfl, ?_⟩) (by omega)) (big_ok (by rw [rngL_len]; omega)) rfl (fun k hk => ?_) ?_
  · walk_at "q"
  · walk_at "q"
    refine wp_eq (swings_of_ok hr h7) ?_
    walk_at "q"
    exact ⟨by simp, rfl⟩
  · refine ⟨[], by simp, .inl ?_⟩
    rw [swingL, List.map_map]
    rfl
theorem vetoes_ok (hr : okR r) (hg : okG zs) (hs : rs ∈ restL) : call (lib X) (d + 6) 84 [encR r, rowMV zs, .str rs] st = .val (.lst ((vetoL r zs rs).map .int)) st := by
  refine call_lst (fd := f_vetoes) rfl rfl (by simp [noLsts, noLst, pure_noLst (encR_pure r), pure_noLst (row_pure _)]) pures_int ?_
  simp only [f_vetoes, List.map_cons, List.map_nil, List.cons_append, List.nil_append, List.reduceReplicate, Nat.reduceSub]
  have h7 := hg.l7
  walk_at "q"
  refine wp_eq (need_game_ok hr hg hs) ?_
  walk_at "q"
  refine w_rgl ?_
  walk_at "q"
  refine ⟨_, _, rfl, rfl, by omega, by omega, by omega, by omega, ?_⟩
  rw [show rangeM true 0 (zs.length : Int) = rowMV (rngL 0 zs.length) by rw [rangeM, range_L]; rfl]
  walk_at "q"
  refine w_compG (enc := MV.int) (xs := rngL 0 zs.length) (p := fun i => !winC r zs rs (less (rngL 0 zs.length) i)) (f := MV.int) (i_row (w_var rfl ⟨rfl, rfl⟩)) (big_ok (by rw [rngL_len]; omega)) rfl (fun k hk => ?_) ?_
  · walk_at "q"
    refine wp_eq (without_b_ok (by rw [rngL_len]; omega)) ?_
    walk_at "q"
    refine wp_eq (does_win_ok hr (less_okI (co_okI all_rng)) ?_) ?_
    · have := co_len (less_co (i := k) (all_rng (n := zs.length)))
      omega
    walk_at "q"
    intro _
    walk_at "q"
  · exact ⟨[], by simp, .inl rfl⟩
end
end QR

set_option Elab.async false
set_option linter.all false
set_option maxRecDepth 100000
set_option maxHeartbeats 4000000
/-! QG4: shares, fewest groups, cheapest coalitions. -/
namespace QR
open PySem
local macro_rules | `(tactic| walk_at "q") => `(tactic| (repeat' (first
  | with_reducible refine z_cons ?_ | with_reducible refine z_asg ?_ | with_reducible refine z_ret ?_ | with_reducible refine z_iff ?_ | with_reducible refine z_nil ?_ | with_reducible refine z_exp ?_ | with_reducible refine z_set ?_ | with_reducible refine z_pass ?_
  | with_reducible refine w_cst ?_ | ((with_reducible apply w_var); rfl) | with_reducible refine w_bin ?_ | with_reducible refine w_cmp ?_ | with_reducible refine w_not ?_ | with_reducible refine w_and ?_ | with_reducible refine w_or ?_ | with_reducible refine w_chn ?_ | with_reducible refine w_ite ?_ | with_reducible refine w_neg ?_
  | with_reducible refine w_call ?_ | with_reducible refine w_blt ?_ | with_reducible refine w_tup ?_ | with_reducible refine w_lst ?_ | with_reducible refine w_sub ?_ | with_reducible refine w_sli ?_ | with_reducible refine w_nil ?_ | with_reducible refine w_cons ?_
  | with_reducible refine o_add ?_ | with_reducible refine o_sub ?_ | ((with_reducible apply o_mulR); decide) | ((with_reducible apply o_mulL); decide) | with_reducible refine o_mul ?_ ?_ | ((with_reducible apply o_fdiv); (first | decide | assumption | omega)) | ((with_reducible apply o_mod); (first | decide | assumption | omega))
  | with_reducible refine o_lt ?_ | with_reducible refine o_le ?_ | with_reducible refine o_gt ?_ | with_reducible refine o_ge ?_ | with_reducible refine o_isn ?_ | with_reducible refine o_is ?_ | with_reducible refine o_isb ?_ | with_reducible refine o_isnb ?_ | with_reducible refine o_eqI ?_ | with_reducible refine o_neI ?_ | with_reducible refine o_eqS ?_ | with_reducible refine o_neS ?_ | with_reducible refine o_eqB ?_ | with_reducible refine o_neB ?_
  | with_reducible refine b_lenRow ?_ | with_reducible refine b_sumR ?_ | with_reducible refine b_intB ?_ | with_reducible refine b_tupL ?_ | with_reducible refine o_memR ?_ | with_reducible refine o_nmemR ?_ | ((with_reducible apply h_row); (focus ((try simp only [List.set_cons_succ, List.set_cons_zero, asgs]); rfl)))
  | with_reducible refine b_int ?_ | with_reducible refine b_abs ?_ | with_reducible refine b_min ?_ | with_reducible refine b_max ?_ | with_reducible refine b_lenT ?_ | with_reducible refine b_lenL ?_ | with_reducible refine b_lenO ?_ | ((with_reducible apply b_lenR); assumption) | ((with_reducible apply b_isi); rfl)
  | ((with_reducible apply t_set); (first | assumption | exact List.getElem?_set_self (by assumption)); rfl; (first | rfl | assumption)) | ((with_reducible apply u_tup); rfl) | ((with_reducible apply u_ref); (first | assumption | exact List.getElem?_set_self (by assumption)); rfl) | ((with_reducible apply u_lst); rfl)
  | ((with_reducible apply h_int); (focus ((try simp only [List.set_cons_succ, List.set_cons_zero, asgs]); rfl))) | ((with_reducible apply h_bl); (focus ((try simp only [List.set_cons_succ, List.set_cons_zero, asgs]); rfl))) | ((with_reducible apply h_str); (focus ((try simp only [List.set_cons_succ, List.set_cons_zero, asgs]); rfl))) | ((with_reducible apply h_ref); (focus ((try simp only [List.set_cons_succ, List.set_cons_zero, asgs]); rfl))) | ((with_reducible apply h_non); (focus ((try simp only [List.set_cons_succ, List.set_cons_zero, asgs]); rfl))) | ((with_reducible apply h_tup); rfl; (first | (focus (simp [noLsts, noLst]; done)) | assumption); (focus ((try simp only [List.set_cons_succ, List.set_cons_zero, asgs]); rfl))) | ((with_reducible apply h_lst); (first | (focus (simp [noLsts, noLst]; done)) | assumption); (focus ((try simp only [List.set_cons_succ, List.set_cons_zero, asgs]); rfl))) | ((with_reducible apply h_pure); (first | (focus (simp [noLsts, noLst]; done)) | assumption); (focus ((try simp only [List.set_cons_succ, List.set_cons_zero, asgs]); rfl)))
  | with_reducible refine w_turn ?_
  | ((with_reducible refine ⟨_, rfl, (fun h => ?_), (fun h => ?_)⟩) <;> first | exact absurd h (by decide +kernel) | (exfalso; simp at h; done) | (exfalso; simp at h; omega) | skip)
  | with_reducible rfl
  | (with_reducible refine ⟨True.intro, ?_⟩)
  | (with_reducible refine ⟨rfl, ?_⟩)
  | (with_reducible refine ⟨_, rfl, ?_⟩)
  | fail)))

/-! ### the greatest divisor by its loop -/
theorem wl_gcd {c : Env → Store → Out Bool} {b : Env → Store → SOut} {E : Int → Int → Env} {st : Store} {N : Env → Store → Prop} {R : MV → Store → Prop} (hc : ∀ x y, Wp (c (E x y) st) fun k s => k = decide (0 < y) ∧ s = st)
    (hb : ∀ x y, 0 < y → Ws (b (E x y) st) (fun env s => env = E y (x.fmod y) ∧ s = st) R) : ∀ (n m k : Nat), k < n → N (E (Nat.gcd m k) 0) st → Ws (wloop c b n (E m k) st) N R
  | 0, _, _, h, _ => by omega
  | n + 1, m, k, h, q => by
    unfold wloop
    simp only [Ws_bindS]
    refine (hc m k).mono ?_
    rintro _ _ ⟨rfl, rfl⟩
    cases k with
    | zero =>
      simp only [Nat.gcd_zero_right] at q
      have hz : decide ((0 : Int) < ((0 : Nat) : Int)) = false := by decide
      simp only [hz]
      exact Ws_next.mpr q
    | succ k =>
      have h0 : (0 : Int) < ((k + 1 : Nat) : Int) := by omega
      simp only [h0, decide_true, Ws_seq]
      refine (hb m ((k + 1 : Nat) : Int) h0).mono ?_ fun _ _ z => z
      rintro _ _ ⟨rfl, rfl⟩
      have e : (m : Int).fmod ((k + 1 : Nat) : Int) = ((m % (k + 1) : Nat) : Int) := by
        rw [Int.fmod_eq_emod_of_nonneg _ (by omega)]
        rfl
      rw [e]
      refine wl_gcd hc hb n (k + 1) (m % (k + 1)) (Nat.lt_of_lt_of_le (Nat.mod_lt _ (Nat.succ_pos k)) (by omega)) ?_
      have e2 : Nat.gcd (k + 1) (m % (k + 1)) = Nat.gcd m (k + 1) := by
        rw [Nat.gcd_comm, ← Nat.gcd_rec, Nat.gcd_comm]
      rw [e2]
      exact q
theorem wl_gcdI {c : Env → Store → Out Bool} {b : Env → Store → SOut} (E : Int → Int → Env) {st : Store} {N : Env → Store → Prop} {R : MV → Store → Prop} {x y : Int} {n : Nat} (hx : 0 ≤ x) (hy : 0 ≤ y) (hn : y.toNat < n) (hc : ∀ x y, Wp (c (E x y) st) fun k s => k = decide (0 < y) ∧ s = st)
    (hb : ∀ x y, 0 < y → Ws (b (E x y) st) (fun env s => env = E y (x.fmod y) ∧ s = st) R) (q : N (E (Nat.gcd x.toNat y.toNat) 0) st) : Ws (wloop c b n (E x y) st) N R := by
  obtain ⟨m, rfl⟩ := Int.eq_ofNat_of_zero_le hx
  obtain ⟨k, rfl⟩ := Int.eq_ofNat_of_zero_le hy
  exact wl_gcd hc hb n m k hn q
def factI (k : Int) : Int := (rngL 1 (k + 1)).foldl (· * ·) 1
def topS (n : Int) (ss : List Int) : Int := (ss.map fun s => factI (s - 1) * factI (n - s)).sum
def share (t f : Int) : Int × Int := (t.fdiv (Nat.gcd t.toNat f.toNat), f.fdiv (Nat.gcd t.toNat f.toNat))
def topI (r : List Cd) (zs : List Int) (rs : Str) (k : Int) : Int := topS zs.length ((swingOf r zs rs k).map fun c => (c.length : Int))
def shareL (r : List Cd) (zs : List Int) (rs : Str) : List (Int × Int) := (rngL 0 zs.length).map fun k => share (topI r zs rs k) (factI zs.length)
def kLe (a b : Int × List Int) : Bool := lexLe (a.1 :: a.2) (b.1 :: b.2)
def minO : List (Int × List Int) → Option (Int × List Int)
  | [] => none
  | p :: ps => some (leastOf kLe p ps)
def fewO (r : List Cd) (zs : List Int) (rs : Str) : Option (List Int) := (minO ((wonL r zs rs).map fun c => ((c.length : Int), c))).map (·.2)
def cheapO (r : List Cd) (zs : List Int) (rs : Str) (cs : List Int) : Option (Int × List Int) := minO ((wonL r zs rs).map fun c => (cosum cs c, c))
theorem factI_small {k : Int} (h0 : -1 ≤ k) (h : k ≤ 7) : 1 ≤ factI k ∧ factI k ≤ 5040 := by
  have e : k = -1 ∨ k = 0 ∨ k = 1 ∨ k = 2 ∨ k = 3 ∨ k = 4 ∨ k = 5 ∨ k = 6 ∨ k = 7 := by omega
  rcases e with rfl | rfl | rfl | rfl | rfl | rfl | rfl | rfl | rfl <;> decide +kernel
section
variable {X : Nat → Option FDef} {d i j : Nat} {st : Store} {r o : List Cd} {zs c cs : List Int} {rs : Str} {k : Int}
theorem factorial_ok (h0 : -1 ≤ k) (h : k ≤ 1000) : call (lib X) (d + 1) 85 [.int k] st = .val (.int (factI k)) st := by
  refine call_val (fd := f_factorial) rfl rfl rfl rfl ?_
  simp only [f_factorial, List.map_cons, List.map_nil, List.cons_append, List.nil_append, List.reduceReplicate, Nat.reduceSub]
  walk_at "q"
  refine z_for ?_
  refine wp_eq (Wp.eq (i_rng (k := 1) (l := k + 1) (w_cst ⟨rfl, ?_⟩) (by omega))) ?_
  · walk_at "q"
  refine floop_pre (all := rngL 1 (k + 1)) (pre := []) (I := fun pre env s => ∃ (o2 : Option MV), env = [some (.int k), some (.int (pre.foldl (· * ·) 1)), o2] ∧ s = st) (fun _ _ _ _ => rfl) (fun pre x post e env s h => ?_) rfl ⟨_, rfl, rfl⟩ ?_
  · obtain ⟨o2, rfl, rfl⟩ := h
    have hx := rngL_mem.mp (show x ∈ rngL 1 (k + 1) by rw [e]; simp)
    have hs := small_of (k := x) (by omega) (by omega)
    unfold b1_factorial
    walk_at "q"
    · rw [hs]; simp
    walk_at "q"
    exact ⟨_, by rw [List.foldl_append]; rfl, rfl⟩
  · rintro env s ⟨o2, rfl, rfl⟩
    walk_at "q"
    exact ⟨[], by simp⟩
theorem share_pure (p : Int × Int) : pureM (encP p) = true := encPair.pure p
theorem z_whl {Φ : Phi} {c : E} {b : Ss} {env : Env} {N : Env → Store → Prop} {R : MV → Store → Prop} (h : Ws (wloop (fun env st => (ev Φ c env st).bind fun x st => boolOf x st) (exs Φ b) fuel env st) N R) : Ws (ex Φ (.whl c b) env st) N R := h
theorem gcd_pos {f t : Int} (hf : 1 ≤ f) (hf2 : f ≤ 5040) : ((Nat.gcd t.toNat f.toNat : Nat) : Int) ≠ 0 ∧ ((Nat.gcd t.toNat f.toNat : Nat) : Int).natAbs < 1073741824 := by
  have h1 : 0 < Nat.gcd t.toNat f.toNat := Nat.gcd_pos_of_pos_right _ (by omega)
  have h2 : Nat.gcd t.toNat f.toNat ≤ f.toNat := Nat.gcd_le_right _ (by omega)
  omega
theorem swing_bd {c : List Int} (hz : zs.length ≤ 7) (hc : c ∈ swingOf r zs rs k) : 1 ≤ c.length ∧ c.length ≤ zs.length := by
  have h1 := List.mem_filter.mp hc
  refine ⟨?_, co_len (won_co h1.1)⟩
  have h2 := h1.2
  simp only [swingP, Bool.and_eq_true, memB_iff] at h2
  exact List.length_pos_of_mem h2.1
theorem turn_shares_ok (hr : okR r) (hg : okG zs) (hs : rs ∈ restL) : call (lib X) (d + 7) 86 [encR r, rowMV zs, .str rs] st = .val (.lst ((shareL r zs rs).map encP)) st := by
  refine call_lst (fd := f_turn_shares) rfl rfl (by simp [noLsts, noLst, pure_noLst (encR_pure r), pure_noLst (row_pure _)]) (encPair.pures _) ?_
  simp only [f_turn_shares, List.map_cons, List.map_nil, List.cons_append, List.nil_append, List.reduceReplicate, Nat.reduceSub]
  have h7 := hg.l7
  have h1 := hg.l1
  walk_at "q"
  refine wp_eq (need_game_ok hr hg hs) ?_
  walk_at "q"
  refine h_tupL rfl rfl rfl (by simp only [asgs, List.set_cons_succ, List.set_cons_zero]; rfl) ?_
  walk_at "q"
  refine z_for ?_
  refine wp_eq (Wp.eq (i_rng (k := 0) (l := zs.length) (w_cst ⟨rfl, ?_⟩) (by omega))) ?_
  · walk_at "q"
  have hF := factI_small (k := zs.length) (by omega) (by omega)
  refine floop_pre (all := rngL 0 zs.length) (pre := []) (I := fun pre env s => ∃ (o5 o6 o7 o8 o9 : Option MV), env = [some (encR r), some (rowMV zs), some (.str rs), some (.ref st.length), some (.int zs.length), o5, o6, o7, o8, o9] ∧ s = st ++ [Cell.lst ((pre.map fun k => share (topI r zs rs k) (factI zs.length)).map encP)]) (fun _ _ _ _ => rfl) (fun pre x post e env s h => ?_) rfl ⟨_, _, _, _, _, rfl, rfl⟩ ?_
  · obtain ⟨o5, o6, o7, o8, o9, rfl, rfl⟩ := h
    have hpl := congrArg List.length e
    rw [rngL_len] at hpl
    simp at hpl
    unfold b3_turn_shares
    walk_at "q"
    refine z_for ?_
    refine wp_eq (Wp.eq (i_lst (xs := ((swingOf r zs rs x).map fun c => (c.length : Int)).map MV.int) (pures_noLst pures_int) ?_)) ?_
    · walk_at "q"
      exact wp_eq (swings_of_ok hr h7) ⟨rfl, rfl⟩
    refine floop_pre (all := (swingOf r zs rs x).map fun c => (c.length : Int)) (pre := []) (I := fun pre2 env s => ∃ (o7 : Option MV), env = [some (encR r), some (rowMV zs), some (.str rs), some (.ref st.length), some (.int zs.length), some (.int x), some (.int (topS zs.length pre2)), o7, o8, o9] ∧ s = st ++ [Cell.lst ((pre.map fun k => share (topI r zs rs k) (factI zs.length)).map encP)]) (fun _ _ _ _ => rfl) (fun pre2 y post2 e2 env s h => ?_) rfl ⟨_, rfl, rfl⟩ ?_
    · obtain ⟨o7, rfl, rfl⟩ := h
      have hy : y ∈ (swingOf r zs rs x).map fun c => (c.length : Int) := by rw [e2]; simp
      obtain ⟨c, hc, rfl⟩ := List.mem_map.mp hy
      have hb := swing_bd h7 hc
      have hf1 := factI_small (k := (c.length : Int) - 1) (by omega) (by omega)
      have hs1 := small_of (k := factI ((c.length : Int) - 1)) (by omega) (by omega)
      unfold b1_turn_shares
      walk_at "q"
      refine wp_eq (factorial_ok (by omega) (by omega)) ?_
      walk_at "q"
      refine wp_eq (factorial_ok (by omega) (by omega)) ?_
      walk_at "q"
      · rw [hs1]; simp
      walk_at "q"
      exact ⟨some (.int c.length), by simp [topS], rfl⟩
    · rintro env s ⟨o7, rfl, rfl⟩
      have htop : topS zs.length ((swingOf r zs rs x).map fun c => (c.length : Int)) = topI r zs rs x := rfl
      rw [htop]
      have ht0 : 0 ≤ topI r zs rs x := by
        rw [← htop]
        have key : ∀ l : List (List Int), (∀ c ∈ l, 1 ≤ c.length ∧ c.length ≤ zs.length) → 0 ≤ topS zs.length (l.map fun c => (c.length : Int)) := by
          intro l
          induction l with
          | nil => intro _; simp [topS]
          | cons c l ih =>
            intro h
            have a := h c List.mem_cons_self
            have f1 := factI_small (k := (c.length : Int) - 1) (by omega) (by omega)
            have f2 := factI_small (k := (zs.length : Int) - c.length) (by omega) (by omega)
            have := ih fun z hz => h z (List.mem_cons_of_mem _ hz)
            have m : 0 ≤ factI ((c.length : Int) - 1) * factI ((zs.length : Int) - c.length) := Int.mul_nonneg (by omega) (by omega)
            simp only [topS, List.map_cons, List.sum_cons] at this ⊢
            omega
        exact key _ fun c hc => swing_bd h7 hc
      walk_at "q"
      refine wp_eq (factorial_ok (by omega) (by omega)) ?_
      walk_at "q"
      refine z_whl ?_
      have hp := gcd_pos (t := topI r zs rs x) hF.1 hF.2
      have hF2 : (factI zs.length).toNat < fuel := Nat.lt_of_le_of_lt (m := 5040) (by omega) (by decide)
      refine wl_gcdI (fun a b => [some (encR r), some (rowMV zs), some (.str rs), some (.ref st.length), some (.int zs.length), some (.int x), some (.int (topI r zs rs x)), o7, some (.int a), some (.int b)]) ht0 (by omega) hF2 (fun a b => ?_) (fun a b hb => ?_) ?_
      · refine w_bind ?_
        walk_at "q"
        exact Wp_val.mpr ⟨rfl, rfl⟩
      · have hb0 : b ≠ 0 := by omega
        unfold b2_turn_shares
        walk_at "q"
      have hcell : (st ++ [Cell.lst ((pre.map fun k => share (topI r zs rs k) (factI zs.length)).map encP)])[st.length]? = some (Cell.lst ((pre.map fun k => share (topI r zs rs k) (factI zs.length)).map encP)) := cellN
      refine z_cons (z_exp (w_mth (w_var rfl ⟨lstOf_ref hcell, ?_⟩)))
      walk_at "q"
      refine wp_eq (factorial_ok (by omega) (by omega)) ?_
      walk_at "q"
      refine t_append hcell (by simp [noLst, noLsts]) ?_ ?_
      · rw [List.length_map, List.length_map]
        exact Nat.lt_of_lt_of_le (m := 7) (by omega) (by decide)
      walk_at "q"
      refine ⟨_, _, _, _, _, rfl, ?_⟩
      simp [share, encP]
  · rintro env s ⟨o5, o6, o7, o8, o9, rfl, rfl⟩
    walk_at "q"
    exact .inr ⟨_, rfl, Nat.le_refl _, cellN⟩
/-! ### min of pairs -/
theorem keyMV_K (p : Int × List Int) : keyMV (p.1 :: p.2) = encK p := rfl
theorem keysOf_K : ∀ {ps : List (Int × List Int)}, keysOf (ps.map encK) = some (ps.map fun p => p.1 :: p.2)
  | [] => rfl
  | p :: ps => by
    show ((intsOf (p.2.map MV.int)).bind fun k => (keysOf (ps.map encK)).map ((p.1 :: k) :: ·)) = _
    rw [intsOf_mp, keysOf_K]
    rfl
theorem leastOf_map {α β : Type} {le : β → β → Bool} {f : α → β} : ∀ {x : α} {xs : List α}, leastOf le (f x) (xs.map f) = f (leastOf (fun a b => le (f a) (f b)) x xs)
  | x, [] => rfl
  | x, y :: ys => by
    rw [List.map_cons]
    unfold leastOf
    cases h : le (f x) (f y) with
    | true => simp only [if_true]; exact leastOf_map
    | false => simp only [Bool.false_eq_true, if_false]; exact leastOf_map
theorem b_minK {p : Int × List Int} {ps : List (Int × List Int)} {x : MV} {Q : MV → Store → Prop} (hx : lstOf st x = some ((p :: ps).map encK)) (q : Q (encK (leastOf kLe p ps)) st) : Wp (bltM .min [x] st) Q := by
  have h2 : keysOf ((p :: ps).map encK) = some ((p.1 :: p.2) :: ps.map fun p => p.1 :: p.2) := keysOf_K
  have h1 : intsOf ((p :: ps).map encK) = none := rfl
  have e : bltM .min [x] st = (match lstOf st x with
    | some xs => minM xs st
    | none => .bad) := by cases x <;> rfl
  refine wp_eq (v := encK (leastOf kLe p ps)) (st := st) ?_ q
  rw [e, hx]
  show minM ((p :: ps).map encK) st = _
  have e2 : minM ((p :: ps).map encK) st = (match intsOf ((p :: ps).map encK) with
    | some (n :: ns) => Out.val (MV.int (leastOf (fun a b => decide (a ≤ b)) n ns)) st
    | some [] => .bad
    | none => (match keysOf ((p :: ps).map encK) with
      | some (k :: ks) => .val (keyMV (leastOf lexLe k ks)) st
      | _ => .bad)) := rfl
  rw [e2, h1, h2]
  show Out.val (keyMV (leastOf lexLe (p.1 :: p.2) (ps.map fun p => p.1 :: p.2))) st = _
  rw [leastOf_map (f := fun p : Int × List Int => p.1 :: p.2), keyMV_K]
  rfl
theorem isNonO {α : Type} {enc : α → MV} (h : ∀ a, isNon (enc a) = false) {a : Option α} : isNon (encO enc a) = a.isNone := by
  cases a with
  | none => rfl
  | some a => exact h a
theorem fewO_pure (r : List Cd) (zs : List Int) (rs : Str) : pureM (encO rowMV (fewO r zs rs)) = true := (encOpt encRow nnRow).pure _
theorem cheapO_pure (r : List Cd) (zs cs : List Int) (rs : Str) : pureM (encO encK (cheapO r zs rs cs)) = true := (encOpt encKey nnKey).pure _
theorem fewest_groups_ok (hr : okR r) (hg : okG zs) (hs : rs ∈ restL) : call (lib X) (d + 6) 87 [encR r, rowMV zs, .str rs] st = .val (encO rowMV (fewO r zs rs)) st := by
  refine call_val (fd := f_fewest_groups) rfl rfl (by simp [noLsts, noLst, pure_noLst (encR_pure r), pure_noLst (row_pure _)]) (fewO_pure _ _ _) ?_
  simp only [f_fewest_groups, List.map_cons, List.map_nil, List.cons_append, List.nil_append, List.reduceReplicate, Nat.reduceSub]
  have h7 := hg.l7
  walk_at "q"
  refine wp_eq (need_game_ok hr hg hs) ?_
  walk_at "q"
  refine wp_eq (winning_ok hr h7) ?_
  refine h_lst (encRow.noLsts _) (by simp only [List.set_cons_succ, List.set_cons_zero]; rfl) ?_
  have hc0 : (st ++ [Cell.lst ((wonL r zs rs).map rowMV)])[st.length]? = some (.lst ((wonL r zs rs).map rowMV)) := cellN
  walk_at "q"
  refine o_neL encRow (ys := []) (lstR hc0) rfl ?_
  walk_at "q"
  · rename_i h
    have hw : ∃ c cs, wonL r zs rs = c :: cs := by
      cases hw : wonL r zs rs with
      | nil => rw [hw] at h; simp at h
      | cons c cs => exact ⟨c, cs, rfl⟩
    obtain ⟨c, cs, hw⟩ := hw
    refine w_compM (enc := rowMV) (xs := wonL r zs rs) (f := fun c => encK ((c.length : Int), c)) (i_ref (encRow.noLsts _) hc0 rfl) (big_ok (Nat.le_trans (won_le h7) (by decide))) (held_ref hc0) (fun c hc => ?_) ?_
    · walk_at "q"
    walk_at "q"
    rw [show ((wonL r zs rs).map fun c => encK ((c.length : Int), c)) = ((wonL r zs rs).map fun c => ((c.length : Int), c)).map encK by rw [List.map_map]; rfl, hw]
    refine b_minK rfl ?_
    walk_at "q"
    refine u_tup (m := rowMV _) rfl ?_
    refine ⟨?_, _, rfl⟩
    unfold fewO
    rw [hw]
    rfl
  · rename_i h
    have hw : wonL r zs rs = [] := by simpa using h
    refine ⟨?_, _, rfl⟩
    unfold fewO
    rw [hw]
    rfl
theorem cheapest_ok (hr : okR r) (hg : okG zs) (hs : rs ∈ restL) (hl : cs.length = zs.length) (hc : ∀ z ∈ cs, 0 ≤ z ∧ z ≤ 1000) : call (lib X) (d + 6) 88 [encR r, rowMV zs, .str rs, rowMV cs] st = .val (encO encK (cheapO r zs rs cs)) st := by
  refine call_val (fd := f_cheapest) rfl rfl (by simp [noLsts, noLst, pure_noLst (encR_pure r), pure_noLst (row_pure _)]) (cheapO_pure _ _ _ _) ?_
  simp only [f_cheapest, List.map_cons, List.map_nil, List.cons_append, List.nil_append, List.reduceReplicate, Nat.reduceSub]
  have h7 := hg.l7
  walk_at "q"
  refine wp_eq (need_game_ok hr hg hs) ?_
  walk_at "q"
  refine w_compM (enc := MV.int) (f := fun z => .bl (btw (.int z) 0 1000)) (i_row (w_var rfl ⟨rfl, rfl⟩)) (big_ok (by omega)) rfl (fun z hz => ?_) ?_
  · walk_at "q"
    exact wp_eq (is_between_ok rfl) ⟨rfl, rfl⟩
  walk_at "q"
  rw [bls_map]
  refine b_all ?_
  rw [allT fun z hz => btw_int (hc z hz).1 (hc z hz).2]
  walk_at "q"
  refine z_for ?_
  refine wp_eq (Wp.eq (i_lst (xs := (wonL r zs rs).map rowMV) (encRow.noLsts _) ?_)) ?_
  · walk_at "q"
    exact wp_eq (winning_ok hr h7) ⟨rfl, rfl⟩
  refine floop_pre (all := wonL r zs rs) (pre := []) (I := fun pre env s => ∃ (o5 : Option MV), env = [some (encR r), some (rowMV zs), some (.str rs), some (rowMV cs), some (.ref st.length), o5, none, none] ∧ s = st ++ [Cell.lst ((pre.map fun c => (cosum cs c, c)).map encK)]) (fun _ _ _ _ => rfl) (fun pre c post e env s h => ?_) rfl ⟨_, rfl, rfl⟩ ?_
  · obtain ⟨o5, rfl, rfl⟩ := h
    have hpl := congrArg List.length e
    have hwl := won_le (r := r) (rs := rs) h7
    have hcw : c ∈ wonL r zs rs := by rw [e]; simp
    have hcl := co_len (won_co hcw)
    have hci := co_okI (won_co hcw)
    rw [List.length_append, List.length_cons] at hpl
    have hcell : (st ++ [Cell.lst ((pre.map fun c => (cosum cs c, c)).map encK)])[st.length]? = some (Cell.lst ((pre.map fun c => (cosum cs c, c)).map encK)) := cellN
    unfold b1_cheapest
    walk_at "q"
    refine w_mth (w_var rfl ⟨lstOf_ref hcell, ?_⟩)
    walk_at "q"
    refine w_compM (enc := MV.int) (f := fun i => .int (at0 cs i)) (i_row (w_var rfl ⟨rfl, rfl⟩)) (big_ok (by omega)) rfl (fun i hi => ?_) ?_
    · walk_at "q"
      exact u_row (hci i hi).1 (cosum_get (hci i hi).1 (by have := (hci i hi).2; omega)) ⟨rfl, rfl⟩
    walk_at "q"
    refine b_sumL (r := c.map (at0 cs)) (by rw [sum_map_int]; rfl) ?_
    walk_at "q"
    refine t_append hcell (by simp [noLst, noLsts, pure_noLst (row_pure c)]) ?_ ?_
    · rw [List.length_map, List.length_map]
      exact Nat.lt_of_le_of_lt (m := 128) (by omega) (by decide)
    walk_at "q"
    simp [encK, cosum]
  · rintro env s ⟨o5, rfl, rfl⟩
    have hcell : (st ++ [Cell.lst (((wonL r zs rs).map fun c => (cosum cs c, c)).map encK)])[st.length]? = some (Cell.lst (((wonL r zs rs).map fun c => (cosum cs c, c)).map encK)) := cellN
    walk_at "q"
    refine o_neL encKey (ys := []) (lstR hcell) rfl ?_
    walk_at "q"
    · rename_i h
      have hw : ∃ c l, wonL r zs rs = c :: l := by
        cases hw : wonL r zs rs with
        | nil => rw [hw] at h; simp at h
        | cons c l => exact ⟨c, l, rfl⟩
      obtain ⟨c, l, hw⟩ := hw
      refine b_minK (p := (cosum cs c, c)) (ps := l.map fun c => (cosum cs c, c)) (by rw [lstR hcell, hw]; rfl) ?_
      refine ⟨?_, _, rfl⟩
      unfold cheapO
      rw [hw]
      rfl
    · rename_i h
      have hw : wonL r zs rs = [] := by simpa using h
      refine ⟨?_, _, rfl⟩
      unfold cheapO
      rw [hw]
      rfl
end
end QR

set_option Elab.async false
set_option linter.all false
set_option maxRecDepth 100000
set_option maxHeartbeats 4000000
/-! QG5: coalitions that win: plain facts. -/
namespace QR
open PySem
section
variable {r o : List Cd} {m y y' : Int} {rs : Str} {zs c e : List Int} {n : Nat} {i j : Int}
/-- more members say yes instead of what the rest does -/
theorem winY_mono (hr : okR r) (h : y ≤ y') (hw : winY r m rs y = true) : winY r m rs y' = true := by
  unfold winY at *
  refine pass_mono hr (fun c _ hc => ?_) hw
  obtain ⟨h1, h2, h3, h4⟩ := coef hc
  unfold lin
  have e1 := mulr h h1
  have e2 := mulr h h2
  have e3 := mulr h h3
  simp only [Int.mul_sub] at e2 e3
  by_cases q1 : rs = ("no" : Str)
  · rw [if_pos q1, if_pos q1]
    have q2 : ¬ rs = ("blank" : Str) := by rw [q1]; decide +kernel
    rw [if_neg q2, if_neg q2]
    simp only [Int.sub_mul]
    omega
  · rw [if_neg q1, if_neg q1]
    by_cases q2 : rs = ("blank" : Str)
    · rw [if_pos q2, if_pos q2]
      simp only [Int.sub_mul]
      omega
    · rw [if_neg q2, if_neg q2]
      omega
theorem asc_rng {a b : Int} : (rngL a b).Pairwise (· < ·) := rngL_lt
theorem co_asc {k : Int} (h : c ∈ coals k) : c.Pairwise (· < ·) := rngL_lt.sublist (coals_mem.mp h)
/-- parts of an ascending row -/
theorem asc_sub : ∀ {c e : List Int}, c.Pairwise (· < ·) → e.Pairwise (· < ·) → (∀ i ∈ c, i ∈ e) → c.Sublist e
  | [], e, _, _, _ => List.nil_sublist e
  | x :: c, [], _, _, h => absurd (h x List.mem_cons_self) (by simp)
  | x :: c, y :: e, hc, he, h => by
    have hc1 := List.pairwise_cons.mp hc
    have he1 := List.pairwise_cons.mp he
    by_cases q : x = y
    · subst q
      refine List.Sublist.cons_cons _ (asc_sub hc1.2 he1.2 fun i hi => ?_)
      rcases List.mem_cons.mp (h i (List.mem_cons_of_mem _ hi)) with r | r
      · have := hc1.1 i hi
        omega
      · exact r
    · have hx : x ∈ e := by
        rcases List.mem_cons.mp (h x List.mem_cons_self) with r | r
        · exact absurd r q
        · exact r
      have hyx := he1.1 x hx
      refine List.Sublist.cons _ (asc_sub hc he1.2 fun i hi => ?_)
      rcases List.mem_cons.mp (h i hi) with r | r
      · rcases List.mem_cons.mp hi with s | s
        · omega
        · have := hc1.1 i s
          omega
      · exact r
theorem asc_eq (hc : c.Pairwise (· < ·)) (he : e.Pairwise (· < ·)) (h : ∀ i, i ∈ c ↔ i ∈ e) : c = e :=
  (asc_sub hc he fun i hi => (h i).mp hi).eq_of_length_le (asc_sub he hc fun i hi => (h i).mpr hi).length_le
theorem sum_sub : ∀ {c e : List Int}, c.Sublist e → (∀ x ∈ e, 0 ≤ x) → c.sum ≤ e.sum
  | _, _, .slnil, _ => Int.le_refl _
  | _, _, .cons x s, h => by
    have := sum_sub s fun y hy => h y (List.mem_cons_of_mem _ hy)
    have := h x List.mem_cons_self
    rw [List.sum_cons]
    omega
  | _, _, .cons_cons x s, h => by
    have := sum_sub s fun y hy => h y (List.mem_cons_of_mem _ hy)
    rw [List.sum_cons, List.sum_cons]
    omega
theorem at0_pos (hz : ∀ z ∈ zs, 0 ≤ z) : 0 ≤ at0 zs i := by
  unfold at0
  rw [List.getD_eq_getElem?_getD]
  cases h : zs[i.toNat]? with
  | none => exact Int.le_refl _
  | some z => exact hz z (List.mem_of_getElem? h)
theorem cosum_sub (hz : ∀ z ∈ zs, 0 ≤ z) (h : c.Sublist e) : cosum zs c ≤ cosum zs e :=
  sum_sub (h.map _) fun x hx => by
    obtain ⟨i, _, rfl⟩ := List.mem_map.mp hx
    exact at0_pos hz
theorem okG.nn (hg : okG zs) : ∀ z ∈ zs, 0 ≤ z := fun z hz => by have := hg.pos z hz; omega
theorem win_up (hr : okR r) (hz : ∀ z ∈ zs, 0 ≤ z) (h : c.Sublist e) (hw : winC r zs rs c = true) : winC r zs rs e = true := winY_mono hr (cosum_sub hz h) hw
theorem won_iff : c ∈ wonL r zs rs ↔ c ∈ coals zs.length ∧ winC r zs rs c = true := List.mem_filter
theorem won_up (hr : okR r) (hz : ∀ z ∈ zs, 0 ≤ z) (hc : c ∈ wonL r zs rs) (he : e ∈ coals zs.length) (h : ∀ i ∈ c, i ∈ e) : e ∈ wonL r zs rs := by
  have h1 := won_iff.mp hc
  exact won_iff.mpr ⟨he, win_up hr hz (asc_sub (co_asc h1.1) (co_asc he) h) h1.2⟩
theorem less_mem : j ∈ less c i ↔ j ∈ c ∧ j ≠ i := by simp [less]
theorem less_len (h : i ∈ c) : (less c i).length < c.length := by
  unfold less
  rcases Nat.lt_or_ge (c.filter fun j => !decide (j = i)).length c.length with q | q
  · exact q
  · have e := List.filter_eq_self.mp ((List.filter_sublist (l := c) (p := fun j => !decide (j = i))).eq_of_length_le q)
    have := e i h
    simp at this
theorem least_iff : c ∈ leastL r zs rs ↔ c ∈ wonL r zs rs ∧ ∀ i ∈ c, less c i ∉ wonL r zs rs := by
  unfold leastL
  rw [List.mem_filter]
  refine and_congr Iff.rfl ?_
  simp only [Bool.not_eq_true', List.any_eq_false, memB_iff]
theorem least_in : ∀ (n : Nat) {c : List Int}, c.length ≤ n → c ∈ wonL r zs rs → ∃ e ∈ leastL r zs rs, ∀ i ∈ e, i ∈ c
  | n, c, hn, hc => by
    by_cases h : ∀ i ∈ c, less c i ∉ wonL r zs rs
    · exact ⟨c, least_iff.mpr ⟨hc, h⟩, fun i hi => hi⟩
    · have h : ∃ i, i ∈ c ∧ less c i ∈ wonL r zs rs := by
        apply Classical.byContradiction
        intro q
        exact h fun i hi hw => q ⟨i, hi, hw⟩
      obtain ⟨i, hi, hw⟩ := h
      have hl := less_len hi
      cases n with
      | zero => omega
      | succ n =>
        obtain ⟨e, he, hs⟩ := least_in n (c := less c i) (by omega) hw
        exact ⟨e, he, fun j hj => (less_mem.mp (hs j hj)).1⟩
theorem won_least (hc : c ∈ wonL r zs rs) : ∃ e ∈ leastL r zs rs, ∀ i ∈ e, i ∈ c := least_in c.length (Nat.le_refl _) hc
theorem least_won (h : c ∈ leastL r zs rs) : c ∈ wonL r zs rs := (least_iff.mp h).1
theorem least_anti (hr : okR r) (hz : ∀ z ∈ zs, 0 ≤ z) (hc : c ∈ leastL r zs rs) (he : e ∈ leastL r zs rs) (h : ∀ i ∈ c, i ∈ e) : c = e := by
  have h1 := least_iff.mp hc
  have h2 := least_iff.mp he
  have ac := won_co h1.1
  have ae := won_co h2.1
  refine asc_eq (co_asc ac) (co_asc ae) fun i => ⟨h i, fun hi => ?_⟩
  apply Classical.byContradiction
  intro q
  exact h2.2 i hi (won_up hr hz h1.1 (less_co ae) fun j hj => less_mem.mpr ⟨h j hj, fun z => q (z ▸ hj)⟩)
theorem sum_le_of {w : Int} {n : Nat} (hl : zs.length ≤ n) (h : ∀ z ∈ zs, z ≤ w) (h0 : 0 ≤ w) (hb : n * w ≤ 40) : zs.sum ≤ 40 := by
  have key : ∀ l : List Int, (∀ z ∈ l, z ≤ w) → l.sum ≤ l.length * w := by
    intro l
    induction l with
    | nil => intro _; simp
    | cons x l ih =>
      intro h
      have a := ih fun z hz => h z (List.mem_cons_of_mem _ hz)
      have b := h x List.mem_cons_self
      rw [List.sum_cons, List.length_cons]
      have : ((l.length + 1 : Nat) : Int) * w = l.length * w + w := by
        rw [Int.natCast_add, Int.add_mul]
        simp
      omega
  have a := key zs h
  have b : (zs.length : Int) * w ≤ n * w := Int.mul_le_mul_of_nonneg_right (by omega) h0
  omega
end
/-! ### stores that have grown -/
def Ext (st st' : Store) : Prop := ∀ (n : Nat) (c : Cell), st[n]? = some c → st'[n]? = some c
section
variable {st st' st2 : Store} {env env' : Env} {i j : Nat} {N : Env → Store → Prop} {xs : List MV}
theorem Ext.refl : Ext st st := fun _ _ h => h
theorem Ext.trans (h : Ext st st') (h2 : Ext st' st2) : Ext st st2 := fun n c e => h2 n c (h n c e)
theorem Ext.src (h : Ext st st') (s : Src st i) : Src st' i := by
  obtain ⟨a, b, e⟩ := s
  exact ⟨a, b, h _ _ e⟩
theorem Ext.app {ext : Store} : Ext st (st ++ ext) := fun n c e => by
  rw [List.getElem?_append_left (List.getElem?_eq_some_iff.mp e).1]
  exact e
theorem Ext.len (h : Ext st st') : st.length ≤ st'.length := by
  rcases Nat.eq_zero_or_pos st.length with e | e
  · omega
  · have h1 := h (st.length - 1) _ (List.getElem?_eq_getElem (by omega))
    have := (List.getElem?_eq_some_iff.mp h1).1
    omega
theorem lt_of {c : Cell} (h : st[j]? = some c) : j < st.length := (List.getElem?_eq_some_iff.mp h).1
/-- a list stored: its cell is new -/
theorem h_lstG (h1 : noLsts xs = true) (h : ∀ (j : Nat) (st' : Store), st'[j]? = some (.lst xs) → Ext st st' → st.length ≤ j → ∃ env', env.set i (some (.ref j)) = env' ∧ N env' st') : Wp (asgT (.nm i) (.lst xs) env st) N := by
  obtain ⟨env', e, q⟩ := h st.length (st ++ [.lst xs]) cellN Ext.app (Nat.le_refl _)
  exact h_lst h1 e q
/-- two lists stored -/
theorem h_tupLLG {i1 i2 : Nat} {ys : List MV} (h1 : noLsts xs = true) (h2 : noLsts ys = true) (h : ∀ (j k : Nat) (st' : Store), st'[j]? = some (.lst xs) → st'[k]? = some (.lst ys) → Ext st st' → st.length ≤ j → st.length ≤ k → j ≠ k → ∃ env', asgs [i1, i2] [.ref j, .ref k] env = env' ∧ N env' st') : Wp (asgT (.nms [i1, i2]) (.tup [.lst xs, .lst ys]) env st) N := by
  obtain ⟨env', e, q⟩ := h st.length (st.length + 1) (st ++ [.lst xs, .lst ys]) (by simp) (by simp) Ext.app (Nat.le_refl _) (by omega) (by omega)
  refine ⟨_, _, ?_, q⟩
  rw [← e]
  simp [asgT, allocs, alloc, allocs_idp h1, allocs_idp h2]
/-- a list and a plain value stored -/
theorem h_tupLVG {i1 i2 : Nat} {v : MV} (h1 : noLsts xs = true) (h2 : noLst v = true) (h : ∀ (j : Nat) (st' : Store), st'[j]? = some (.lst xs) → Ext st st' → st.length ≤ j → ∃ env', asgs [i1, i2] [.ref j, v] env = env' ∧ N env' st') : Wp (asgT (.nms [i1, i2]) (.tup [.lst xs, v]) env st) N := by
  obtain ⟨env', e, q⟩ := h st.length (st ++ [.lst xs]) cellN Ext.app (Nat.le_refl _)
  refine ⟨_, _, ?_, q⟩
  rw [← e]
  simp [asgT, allocs, alloc, allocs_idp h1, alloc_idp h2]
theorem h_tupVLG {i1 i2 : Nat} {v : MV} (h1 : noLsts xs = true) (h2 : noLst v = true) (h : ∀ (j : Nat) (st' : Store), st'[j]? = some (.lst xs) → Ext st st' → st.length ≤ j → ∃ env', asgs [i1, i2] [v, .ref j] env = env' ∧ N env' st') : Wp (asgT (.nms [i1, i2]) (.tup [v, .lst xs]) env st) N := by
  obtain ⟨env', e, q⟩ := h st.length (st ++ [.lst xs]) cellN Ext.app (Nat.le_refl _)
  refine ⟨_, _, ?_, q⟩
  rw [← e]
  simp [asgT, allocs, alloc, allocs_idp h1, alloc_idp h2]
/-- all cells but one stay -/
def ExtBut (a : Nat) (st st' : Store) : Prop := ∀ (n : Nat) (c : Cell), n ≠ a → st[n]? = some c → st'[n]? = some c
theorem ExtBut.refl {a : Nat} : ExtBut a st st := fun _ _ _ h => h
theorem ExtBut.set {a : Nat} {c : Cell} (h : ExtBut a st st') : ExtBut a st (st'.set a c) := fun n c hn e => by
  rw [List.getElem?_set_ne (Ne.symm hn)]
  exact h n c hn e
theorem ExtBut.ext {a : Nat} (h : ExtBut a st st') (h2 : Ext st' st2) : ExtBut a st st2 := fun n c hn e => h2 n c (h n c hn e)
theorem ExtBut.src {a : Nat} (h : ExtBut a st st') (hn : i ≠ a) (s : Src st i) : Src st' i := by
  obtain ⟨x, b, e⟩ := s
  exact ⟨x, b, h _ _ hn e⟩
/-- the source moves: all other cells stay -/
theorem Upd.cell {i j : Nat} {c : Cell} (h : Upd st i st') (hj : j ≠ i) (e : st[j]? = some c) : st'[j]? = some c := h.get hj e
theorem u_refI {ks : List Int} {k n : Int} {Q : MV → Store → Prop} (hj : st[j]? = some (.lst (ks.map MV.int))) (h0 : 0 ≤ k) (h : ks[k.toNat]? = some n) (q : Q (.int n) st) : Wp (subM (.ref j) (.int k) st) Q := u_ref (m := .int n) hj (by simp [atM, h0, h]) q
theorem u_refE {α : Type} {enc : α → MV} {xs : List α} {k : Int} {a : α} {Q : MV → Store → Prop} (hj : st[j]? = some (.lst (xs.map enc))) (h0 : 0 ≤ k) (h : xs[k.toNat]? = some a) (q : Q (enc a) st) : Wp (subM (.ref j) (.int k) st) Q := u_ref (m := enc a) hj (by simp [atM, h0, h]) q
theorem b_listR {c : List Int} {Q : MV → Store → Prop} (q : Q (.lst (c.map MV.int)) st) : Wp (bltM .list [rowMV c] st) Q := ⟨_, st, rfl, q⟩
theorem b_tupRef {xs : List MV} {Q : MV → Store → Prop} (hj : st[j]? = some (.lst xs)) (q : Q (.tup xs) st) : Wp (bltM .tuple [.ref j] st) Q := b_tup (by simp [seqOf, hj]) q
theorem b_lenRl {r : List Cd} {Q : MV → Store → Prop} (q : Q (.int r.length) st) : Wp (bltM .len [encR r] st) Q := ⟨.int (r.map encC).length, st, rfl, by rw [List.length_map]; exact q⟩
theorem u_kind {c : Cd} {Q : MV → Store → Prop} (q : Q (.str c.kind) st) : Wp (subM (encC c) (.int 0) st) Q := u_tup (m := .str c.kind) rfl q
theorem i_rule {Φ : Phi} {r : List Cd} {a : E} (h : Wp (ev Φ a env st) fun x s => x = encR r ∧ s = st) : Wp (evi Φ (.ex a) env st) fun q s => q = ([], r.map encC) ∧ s = st := i_tup (encCs_noLst r) h
/-- both sides evaluated -/
theorem w_andP {Φ : Phi} {a b : E} {Q : MV → Store → Prop} (h : Wp (ev Φ a env st) fun x s => ∃ k, x = .bl k ∧ Wp (ev Φ b env s) fun y s' => ∃ l, y = .bl l ∧ s' = s ∧ Q (.bl (k && l)) s) : Wp (ev Φ (.and a b) env st) Q := by
  refine w_and (h.mono ?_)
  rintro _ s ⟨k, rfl, h⟩
  refine ⟨k, rfl, fun hk => h.mono ?_, fun hk => ?_⟩
  · rintro _ _ ⟨l, rfl, rfl, q⟩
    rw [hk] at q
    exact q
  · obtain ⟨y, s', _, l, _, _, q⟩ := h
    rw [hk] at q
    exact q
theorem w_orP {Φ : Phi} {a b : E} {Q : MV → Store → Prop} (h : Wp (ev Φ a env st) fun x s => ∃ k, x = .bl k ∧ Wp (ev Φ b env s) fun y s' => ∃ l, y = .bl l ∧ s' = s ∧ Q (.bl (k || l)) s) : Wp (ev Φ (.or a b) env st) Q := by
  refine w_or (h.mono ?_)
  rintro _ s ⟨k, rfl, h⟩
  refine ⟨k, rfl, fun hk => ?_, fun hk => h.mono ?_⟩
  · obtain ⟨y, s', _, l, _, _, q⟩ := h
    rw [hk] at q
    exact q
  · rintro _ _ ⟨l, rfl, rfl, q⟩
    rw [hk] at q
    exact q
theorem rangeL_eq {n : Nat} : rangeM false 0 (n : Int) = .lst ((rngL 0 n).map MV.int) := by rw [rangeM, range_L]
theorem get_rng {α : Type} {f : Int → α} {n : Nat} {k : Int} (h0 : 0 ≤ k) (h1 : k < n) : ((rngL 0 n).map f)[k.toNat]? = some (f k) := by
  unfold rngL
  rw [List.getElem?_map, List.getElem?_map, List.getElem?_range (by omega)]
  simp
  congr 1
  omega
theorem o_mulLst {xs : List MV} {k : Int} {Q : MV → Store → Prop} (h1 : noLsts xs = true) (h2 : 0 ≤ k) (h3 : k ≤ 1000) (h4 : xs.length ≤ 1000) (q : Q (.lst (repM xs k)) st) : Wp (binM .mul (.lst xs) (.int k) st) Q := by
  refine ⟨_, st, ?_, q⟩
  show chk (noLsts xs && (decide (0 ≤ k) && (decide (k ≤ 1000) && decide (xs.length ≤ 1000)))) (Out.val (MV.lst (repM xs k)) st) = _
  rw [h1, decide_eq_true h2, decide_eq_true h3, decide_eq_true h4]
  rfl
theorem o_mulTup {xs : List MV} {k : Int} {Q : MV → Store → Prop} (h0 : xs ≠ []) (h1 : noLsts xs = true) (h2 : 1 ≤ k) (h3 : k ≤ 1000) (h4 : xs.length ≤ 1000) (q : Q (.tup (repM xs k)) st) : Wp (binM .mul (.tup xs) (.int k) st) Q := by
  refine ⟨_, st, ?_, q⟩
  show chk (!xs.isEmpty && (noLsts xs && (decide (1 ≤ k) && (decide (k ≤ 1000) && decide (xs.length ≤ 1000))))) (Out.val (MV.tup (repM xs k)) st) = _
  rw [h1, decide_eq_true h2, decide_eq_true h3, decide_eq_true h4]
  cases xs with
  | nil => exact absurd rfl h0
  | cons x xs => rfl
theorem repM_one {α : Type} {f : α → MV} {x : α} {k : Int} : repM [f x] k = (List.replicate k.toNat x).map f := by
  unfold repM
  generalize k.toNat = n
  induction n with
  | zero => rfl
  | succ n ih => rw [List.replicate_succ, List.flatten_cons, ih, List.replicate_succ]; rfl
end
/-! ### counts -/
theorem sub_len {α : Type} [DecidableEq α] : ∀ {l m : List α}, l.Nodup → (∀ x ∈ l, x ∈ m) → l.length ≤ m.length
  | [], m, _, _ => Nat.zero_le _
  | x :: l, m, hn, hs => by
    obtain ⟨h1, h2⟩ := List.nodup_cons.mp hn
    have hx : x ∈ m := hs x List.mem_cons_self
    have ih := sub_len (l := l) (m := m.erase x) h2 fun y hy => (List.mem_erase_of_ne fun (e : y = x) => h1 (by rw [← e]; exact hy)).2 (hs y (List.mem_cons_of_mem _ hy))
    have e := List.length_erase_of_mem hx
    have hp := List.length_pos_of_mem hx
    rw [List.length_cons]
    omega
theorem map_nodup {α β : Type} {f : α → β} : ∀ {l : List α}, l.Nodup → (∀ a ∈ l, ∀ b ∈ l, f a = f b → a = b) → (l.map f).Nodup
  | [], _, _ => List.nodup_nil
  | x :: l, hn, h => by
    obtain ⟨h1, h2⟩ := List.nodup_cons.mp hn
    rw [List.map_cons, List.nodup_cons]
    refine ⟨fun q => ?_, map_nodup h2 fun a ha b hb => h a (List.mem_cons_of_mem _ ha) b (List.mem_cons_of_mem _ hb)⟩
    obtain ⟨y, hy, e⟩ := List.mem_map.mp q
    rw [h x List.mem_cons_self y (List.mem_cons_of_mem _ hy) e.symm] at h1
    exact h1 hy
theorem inj_len {α β : Type} [DecidableEq β] {f : α → β} {l : List α} {m : List β} (hn : l.Nodup) (hs : ∀ a ∈ l, f a ∈ m) (h : ∀ a ∈ l, ∀ b ∈ l, f a = f b → a = b) : l.length ≤ m.length := by
  have := sub_len (map_nodup hn h) (m := m) fun y hy => by
    obtain ⟨a, ha, rfl⟩ := List.mem_map.mp hy
    exact hs a ha
  rwa [List.length_map] at this
theorem rng_nodup {a b : Int} : (rngL a b).Nodup := rngL_lt.imp fun h => by omega
theorem dbl_nodup : ∀ {is : List Int}, is.Nodup → (dbl is).Nodup := by
  intro is
  suffices k : ∀ (is : List Int) (f : List (List Int)), f.Nodup → is.Nodup → (∀ c ∈ f, ∀ i ∈ is, i ∉ c) → (is.foldl dblS f).Nodup from fun h => k is [[]] (by simp) h (by simp)
  intro is
  induction is with
  | nil => intro f hf _ _; exact hf
  | cons i is ih =>
    intro f hf hi hd
    obtain ⟨h1, h2⟩ := List.nodup_cons.mp hi
    rw [List.foldl_cons]
    refine ih _ ?_ h2 fun c hc j hj => ?_
    · rw [dblS, List.nodup_append]
      refine ⟨hf, map_nodup hf fun a _ b _ e => by simpa using e, fun a ha b hb e => ?_⟩
      obtain ⟨c, _, rfl⟩ := List.mem_map.mp hb
      exact hd a ha i List.mem_cons_self (by rw [e]; simp)
    · rcases List.mem_append.mp hc with hc | hc
      · exact hd c hc j (List.mem_cons_of_mem _ hj)
      · obtain ⟨c', hc', rfl⟩ := List.mem_map.mp hc
        intro q
        rcases List.mem_append.mp q with q | q
        · exact hd c' hc' j (List.mem_cons_of_mem _ hj) q
        · have : j = i := by simpa using q
          exact h1 (this ▸ hj)
theorem coals_nodup {n : Int} : (coals n).Nodup := (isort_perm' _ _).nodup_iff.mpr (dbl_nodup rng_nodup)
section
variable {r o : List Cd} {m y y' : Int} {rs : Str} {zs c e : List Int} {n : Nat} {i j : Int}
theorem won_nodup : (wonL r zs rs).Nodup := coals_nodup.filter _
theorem cosum_less (hc : c.Nodup) (hi : i ∈ c) : cosum zs c = cosum zs (less c i) + at0 zs i := by
  unfold cosum
  induction c with
  | nil => cases hi
  | cons x c ih =>
    obtain ⟨h1, h2⟩ := List.nodup_cons.mp hc
    rw [List.map_cons, List.sum_cons]
    by_cases q : x = i
    · subst q
      have e : less (x :: c) x = c := by
        unfold less
        rw [List.filter_cons]
        simp only [decide_true, Bool.not_true, Bool.false_eq_true, if_false]
        rw [List.filter_eq_self]
        intro y hy
        have : y ≠ x := fun z => h1 (z ▸ hy)
        simp [this]
      rw [e]
      omega
    · have hi2 : i ∈ c := by
        rcases List.mem_cons.mp hi with z | z
        · exact absurd z.symm q
        · exact z
      have e : less (x :: c) i = x :: less c i := by
        unfold less
        rw [List.filter_cons]
        simp [q]
      rw [e, List.map_cons, List.sum_cons, ih h2 hi2]
      omega
/-- a coalition with one group more -/
def put (n : Nat) (c : List Int) (i : Int) : List Int := (rngL 0 n).filter fun k => decide (k = i) || memB k c
theorem put_co {n : Nat} : put n c i ∈ coals n := coals_mem.mpr List.filter_sublist
theorem put_mem {n : Nat} (hc : c ∈ coals n) (h0 : 0 ≤ i) (h1 : i < n) : j ∈ put n c i ↔ j = i ∨ j ∈ c := by
  unfold put
  rw [List.mem_filter, rngL_mem, Bool.or_eq_true, decide_eq_true_eq, memB_iff]
  constructor
  · exact fun h => h.2
  · rintro (rfl | h)
    · exact ⟨⟨h0, h1⟩, .inl rfl⟩
    · exact ⟨co_okI hc j h, .inr h⟩
theorem co_nodup {k : Int} (h : c ∈ coals k) : c.Nodup := (co_asc h).imp fun h => by omega
theorem less_put {n : Nat} (hc : c ∈ coals n) (h0 : 0 ≤ i) (h1 : i < n) (hi : i ∉ c) : less (put n c i) i = c :=
  asc_eq (co_asc (less_co put_co)) (co_asc hc) fun j => by
    rw [less_mem, put_mem hc h0 h1]
    constructor
    · rintro ⟨rfl | h, q⟩
      · exact absurd rfl q
      · exact h
    · exact fun h => ⟨.inr h, fun z => hi (z ▸ h)⟩
theorem cosum_put {n : Nat} (hc : c ∈ coals n) (h0 : 0 ≤ i) (h1 : i < n) (hi : i ∉ c) : cosum zs (put n c i) = cosum zs c + at0 zs i := by
  rw [cosum_less (co_nodup put_co) ((put_mem hc h0 h1).mpr (.inl rfl)), less_put hc h0 h1 hi]
theorem swing_iff : c ∈ swingOf r zs rs i ↔ c ∈ wonL r zs rs ∧ i ∈ c ∧ less c i ∉ wonL r zs rs := by
  unfold swingOf
  rw [List.mem_filter]
  simp [swingP, memB_iff, memB_no]
/-- a greater group decides at least as often -/
theorem swing_le (hr : okR r) (hi0 : 0 ≤ i) (hi1 : i < zs.length) (h : at0 zs j ≤ at0 zs i) : (swingOf r zs rs j).length ≤ (swingOf r zs rs i).length := by
  by_cases hij : i = j
  · rw [hij]
    exact Nat.le_refl _
  refine inj_len (f := fun c => if memB i c then c else put zs.length (less c j) i) (won_nodup.filter _) (fun c hc => ?_) fun a ha b hb e => ?_
  · obtain ⟨h1, h2, h3⟩ := swing_iff.mp hc
    have hco := won_co h1
    have hw := (won_iff.mp h1).2
    have e1 := cosum_less (zs := zs) (co_nodup hco) h2
    have hl : winC r zs rs (less c j) = false := by
      cases q : winC r zs rs (less c j) with
      | false => rfl
      | true => exact absurd (won_iff.mpr ⟨less_co hco, q⟩) h3
    by_cases q : i ∈ c
    · simp only [memB_iff.mpr q, if_true]
      refine swing_iff.mpr ⟨h1, q, fun z => ?_⟩
      have e2 := cosum_less (zs := zs) (co_nodup hco) q
      have := winY_mono hr (y := cosum zs (less c i)) (y' := cosum zs (less c j)) (by omega) (won_iff.mp z).2
      exact absurd (hl.symm.trans this) (by decide)
    · simp only [memB_no.mpr q, Bool.false_eq_true, if_false]
      have hco2 := less_co (i := j) hco
      have q2 : i ∉ less c j := fun z => q (less_mem.mp z).1
      refine swing_iff.mpr ⟨won_iff.mpr ⟨put_co, ?_⟩, (put_mem hco2 hi0 hi1).mpr (.inl rfl), ?_⟩
      · refine winY_mono hr (y := cosum zs c) ?_ hw
        rw [cosum_put hco2 hi0 hi1 q2]
        omega
      · rw [less_put hco2 hi0 hi1 q2]
        exact h3
  · obtain ⟨a1, a2, a3⟩ := swing_iff.mp ha
    obtain ⟨b1, b2, b3⟩ := swing_iff.mp hb
    have ca := won_co a1
    have cb := won_co b1
    have la := less_co (i := j) ca
    have lb := less_co (i := j) cb
    have nj : ∀ {c : List Int}, less c j ∈ coals zs.length → j ∉ put zs.length (less c j) i := fun h z => by
      rcases (put_mem h hi0 hi1).mp z with z | z
      · exact hij z.symm
      · exact (less_mem.mp z).2 rfl
    have e : (if memB i a then a else put zs.length (less a j) i) = (if memB i b then b else put zs.length (less b j) i) := e
    by_cases qa : i ∈ a
    · rw [memB_iff.mpr qa, if_pos rfl] at e
      by_cases qb : i ∈ b
      · rw [memB_iff.mpr qb, if_pos rfl] at e
        exact e
      · rw [memB_no.mpr qb, if_neg (by decide)] at e
        exact absurd (e ▸ a2) (nj lb)
    · rw [memB_no.mpr qa, if_neg (by decide)] at e
      by_cases qb : i ∈ b
      · rw [memB_iff.mpr qb, if_pos rfl] at e
        exact absurd (e ▸ b2) (nj la)
      · rw [memB_no.mpr qb, if_neg (by decide)] at e
        have ia : i ∉ less a j := fun z => qa (less_mem.mp z).1
        have ib : i ∉ less b j := fun z => qb (less_mem.mp z).1
        have e2 : less a j = less b j := by rw [← less_put la hi0 hi1 ia, e, less_put lb hi0 hi1 ib]
        refine asc_eq (co_asc ca) (co_asc cb) fun k => ?_
        have hk : k ∈ less a j ↔ k ∈ less b j := by rw [e2]
        rw [less_mem, less_mem] at hk
        by_cases kj : k = j
        · subst kj
          exact ⟨fun _ => b2, fun _ => a2⟩
        · constructor
          · exact fun h => (hk.mp ⟨h, kj⟩).1
          · exact fun h => (hk.mpr ⟨h, kj⟩).1
theorem swing_least (hr : okR r) (hz : ∀ z ∈ zs, 0 ≤ z) : 0 < (swingOf r zs rs i).length ↔ ∃ c ∈ leastL r zs rs, i ∈ c := by
  rw [List.length_pos_iff_exists_mem]
  constructor
  · rintro ⟨c, hc⟩
    obtain ⟨h1, h2, h3⟩ := swing_iff.mp hc
    obtain ⟨e, he, hs⟩ := won_least h1
    refine ⟨e, he, ?_⟩
    apply Classical.byContradiction
    intro q
    exact h3 (won_up hr hz (least_won he) (less_co (won_co h1)) fun j hj => less_mem.mpr ⟨hs j hj, fun z => q (z ▸ hj)⟩)
  · rintro ⟨c, hc, hi⟩
    have h1 := least_iff.mp hc
    exact ⟨c, swing_iff.mpr ⟨h1.1, hi, h1.2 i hi⟩⟩
theorem nil_co {n : Nat} : ([] : List Int) ∈ coals n := coals_mem.mpr (List.nil_sublist _)
theorem swing_nil (hr : okR r) (hz : ∀ z ∈ zs, 0 ≤ z) (h : [] ∈ wonL r zs rs) : swingOf r zs rs i = [] := by
  rw [List.eq_nil_iff_forall_not_mem]
  intro c hc
  obtain ⟨h1, h2, h3⟩ := swing_iff.mp hc
  exact h3 (won_up hr hz h (less_co (won_co h1)) fun j hj => by cases hj)
/-! ### vetoes -/
theorem less_all {n : Nat} {c : List Int} (hc : c ∈ coals n) (hi : i ∉ c) : ∀ j ∈ c, j ∈ less (rngL 0 n) i := fun j hj => less_mem.mpr ⟨(coals_mem.mp hc).subset hj, fun z => hi (z ▸ hj)⟩
theorem veto_iff (hr : okR r) (hz : ∀ z ∈ zs, 0 ≤ z) : winC r zs rs (less (rngL 0 zs.length) i) = false ↔ ∀ c ∈ wonL r zs rs, i ∈ c := by
  constructor
  · intro h c hc
    apply Classical.byContradiction
    intro q
    have := (won_iff.mp (won_up hr hz hc (less_co all_rng) (less_all (won_co hc) q))).2
    rw [h] at this
    cases this
  · intro h
    cases q : winC r zs rs (less (rngL 0 zs.length) i) with
    | false => rfl
    | true => exact absurd rfl (less_mem.mp (h _ (won_iff.mpr ⟨less_co all_rng, q⟩))).2
theorem veto_least (hr : okR r) (hz : ∀ z ∈ zs, 0 ≤ z) : winC r zs rs (less (rngL 0 zs.length) i) = false ↔ ∀ c ∈ leastL r zs rs, i ∈ c := by
  rw [veto_iff hr hz]
  constructor
  · exact fun h c hc => h c (least_won hc)
  · intro h c hc
    obtain ⟨e, he, hs⟩ := won_least hc
    exact hs i (h e he)
theorem vetoL_mem (hr : okR r) (hz : ∀ z ∈ zs, 0 ≤ z) : i ∈ vetoL r zs rs ↔ (0 ≤ i ∧ i < zs.length) ∧ ∀ c ∈ leastL r zs rs, i ∈ c := by
  unfold vetoL
  rw [List.mem_filter, rngL_mem, Bool.not_eq_true', veto_least hr hz]
theorem veto_asc : (vetoL r zs rs).Pairwise (· < ·) := rngL_lt.filter _
end
end QR

set_option Elab.async false
set_option linter.all false
set_option maxRecDepth 100000
set_option maxHeartbeats 4000000
/-! QG6: costs drawn, games that are the same, shares compared. -/
namespace QR
open PySem
section
variable {Φ : Phi} {env env' : Env} {st st' : Store} {Q : MV → Store → Prop} {i v g : Nat} {e : E} {zs : List Int} {lo hi : Int}
theorem cloop_draw {f : MV → Store → Out (Option MV)} : ∀ {items : List MV} {st : Store}, Src st i → (∀ x ∈ items, ∀ s, Upd st i s → Wp (f x s) fun y s' => ∃ q, y = some (.int q) ∧ lo ≤ q ∧ q ≤ hi ∧ Upd s i s') →
    Wp (cloop [] f items st) fun ys s => ∃ cs : List Int, ys = cs.map MV.int ∧ cs.length = items.length ∧ (∀ z ∈ cs, lo ≤ z ∧ z ≤ hi) ∧ Upd st i s
  | [], st, hs, _ => by
    unfold cloop
    exact Wp_chk.mpr ⟨rfl, Wp_val.mpr ⟨[], rfl, rfl, (fun _ z => nomatch z), Upd.refl hs⟩⟩
  | x :: r, st, hs, h => by
    unfold cloop
    refine Wp_chk.mpr ⟨rfl, w_bind ((h x List.mem_cons_self st (Upd.refl hs)).mono ?_)⟩
    rintro _ s1 ⟨q, rfl, q1, q2, u⟩
    refine w_bind ((cloop_draw (items := r) (u.src hs.lt) fun y hy s hu => h y (List.mem_cons_of_mem _ hy) s (u.trans hu)).mono ?_)
    rintro _ s2 ⟨cs, rfl, hl, hc, u2⟩
    refine Wp_val.mpr ⟨q :: cs, rfl, by simp [hl], fun z hz => ?_, u.trans u2⟩
    rcases List.mem_cons.mp hz with z1 | z1
    · rw [z1]; exact ⟨q1, q2⟩
    · exact hc z z1
/-- [draw for _ in groups] -/
theorem w_compD (hv : env[g]? = some (some (rowMV zs))) (hz : zs.length ≤ 1000) (hs : Src st i) (he : ∀ z s, Upd st i s → Wp (ev Φ e (env.set v (some (.int z))) s) fun y s' => ∃ q, y = .int q ∧ lo ≤ q ∧ q ≤ hi ∧ Upd s i s')
    (q : ∀ (cs : List Int) (s : Store), cs.length = zs.length → (∀ z ∈ cs, lo ≤ z ∧ z ≤ hi) → Upd st i s → Q (.lst (cs.map MV.int)) s) : Wp (ev Φ (.comp e (.nm v) (.ex (.var g)) (.cst (.bl true))) env st) Q := by
  refine w_comp ?_
  refine (i_row (w_var hv ⟨rfl, rfl⟩)).mono ?_
  rintro _ _ ⟨rfl, rfl⟩
  refine ⟨by rw [List.length_map]; exact big_ok (by omega), ?_⟩
  refine (cloop_draw (lo := lo) (hi := hi) hs fun x hx s hu => ?_).mono ?_
  · obtain ⟨z, hz, rfl⟩ := List.mem_map.mp hx
    refine w_turn (g_int (w_cst ⟨true, rfl, fun _ => (he z s hu).mono ?_, (fun z => nomatch z)⟩))
    rintro _ s' ⟨q, rfl, q1, q2, u⟩
    exact ⟨q, rfl, q1, q2, u⟩
  · rintro _ s ⟨cs, rfl, hl, hc, u⟩
    exact q cs s (by rw [hl]; exact List.length_map _) hc u
theorem u_P0 {p : Int × Int} (q : Q (.int p.1) st) : Wp (subM (encP p) (.int 0) st) Q := u_tup (m := .int p.1) rfl q
theorem u_P1 {p : Int × Int} (q : Q (.int p.2) st) : Wp (subM (encP p) (.int 1) st) Q := u_tup (m := .int p.2) rfl q
theorem u_K0 {p : Int × List Int} (q : Q (.int p.1) st) : Wp (subM (encK p) (.int 0) st) Q := u_tup (m := .int p.1) rfl q
theorem u_K1 {p : Int × List Int} (q : Q (rowMV p.2) st) : Wp (subM (encK p) (.int 1) st) Q := u_tup (m := rowMV p.2) rfl q
end
/-! ### games that are the same -/
section
variable {r o : List Cd} {m y f : Int} {rs s t : Str} {zs zs' c e cs : List Int} {i j : Int}
structure Same (r : List Cd) (zs : List Int) (rs : Str) (r' : List Cd) (zs' : List Int) (rs' : Str) : Prop where
  len : zs'.length = zs.length
  win : ∀ c ∈ coals zs.length, winC r' zs' rs' c = winC r zs rs c
theorem Same.won (h : Same r zs rs o zs' s) : wonL o zs' s = wonL r zs rs := by
  unfold wonL
  rw [h.len]
  exact List.filter_congr fun c hc => h.win c hc
theorem Same.least (h : Same r zs rs o zs' s) : leastL o zs' s = leastL r zs rs := by
  unfold leastL
  rw [h.won]
theorem Same.swingOf (h : Same r zs rs o zs' s) : QR.swingOf o zs' s i = QR.swingOf r zs rs i := by
  unfold QR.swingOf
  rw [h.won]
theorem Same.swing (h : Same r zs rs o zs' s) : swingL o zs' s = swingL r zs rs := by
  unfold swingL
  rw [h.len]
  exact List.map_congr_left fun k _ => by rw [h.swingOf]
theorem Same.share (h : Same r zs rs o zs' s) : shareL o zs' s = shareL r zs rs := by
  unfold shareL topI
  rw [h.len]
  exact List.map_congr_left fun k _ => by rw [h.swingOf]
theorem Same.veto (h : Same r zs rs o zs' s) : vetoL o zs' s = vetoL r zs rs := by
  unfold vetoL
  rw [h.len]
  exact List.filter_congr fun k _ => by rw [h.win _ (less_co all_rng)]
theorem Same.few (h : Same r zs rs o zs' s) : fewO o zs' s = fewO r zs rs := by
  unfold fewO
  rw [h.won]
theorem Same.cheap (h : Same r zs rs o zs' s) : cheapO o zs' s cs = cheapO r zs rs cs := by
  unfold cheapO
  rw [h.won]
/-! ### all sizes greater by one factor -/
theorem at0_mul : at0 (zs.map fun z => f * z) i = f * at0 zs i := by
  unfold at0
  rw [List.getD_eq_getElem?_getD, List.getD_eq_getElem?_getD, List.getElem?_map]
  cases zs[i.toNat]? with
  | none => simp
  | some z => rfl
theorem sum_mul {α : Type} {g : α → Int} : ∀ {l : List α}, (l.map fun a => f * g a).sum = f * (l.map g).sum
  | [] => by simp
  | a :: l => by
    rw [List.map_cons, List.sum_cons, sum_mul, List.map_cons, List.sum_cons, Int.mul_add]
theorem cosum_mul : cosum (zs.map fun z => f * z) c = f * cosum zs c := by
  unfold cosum
  rw [← sum_mul (g := at0 zs)]
  congr 1
  exact List.map_congr_left fun i _ => at0_mul
theorem pos_mul {c : Cd} (hf : 0 < f) {v : Int} : pos c (f * v) = pos c v := by
  unfold pos
  cases c.more
  · simp only [Bool.false_eq_true, if_false]
    congr 1
    refine propext ⟨fun h => ?_, fun h => Int.mul_nonneg (by omega) h⟩
    apply Classical.byContradiction
    intro q
    have := Int.mul_lt_mul_of_pos_left (show v < 0 by omega) hf
    simp at this
    omega
  · simp only [if_true]
    congr 1
    refine propext ⟨fun h => ?_, fun h => Int.mul_pos hf h⟩
    apply Classical.byContradiction
    intro q
    have := Int.mul_le_mul_of_nonneg_left (show v ≤ 0 by omega) (Int.le_of_lt hf)
    simp at this
    omega
theorem lin_mul {c : Cd} {n b : Int} : lin c (f * m) (f * y) (f * n) (f * b) = f * lin c m y n b := by
  unfold lin
  simp only [Int.mul_add, Int.mul_assoc]
theorem pass_mul (hr : okR r) (hf : 0 < f) {n b : Int} : passR r (f * m) (f * y) (f * n) (f * b) = passR r m y n b := by
  rw [Bool.eq_iff_iff, pass_iff hr, pass_iff hr]
  exact forall_congr' fun c => forall_congr' fun _ => by rw [lin_mul, pos_mul hf]
theorem winY_mul (hr : okR r) (hf : 0 < f) : winY r (f * m) rs (f * y) = winY r m rs y := by
  unfold winY
  rw [← pass_mul hr hf (m := m)]
  congr 1
  · split
    · rw [Int.mul_sub]
    · simp
  · split
    · rw [Int.mul_sub]
    · simp
theorem same_mul (hr : okR r) (hf : 0 < f) : Same r zs rs r (zs.map fun z => f * z) rs := by
  refine ⟨by simp, fun c _ => ?_⟩
  unfold winC
  rw [cosum_mul, show (zs.map fun z => f * z).sum = f * zs.sum by
    have := sum_mul (f := f) (g := fun z : Int => z) (l := zs)
    simpa using this]
  exact winY_mul hr hf
/-! ### sums over injections -/
theorem sum_nn {α : Type} {g : α → Int} : ∀ {l : List α}, (∀ a ∈ l, 0 ≤ g a) → 0 ≤ (l.map g).sum
  | [], _ => by simp
  | a :: l, h => by
    rw [List.map_cons, List.sum_cons]
    have := h a List.mem_cons_self
    have := sum_nn (l := l) fun b hb => h b (List.mem_cons_of_mem _ hb)
    omega
theorem sum_erase {α : Type} [DecidableEq α] {g : α → Int} : ∀ {l : List α} {x : α}, x ∈ l → (l.map g).sum = g x + ((l.erase x).map g).sum
  | y :: l, x, h => by
    by_cases e : y = x
    · subst e
      rw [List.erase_cons_head, List.map_cons, List.sum_cons]
    · have hx : x ∈ l := by
        rcases List.mem_cons.mp h with q | q
        · exact absurd q.symm e
        · exact q
      rw [List.erase_cons_tail (by simpa using e), List.map_cons, List.sum_cons, List.map_cons, List.sum_cons, sum_erase hx]
      omega
theorem sub_sum {α : Type} [DecidableEq α] {g : α → Int} : ∀ {l m : List α}, l.Nodup → (∀ x ∈ l, x ∈ m) → (∀ x ∈ m, 0 ≤ g x) → (l.map g).sum ≤ (m.map g).sum
  | [], m, _, _, h => by
    simpa using sum_nn h
  | x :: l, m, hn, hs, h => by
    obtain ⟨h1, h2⟩ := List.nodup_cons.mp hn
    have hx : x ∈ m := hs x List.mem_cons_self
    have ih := sub_sum (l := l) (m := m.erase x) h2 (fun y hy => (List.mem_erase_of_ne fun (e : y = x) => h1 (by rw [← e]; exact hy)).2 (hs y (List.mem_cons_of_mem _ hy))) fun y hy => h y (List.mem_of_mem_erase hy)
    rw [List.map_cons, List.sum_cons, sum_erase hx]
    omega
theorem inj_sum {α β : Type} [DecidableEq β] {f : α → β} {g : α → Int} {h : β → Int} {l : List α} {m : List β} (hn : l.Nodup) (hs : ∀ a ∈ l, f a ∈ m) (hi : ∀ a ∈ l, ∀ b ∈ l, f a = f b → a = b) (he : ∀ a ∈ l, h (f a) = g a) (h0 : ∀ b ∈ m, 0 ≤ h b) : (l.map g).sum ≤ (m.map h).sum := by
  have := sub_sum (g := h) (map_nodup hn hi) (m := m) (fun y hy => by
    obtain ⟨a, ha, rfl⟩ := List.mem_map.mp hy
    exact hs a ha) h0
  rw [List.map_map] at this
  rw [show (l.map g) = l.map (h ∘ f) from List.map_congr_left fun a ha => (he a ha).symm]
  exact this
theorem less_len1 (hc : c.Nodup) (hi : i ∈ c) : (less c i).length + 1 = c.length := by
  induction c with
  | nil => cases hi
  | cons x c ih =>
    obtain ⟨h1, h2⟩ := List.nodup_cons.mp hc
    by_cases q : x = i
    · subst q
      have e : less (x :: c) x = c := by
        unfold less
        rw [List.filter_cons]
        simp only [decide_true, Bool.not_true, Bool.false_eq_true, if_false]
        rw [List.filter_eq_self]
        intro y hy
        have : y ≠ x := fun z => h1 (z ▸ hy)
        simp [this]
      rw [e]
      rfl
    · have hi2 : i ∈ c := by
        rcases List.mem_cons.mp hi with z | z
        · exact absurd z.symm q
        · exact z
      have e : less (x :: c) i = x :: less c i := by
        unfold less
        rw [List.filter_cons]
        simp [q]
      rw [e, List.length_cons, List.length_cons, ih h2 hi2]
theorem put_len {n : Nat} (hc : c ∈ coals n) (h0 : 0 ≤ i) (h1 : i < n) (hi : i ∉ c) : (put n c i).length = c.length + 1 := by
  rw [← less_len1 (co_nodup put_co) ((put_mem hc h0 h1).mpr (.inl rfl)), less_put hc h0 h1 hi]
/-- j's deciding coalitions, with i in its place -/
def swp (n : Nat) (i j : Int) (c : List Int) : List Int := if memB i c then c else put n (less c j) i
theorem swp_ok (hr : okR r) (hi0 : 0 ≤ i) (hi1 : i < zs.length) (h : at0 zs j ≤ at0 zs i) (hij : i ≠ j) :
    (∀ c ∈ swingOf r zs rs j, swp zs.length i j c ∈ swingOf r zs rs i ∧ (swp zs.length i j c).length = c.length) ∧ ∀ a ∈ swingOf r zs rs j, ∀ b ∈ swingOf r zs rs j, swp zs.length i j a = swp zs.length i j b → a = b := by
  refine ⟨fun c hc => ?_, fun a ha b hb e => ?_⟩
  · obtain ⟨h1, h2, h3⟩ := swing_iff.mp hc
    have hco := won_co h1
    have hw := (won_iff.mp h1).2
    have e1 := cosum_less (zs := zs) (co_nodup hco) h2
    have hl : winC r zs rs (less c j) = false := by
      cases q : winC r zs rs (less c j) with
      | false => rfl
      | true => exact absurd (won_iff.mpr ⟨less_co hco, q⟩) h3
    unfold swp
    by_cases q : i ∈ c
    · simp only [memB_iff.mpr q, if_true]
      refine ⟨swing_iff.mpr ⟨h1, q, fun z => ?_⟩, by trivial⟩
      have e2 := cosum_less (zs := zs) (co_nodup hco) q
      have := winY_mono hr (y := cosum zs (less c i)) (y' := cosum zs (less c j)) (by omega) (won_iff.mp z).2
      exact absurd (hl.symm.trans this) (by decide)
    · simp only [memB_no.mpr q, Bool.false_eq_true, if_false]
      have hco2 := less_co (i := j) hco
      have q2 : i ∉ less c j := fun z => q (less_mem.mp z).1
      refine ⟨swing_iff.mpr ⟨won_iff.mpr ⟨put_co, ?_⟩, (put_mem hco2 hi0 hi1).mpr (.inl rfl), ?_⟩, ?_⟩
      · refine winY_mono hr (y := cosum zs c) ?_ hw
        rw [cosum_put hco2 hi0 hi1 q2]
        omega
      · rw [less_put hco2 hi0 hi1 q2]
        exact h3
      · rw [put_len hco2 hi0 hi1 q2, less_len1 (co_nodup hco) h2]
  · obtain ⟨a1, a2, a3⟩ := swing_iff.mp ha
    obtain ⟨b1, b2, b3⟩ := swing_iff.mp hb
    have ca := won_co a1
    have cb := won_co b1
    have la := less_co (i := j) ca
    have lb := less_co (i := j) cb
    have nj : ∀ {c : List Int}, less c j ∈ coals zs.length → j ∉ put zs.length (less c j) i := fun h z => by
      rcases (put_mem h hi0 hi1).mp z with z | z
      · exact hij z.symm
      · exact (less_mem.mp z).2 rfl
    unfold swp at e
    by_cases qa : i ∈ a
    · rw [memB_iff.mpr qa, if_pos rfl] at e
      by_cases qb : i ∈ b
      · rw [memB_iff.mpr qb, if_pos rfl] at e
        exact e
      · rw [memB_no.mpr qb, if_neg (by decide)] at e
        exact absurd (e ▸ a2) (nj lb)
    · rw [memB_no.mpr qa, if_neg (by decide)] at e
      by_cases qb : i ∈ b
      · rw [memB_iff.mpr qb, if_pos rfl] at e
        exact absurd (e ▸ b2) (nj la)
      · rw [memB_no.mpr qb, if_neg (by decide)] at e
        have ia : i ∉ less a j := fun z => qa (less_mem.mp z).1
        have ib : i ∉ less b j := fun z => qb (less_mem.mp z).1
        have e2 : less a j = less b j := by rw [← less_put la hi0 hi1 ia, e, less_put lb hi0 hi1 ib]
        refine asc_eq (co_asc ca) (co_asc cb) fun k => ?_
        have hk : k ∈ less a j ↔ k ∈ less b j := by rw [e2]
        rw [less_mem, less_mem] at hk
        by_cases kj : k = j
        · subst kj
          exact ⟨fun _ => b2, fun _ => a2⟩
        · constructor
          · exact fun h => (hk.mp ⟨h, kj⟩).1
          · exact fun h => (hk.mpr ⟨h, kj⟩).1
def termI (n : Nat) (c : List Int) : Int := factI ((c.length : Int) - 1) * factI ((n : Int) - c.length)
theorem topI_eq : topI r zs rs i = ((swingOf r zs rs i).map (termI zs.length)).sum := by
  unfold topI topS
  rw [List.map_map]
  rfl
theorem term_pos (hz : zs.length ≤ 7) (hc : c ∈ swingOf r zs rs i) : 1 ≤ termI zs.length c := by
  have a := swing_bd hz hc
  have f1 := factI_small (k := (c.length : Int) - 1) (by omega) (by omega)
  have f2 := factI_small (k := (zs.length : Int) - c.length) (by omega) (by omega)
  have := Int.mul_le_mul f1.1 f2.1 (by decide) (by omega)
  simpa [termI] using this
theorem topI_nn (hz : zs.length ≤ 7) : 0 ≤ topI r zs rs i := by
  rw [topI_eq]
  exact sum_nn fun c hc => by have := term_pos hz hc; omega
theorem topI_le (hr : okR r) (hz : zs.length ≤ 7) (hi0 : 0 ≤ i) (hi1 : i < zs.length) (h : at0 zs j ≤ at0 zs i) : topI r zs rs j ≤ topI r zs rs i := by
  by_cases hij : i = j
  · rw [hij]
    exact Int.le_refl _
  obtain ⟨h1, h2⟩ := swp_ok (rs := rs) hr hi0 hi1 h hij
  rw [topI_eq, topI_eq]
  exact inj_sum (won_nodup.filter _) (fun a ha => (h1 a ha).1) h2 (fun a ha => by unfold termI; rw [(h1 a ha).2]) fun c hc => by have := term_pos hz hc; omega
/-- a share that is no less -/
theorem share_cmp {t1 t2 f : Int} (h0 : 0 ≤ t2) (h : t2 ≤ t1) (hf : 1 ≤ f) : (share t2 f).1 * (share t1 f).2 ≤ (share t1 f).1 * (share t2 f).2 := by
  unfold share
  have g1 : 0 < Nat.gcd t1.toNat f.toNat := Nat.gcd_pos_of_pos_right _ (by omega)
  have g2 : 0 < Nat.gcd t2.toNat f.toNat := Nat.gcd_pos_of_pos_right _ (by omega)
  obtain ⟨a1, e1⟩ := Nat.gcd_dvd_left t1.toNat f.toNat
  obtain ⟨b1, e2⟩ := Nat.gcd_dvd_right t1.toNat f.toNat
  obtain ⟨a2, e3⟩ := Nat.gcd_dvd_left t2.toNat f.toNat
  obtain ⟨b2, e4⟩ := Nat.gcd_dvd_right t2.toNat f.toNat
  generalize Nat.gcd t1.toNat f.toNat = G1 at *
  generalize Nat.gcd t2.toNat f.toNat = G2 at *
  have dv : ∀ (x : Int) (G a : Nat), 0 ≤ x → x.toNat = G * a → 0 < G → x.fdiv (G : Int) = a := fun x G a hx e hG => by
    have : x = (G : Int) * a := by
      rw [← Int.natCast_mul, ← e]
      omega
    rw [this, Int.fdiv_eq_ediv_of_nonneg _ (by omega)]
    exact Int.mul_ediv_cancel_left _ (by omega)
  rw [dv t2 G2 a2 h0 e3 g2, dv t1 G1 a1 (by omega) e1 g1, dv f G1 b1 (by omega) e2 g1, dv f G2 b2 (by omega) e4 g2]
  simp only
  have key : a2 * b1 * (G1 * G2) ≤ a1 * b2 * (G1 * G2) := by
    have l : a2 * b1 * (G1 * G2) = (G2 * a2) * (G1 * b1) := by
      simp only [Nat.mul_assoc, Nat.mul_comm, Nat.mul_left_comm]
    have r : a1 * b2 * (G1 * G2) = (G1 * a1) * (G2 * b2) := by
      simp only [Nat.mul_assoc, Nat.mul_comm, Nat.mul_left_comm]
    rw [l, r, ← e3, ← e2, ← e1, ← e4]
    exact Nat.mul_le_mul_right _ (by omega)
  have := Nat.le_of_mul_le_mul_right key (Nat.mul_pos g1 g2)
  exact_mod_cast this
theorem share_b {t f : Int} (ht : 0 ≤ t) (hf : 1 ≤ f) (hf2 : f ≤ 5040) : 0 ≤ (share t f).1 ∧ 1 ≤ (share t f).2 ∧ (share t f).2 ≤ 5040 := by
  unfold share
  have g1 : 0 < Nat.gcd t.toNat f.toNat := Nat.gcd_pos_of_pos_right _ (by omega)
  obtain ⟨b1, e2⟩ := Nat.gcd_dvd_right t.toNat f.toNat
  generalize Nat.gcd t.toNat f.toNat = G at *
  have hx : f = (G : Int) * b1 := by
    rw [← Int.natCast_mul, ← e2]
    omega
  refine ⟨?_, ?_⟩
  · rw [Int.fdiv_eq_ediv_of_nonneg _ (by omega)]
    exact Int.ediv_nonneg ht (by omega)
  · have : f.fdiv (G : Int) = b1 := by
      rw [hx, Int.fdiv_eq_ediv_of_nonneg _ (by omega)]
      exact Int.mul_ediv_cancel_left _ (by omega)
    show 1 ≤ f.fdiv (G : Int) ∧ f.fdiv (G : Int) ≤ 5040
    rw [this]
    have hb : 0 < b1 := by
      rcases Nat.eq_zero_or_pos b1 with z | z
      · rw [z] at e2
        omega
      · exact z
    have : b1 ≤ G * b1 := Nat.le_mul_of_pos_left _ g1
    omega
end
end QR

set_option Elab.async false
set_option linter.all false
set_option maxRecDepth 100000
set_option maxHeartbeats 4000000
/-! QG7: the least of pairs, costs. -/
namespace QR
open PySem
theorem gLe_tot : ∀ x y : List Int, lexLe x y = true ∨ lexLe y x = true
  | [], _ => .inl rfl
  | _ :: _, [] => .inr rfl
  | x :: xs, y :: ys => by
    unfold lexLe
    by_cases e : x = y
    · rw [if_pos e, if_pos e.symm]
      exact gLe_tot xs ys
    · rw [if_neg e, if_neg (Ne.symm e), decide_eq_true_eq, decide_eq_true_eq]
      omega
theorem gLe_tr : ∀ {x y z : List Int}, lexLe x y = true → lexLe y z = true → lexLe x z = true
  | [], _, _, _, _ => rfl
  | _ :: _, [], _, h, _ => by simp [lexLe] at h
  | _ :: _, _ :: _, [], _, h => by simp [lexLe] at h
  | x :: xs, y :: ys, z :: zs, h1, h2 => by
    unfold lexLe at *
    by_cases e : x = y
    · subst e
      rw [if_pos rfl] at h1
      by_cases e2 : x = z
      · rw [if_pos e2] at h2 ⊢
        exact gLe_tr h1 h2
      · rw [if_neg e2] at h2 ⊢
        exact h2
    · rw [if_neg e, decide_eq_true_eq] at h1
      by_cases e2 : y = z
      · subst e2
        rw [if_neg e, decide_eq_true_eq]
        exact h1
      · rw [if_neg e2, decide_eq_true_eq] at h2
        rw [if_neg (by omega), decide_eq_true_eq]
        omega
theorem gLe_anti : ∀ {x y : List Int}, lexLe x y = true → lexLe y x = true → x = y
  | [], [], _, _ => rfl
  | [], _ :: _, _, h => by simp [lexLe] at h
  | _ :: _, [], h, _ => by simp [lexLe] at h
  | x :: xs, y :: ys, h1, h2 => by
    unfold lexLe at h1 h2
    by_cases e : x = y
    · rw [if_pos e] at h1
      rw [if_pos e.symm] at h2
      rw [e, gLe_anti h1 h2]
    · rw [if_neg e, decide_eq_true_eq] at h1
      rw [if_neg (Ne.symm e), decide_eq_true_eq] at h2
      omega
theorem kLe_fst {p q : Int × List Int} (h : kLe p q = true) : p.1 ≤ q.1 := by
  unfold kLe lexLe at h
  by_cases e : p.1 = q.1
  · omega
  · rw [if_neg e, decide_eq_true_eq] at h
    omega
theorem kLe_snd {p q : Int × List Int} (h : kLe p q = true) (e : p.1 = q.1) : lexLe p.2 q.2 = true := by
  unfold kLe lexLe at h
  rwa [if_pos e] at h
theorem kLe_of {p q : Int × List Int} (h : p.1 < q.1 ∨ (p.1 = q.1 ∧ lexLe p.2 q.2 = true)) : kLe p q = true := by
  unfold kLe lexLe
  rcases h with h | ⟨h1, h2⟩
  · rw [if_neg (by omega), decide_eq_true_eq]
    exact h
  · rw [if_pos h1]
    exact h2
theorem kLe_anti {p q : Int × List Int} (h1 : kLe p q = true) (h2 : kLe q p = true) : p = q := by
  have := gLe_anti h1 h2
  simp only [List.cons.injEq] at this
  exact Prod.ext this.1 this.2
theorem least_spec {α : Type} {le : α → α → Bool} (tot : ∀ x y, le x y = true ∨ le y x = true) (tr : ∀ x y z, le x y = true → le y z = true → le x z = true) : ∀ (x : α) (l : List α), leastOf le x l ∈ x :: l ∧ ∀ y ∈ x :: l, le (leastOf le x l) y = true
  | x, [] => by
    refine ⟨by simp [leastOf], fun y hy => ?_⟩
    have : y = x := by simpa using hy
    rw [this]
    rcases tot x x with h | h <;> exact h
  | x, y :: l => by
    unfold leastOf
    cases h : le x y with
    | true =>
      simp only [if_true]
      obtain ⟨h1, h2⟩ := least_spec tot tr x l
      refine ⟨?_, fun z hz => ?_⟩
      · rcases List.mem_cons.mp h1 with q | q
        · rw [q]; simp
        · simp [q]
      · rcases List.mem_cons.mp hz with q | hz
        · rw [q]; exact h2 x (by simp)
        · rcases List.mem_cons.mp hz with q | q
          · rw [q]; exact tr _ _ _ (h2 x (by simp)) h
          · exact h2 z (by simp [q])
    | false =>
      simp only [Bool.false_eq_true, if_false]
      obtain ⟨h1, h2⟩ := least_spec tot tr y l
      refine ⟨?_, fun z hz => ?_⟩
      · rcases List.mem_cons.mp h1 with q | q
        · rw [q]; simp
        · simp [q]
      · rcases List.mem_cons.mp hz with q | hz
        · rw [q]
          refine tr _ _ _ (h2 y (by simp)) ?_
          rcases tot x y with z | z
          · rw [h] at z; cases z
          · exact z
        · rcases List.mem_cons.mp hz with q | q
          · rw [q]; exact h2 y (by simp)
          · exact h2 z (by simp [q])
theorem minO_spec {ps : List (Int × List Int)} (h : ps ≠ []) : ∃ p ∈ ps, minO ps = some p ∧ ∀ q ∈ ps, kLe p q = true := by
  cases ps with
  | nil => exact absurd rfl h
  | cons p l =>
    obtain ⟨h1, h2⟩ := least_spec (le := kLe) (fun x y => gLe_tot _ _) (fun x y z => gLe_tr) p l
    exact ⟨_, h1, rfl, h2⟩
/-- which one it is -/
theorem minO_is {ps : List (Int × List Int)} {p : Int × List Int} (hp : p ∈ ps) (h : ∀ q ∈ ps, kLe p q = true) : minO ps = some p := by
  obtain ⟨q, hq, e, hm⟩ := minO_spec (List.ne_nil_of_mem hp)
  rw [e, kLe_anti (hm p hp) (h q hq)]
section
variable {r o : List Cd} {m y f : Int} {rs s t : Str} {zs zs' c e cs : List Int} {i j : Int}
theorem cheap_none (h : wonL r zs rs = []) : cheapO r zs rs cs = none := by unfold cheapO; rw [h]; rfl
theorem few_none (h : wonL r zs rs = []) : fewO r zs rs = none := by unfold fewO; rw [h]; rfl
theorem cheap_spec (h : wonL r zs rs ≠ []) : ∃ c ∈ wonL r zs rs, cheapO r zs rs cs = some (cosum cs c, c) ∧ ∀ e ∈ wonL r zs rs, kLe (cosum cs c, c) (cosum cs e, e) = true := by
  obtain ⟨p, hp, e, hm⟩ := minO_spec (ps := (wonL r zs rs).map fun c => (cosum cs c, c)) (by simpa using h)
  obtain ⟨c, hc, rfl⟩ := List.mem_map.mp hp
  exact ⟨c, hc, e, fun e he => hm _ (List.mem_map.mpr ⟨e, he, rfl⟩)⟩
theorem few_spec (h : wonL r zs rs ≠ []) : ∃ c ∈ wonL r zs rs, fewO r zs rs = some c ∧ ∀ e ∈ wonL r zs rs, kLe ((c.length : Int), c) ((e.length : Int), e) = true := by
  obtain ⟨p, hp, e, hm⟩ := minO_spec (ps := (wonL r zs rs).map fun c => ((c.length : Int), c)) (by simpa using h)
  obtain ⟨c, hc, rfl⟩ := List.mem_map.mp hp
  exact ⟨c, hc, by unfold fewO; rw [e]; rfl, fun e he => hm _ (List.mem_map.mpr ⟨e, he, rfl⟩)⟩
theorem cheap_is (hc : c ∈ wonL r zs rs) (h : ∀ e ∈ wonL r zs rs, kLe (cosum cs c, c) (cosum cs e, e) = true) : cheapO r zs rs cs = some (cosum cs c, c) :=
  minO_is (List.mem_map.mpr ⟨c, hc, rfl⟩) fun q hq => by
    obtain ⟨e, he, rfl⟩ := List.mem_map.mp hq
    exact h e he
/-! ### costs by a law of the index -/
theorem at0_rng {n : Nat} {g : Int → Int} (h0 : 0 ≤ i) (h1 : i < n) : at0 ((rngL 0 n).map g) i = g i := by
  unfold at0
  rw [List.getD_eq_getElem?_getD, get_rng h0 h1]
  rfl
theorem cosum_rng {n : Nat} {g : Int → Int} (hc : c ∈ coals n) : cosum ((rngL 0 n).map g) c = (c.map g).sum := by
  unfold cosum
  congr 1
  exact List.map_congr_left fun i hi => at0_rng (co_okI hc i hi).1 (co_okI hc i hi).2
/-- a number for each index that is told -/
theorem sum_if {p : Int → Bool} {k : Int} : ∀ {c : List Int}, (c.map fun i => k * (if p i then 1 else 0)).sum = k * (c.filter p).length
  | [] => by simp
  | i :: c => by
    rw [List.map_cons, List.sum_cons, sum_if, List.filter_cons]
    cases p i with
    | true =>
      simp only [if_true, List.length_cons]
      rw [Int.natCast_add, Int.mul_add]
      simp
      omega
    | false => simp
theorem filter_one (hc : c.Nodup) (hi : i ∈ c) : (c.filter fun j => decide (j = i)) = [i] := by
  induction c with
  | nil => cases hi
  | cons x c ih =>
    obtain ⟨h1, h2⟩ := List.nodup_cons.mp hc
    rw [List.filter_cons]
    by_cases q : x = i
    · subst q
      simp only [decide_true, if_true]
      congr 1
      rw [List.filter_eq_nil_iff]
      intro y hy
      have : y ≠ x := fun z => h1 (z ▸ hy)
      simpa using this
    · have hi2 : i ∈ c := by
        rcases List.mem_cons.mp hi with z | z
        · exact absurd z.symm q
        · exact z
      simp only [q, decide_false, Bool.false_eq_true, if_false]
      exact ih h2 hi2
theorem filter_zero (hi : i ∉ c) : (c.filter fun j => decide (j = i)) = [] := by
  rw [List.filter_eq_nil_iff]
  intro y hy
  have : y ≠ i := fun z => hi (z ▸ hy)
  simpa using this
end
end QR

set_option Elab.async false
set_option linter.all false
set_option maxRecDepth 100000
/-! QG8: more on the best coalitions and shares. -/
namespace QR
open PySem
section
variable {r : List Cd} {zs c e cs : List Int} {rs : Str} {p q i j : Int} {st : Store} {Q : MV → Store → Prop}
theorem o_isnK {p : Int × List Int} (q : Q (.bl true) st) : Wp (cmpM .isn (encK p) .non st) Q := o_isn q
theorem o_isK {p : Int × List Int} (q : Q (.bl false) st) : Wp (cmpM .is (encK p) .non st) Q := o_is q
theorem o_isnR {c : List Int} (q : Q (.bl true) st) : Wp (cmpM .isn (rowMV c) .non st) Q := o_isn q
theorem o_isR {c : List Int} (q : Q (.bl false) st) : Wp (cmpM .is (rowMV c) .non st) Q := o_is q
theorem o_isnN (q : Q (.bl false) st) : Wp (cmpM .isn .non .non st) Q := o_isn q
theorem o_isN (q : Q (.bl true) st) : Wp (cmpM .is .non .non st) Q := o_is q
theorem share_zero {t f : Int} (ht : 0 ≤ t) (hf : 1 ≤ f) : share t f = (0, 1) ↔ t = 0 := by
  constructor
  · intro h
    unfold share at h
    have g1 : 0 < Nat.gcd t.toNat f.toNat := Nat.gcd_pos_of_pos_right _ (by omega)
    obtain ⟨a1, e1⟩ := Nat.gcd_dvd_left t.toNat f.toNat
    generalize Nat.gcd t.toNat f.toNat = G1 at *
    have hx : t = (G1 : Int) * a1 := by
      rw [← Int.natCast_mul, ← e1]
      omega
    have h1 : t.fdiv (G1 : Int) = 0 := congrArg (·.1) h
    rw [hx, Int.fdiv_eq_ediv_of_nonneg _ (by omega), Int.mul_ediv_cancel_left _ (by omega)] at h1
    rw [hx, h1]
    simp
  · rintro rfl
    unfold share
    have h0 : ((0 : Int)).toNat = 0 := rfl
    rw [h0, Nat.gcd_zero_left]
    have h2 : ((f.toNat : Nat) : Int) = f := by omega
    rw [h2]
    rw [Int.fdiv_eq_ediv_of_nonneg f (by omega), Int.ediv_self (by omega), Int.zero_fdiv]
theorem topI_zero (h7 : zs.length ≤ 7) : topI r zs rs i = 0 ↔ swingOf r zs rs i = [] := by
  rw [topI_eq]
  constructor
  · intro h
    cases hs : swingOf r zs rs i with
    | nil => rfl
    | cons x l =>
      rw [hs, List.map_cons, List.sum_cons] at h
      have h1 := term_pos (r := r) (rs := rs) (i := i) h7 (c := x) (by rw [hs]; exact List.mem_cons_self)
      have h2 : 0 ≤ (l.map (termI zs.length)).sum := sum_nn fun c hc => by
        have := term_pos (r := r) (rs := rs) (i := i) h7 (c := c) (by rw [hs]; exact List.mem_cons_of_mem _ hc)
        omega
      omega
  · intro h
    rw [h]
    rfl
theorem cheap_least (hp : ∀ z ∈ cs, 1 ≤ z) (hl : cs.length = zs.length) (h : wonL r zs rs ≠ []) : ∃ c ∈ leastL r zs rs, cheapO r zs rs cs = some (cosum cs c, c) ∧ ∀ e ∈ wonL r zs rs, kLe (cosum cs c, c) (cosum cs e, e) = true := by
  obtain ⟨c, hc, e, hm⟩ := cheap_spec (cs := cs) h
  refine ⟨c, least_iff.mpr ⟨hc, fun i hi hw => ?_⟩, e, hm⟩
  have h1 := kLe_fst (hm _ hw)
  simp only at h1
  have h2 := cosum_less (zs := cs) (co_nodup (won_co hc)) hi
  have hr := co_okI (won_co hc) i hi
  have h3 : 1 ≤ at0 cs i := hp _ (List.mem_of_getElem? (cosum_get (zs := cs) hr.1 (by omega)))
  omega
theorem few_least (h : wonL r zs rs ≠ []) : ∃ c ∈ leastL r zs rs, fewO r zs rs = some c ∧ ∀ e ∈ wonL r zs rs, kLe ((c.length : Int), c) ((e.length : Int), e) = true := by
  obtain ⟨c, hc, e, hm⟩ := few_spec h
  refine ⟨c, least_iff.mpr ⟨hc, fun i hi hw => ?_⟩, e, hm⟩
  have h1 := kLe_fst (hm _ hw)
  simp only at h1
  have := less_len hi
  omega
/-! ### coalitions ascend -/
theorem g_ins : ∀ {x : List Int} {l : List (List Int)}, l.Pairwise (fun a b => lexLe a b = true) → (ins lexLe x l).Pairwise (fun a b => lexLe a b = true)
  | x, [], _ => by simp [ins]
  | x, y :: l, h => by
    unfold ins
    have h1 := List.pairwise_cons.mp h
    by_cases q : lexLe x y = true
    · rw [if_pos q]
      refine List.pairwise_cons.mpr ⟨fun z hz => ?_, h⟩
      rcases List.mem_cons.mp hz with e | e
      · rw [e]; exact q
      · exact gLe_tr q (h1.1 z e)
    · rw [if_neg q]
      refine List.pairwise_cons.mpr ⟨fun z hz => ?_, g_ins h1.2⟩
      rcases List.mem_cons.mp ((ins_perm' lexLe x l).mem_iff.mp hz) with e | e
      · rw [e]
        rcases gLe_tot x y with z | z
        · exact absurd z q
        · exact z
      · exact h1.1 z e
theorem g_isort : ∀ l : List (List Int), (isort lexLe l).Pairwise (fun a b => lexLe a b = true)
  | [] => List.Pairwise.nil
  | _ :: l => g_ins (g_isort l)
theorem won_asc : (wonL r zs rs).Pairwise (fun a b => lexLe a b = true) := (g_isort _).filter _
theorem won_head {l : List (List Int)} (h : wonL r zs rs = c :: l) : ∀ e ∈ wonL r zs rs, lexLe c e = true := fun e he => by
  have h1 := won_asc (r := r) (zs := zs) (rs := rs)
  rw [h] at h1 he
  rcases List.mem_cons.mp he with q | q
  · rw [q]
    rcases gLe_tot c c with z | z <;> exact z
  · exact (List.pairwise_cons.mp h1).1 e q
/-! ### other costs -/
theorem cheap_pos (hf : 0 < p) {b : Int} (h : cheapO r zs rs cs = some (b, c)) : cheapO r zs rs (cs.map fun z => p * z) = some (p * b, c) := by
  have hw : wonL r zs rs ≠ [] := fun z => by rw [cheap_none z] at h; cases h
  obtain ⟨c', hc, e, hm⟩ := cheap_spec (cs := cs) hw
  rw [e] at h
  cases h
  rw [cheap_is hc (fun e he => ?_), cosum_mul]
  rw [cosum_mul, cosum_mul]
  have h1 := kLe_fst (hm e he)
  simp only at h1
  by_cases q : cosum cs c = cosum cs e
  · exact kLe_of (.inr ⟨by rw [q], (kLe_snd (hm e he) q : lexLe c e = true)⟩)
  · exact kLe_of (.inl (Int.mul_lt_mul_of_pos_left (by omega) hf))
theorem at0_rep {n : Nat} {x : Int} (h0 : 0 ≤ i) (h1 : i < n) : at0 (List.replicate n x) i = x := by
  unfold at0
  rw [List.getD_eq_getElem?_getD, List.getElem?_replicate, if_pos (by omega)]
  rfl
theorem cosum_rep {n : Nat} {x : Int} (hc : okI n c) : cosum (List.replicate n x) c = c.length * x := by
  induction c with
  | nil => simp [cosum]
  | cons j c ih =>
    have h := ih fun k hk => hc k (List.mem_cons_of_mem _ hk)
    have hj := hc j List.mem_cons_self
    unfold cosum at *
    rw [List.map_cons, List.sum_cons, h, at0_rep hj.1 hj.2, List.length_cons, Int.natCast_add, Int.add_mul]
    simp
    omega
theorem cheap_ones (h : fewO r zs rs = some c) : cheapO r zs rs (List.replicate zs.length 1) = some ((c.length : Int), c) := by
  have hw : wonL r zs rs ≠ [] := fun z => by rw [few_none z] at h; cases h
  obtain ⟨c', hc, e, hm⟩ := few_spec hw
  rw [e] at h
  cases h
  have key : ∀ e ∈ wonL r zs rs, cosum (List.replicate zs.length 1) e = e.length := fun e he => by
    rw [cosum_rep (co_okI (won_co he))]
    omega
  rw [cheap_is hc (fun e he => ?_), key _ hc]
  rw [key _ hc, key _ he]
  exact hm e he
theorem cheap_zero {l : List (List Int)} (h : wonL r zs rs = c :: l) : cheapO r zs rs (List.replicate zs.length 0) = some (0, c) := by
  have hc : c ∈ wonL r zs rs := by rw [h]; exact List.mem_cons_self
  have key : ∀ e ∈ wonL r zs rs, cosum (List.replicate zs.length 0) e = 0 := fun e he => by
    rw [cosum_rep (co_okI (won_co he))]
    omega
  rw [cheap_is hc (fun e he => ?_), key _ hc]
  rw [key _ hc, key _ he]
  exact kLe_of (.inr ⟨rfl, won_head h e he⟩)
theorem b_minI {ks : List Int} {k : Int} {x : MV} (hx : lstOf st x = some (ks.map .int)) (h0 : k ∈ ks) (hm : ∀ y ∈ ks, k ≤ y) (q : Q (.int k) st) : Wp (bltM .min [x] st) Q := by
  obtain ⟨n, l, rfl⟩ : ∃ n l, ks = n :: l := by
    cases ks with
    | nil => cases h0
    | cons n l => exact ⟨n, l, rfl⟩
  refine ⟨.int k, st, ?_, q⟩
  have : bltM .min [x] st = minM ((n :: l).map .int) st := by
    cases x <;> first | (simp only [bltM, hx]) | (simp [lstOf] at hx)
  rw [this]
  have e2 : intsOf ((n :: l).map .int) = some (n :: l) := intsOf_mp
  show (match intsOf ((n :: l).map MV.int) with
    | some (n :: ns) => Out.val (MV.int (leastOf (fun a b => decide (a ≤ b)) n ns)) st
    | some [] => .bad
    | none => _) = _
  rw [e2]
  obtain ⟨h1, h2⟩ := least_spec (le := fun a b : Int => decide (a ≤ b)) (fun x y => by simp only [decide_eq_true_eq]; omega) (fun x y z h1 h2 => by simp only [decide_eq_true_eq] at *; omega) n l
  have h3 := h2 k h0
  have h4 := hm _ h1
  simp only [decide_eq_true_eq] at h3
  show Out.val (MV.int (leastOf (fun a b => decide (a ≤ b)) n l)) st = _
  rw [show leastOf (fun a b : Int => decide (a ≤ b)) n l = k by omega]
theorem b_minS {ps : List (Int × List Int)} {p : Int × List Int} {x : MV} (hx : lstOf st x = some (ps.map encK)) (h : minO ps = some p) (q : Q (encK p) st) : Wp (bltM .min [x] st) Q := by
  cases ps with
  | nil => cases h
  | cons a l =>
    cases h
    exact b_minK hx q
end
end QR

set_option Elab.async false
set_option linter.all false
set_option maxRecDepth 100000
/-! QG9: sorted rows, a vote picked, sums. -/
namespace QR
open PySem
section
variable {r : List Cd} {zs c e cs : List Int} {rs : Str} {p q i j k : Int} {st : Store} {Q : MV → Store → Prop} {Φ : Phi} {env : Env}
def srt (c : List Int) : List Int := isort (fun a b => decide (a ≤ b)) c
theorem srt_perm (c : List Int) : (srt c).Perm c := isort_perm' _ c
theorem srt_mem : i ∈ srt c ↔ i ∈ c := (srt_perm c).mem_iff
theorem s_ins : ∀ {x : Int} {l : List Int}, l.Pairwise (· ≤ ·) → (ins (fun a b => decide (a ≤ b)) x l).Pairwise (· ≤ ·)
  | x, [], _ => by simp [ins]
  | x, y :: l, h => by
    unfold ins
    have h1 := List.pairwise_cons.mp h
    by_cases q : x ≤ y
    · rw [if_pos (by simpa using q)]
      refine List.pairwise_cons.mpr ⟨fun z hz => ?_, h⟩
      rcases List.mem_cons.mp hz with e | e
      · omega
      · have := h1.1 z e; omega
    · rw [if_neg (by simpa using q)]
      refine List.pairwise_cons.mpr ⟨fun z hz => ?_, s_ins h1.2⟩
      rcases List.mem_cons.mp ((ins_perm' _ x l).mem_iff.mp hz) with e | e
      · omega
      · exact h1.1 z e
theorem srt_le : ∀ c : List Int, (srt c).Pairwise (· ≤ ·)
  | [] => List.Pairwise.nil
  | _ :: l => s_ins (srt_le l)
theorem srt_asc (h : c.Nodup) : (srt c).Pairwise (· < ·) := by
  have h2 : (srt c).Nodup := (srt_perm c).nodup_iff.mpr h
  exact (srt_le c).imp₂ (fun a b h1 h2 => by omega) h2
theorem srt_eq (h : c.Nodup) (he : e.Pairwise (· < ·)) (hm : ∀ i, i ∈ c ↔ i ∈ e) : srt c = e := asc_eq (srt_asc h) he fun i => by rw [srt_mem, hm]
theorem b_sortR (q : Q (.lst ((srt c).map MV.int)) st) : Wp (bltM .sorted [rowMV c] st) Q := by
  refine ⟨_, st, ?_, q⟩
  show sortM true (c.map MV.int) st = _
  unfold sortM
  rw [intsOf_mp]
  rfl
theorem b_sortL {x : MV} (hx : lstOf st x = some (c.map MV.int)) (q : Q (.lst ((srt c).map MV.int)) st) : Wp (bltM .sorted [x] st) Q := by
  refine ⟨_, st, ?_, q⟩
  have h := (lstOf_seq hx).1
  have : bltM .sorted [x] st = sortM (isTup x) (c.map MV.int) st := by
    simp only [bltM, h]
  rw [this]
  unfold sortM
  rw [intsOf_mp]
  rfl
theorem w_pick {ks : List Str} {es : Es} {a : E} (h : Wp (evs Φ es env st) fun vs s => noLsts vs = true ∧ Wp (ev Φ a env s) fun x s' => ∃ z v, x = .str z ∧ pickO ks vs z = some v ∧ Q v s') : Wp (ev Φ (.pick ks es a) env st) Q := by
  refine w_bind (h.mono ?_)
  rintro vs s ⟨h1, h2⟩
  refine Wp_chk.mpr ⟨h1, w_bind (h2.mono ?_)⟩
  rintro _ s' ⟨z, v, rfl, e, q⟩
  refine ⟨v, s', ?_, q⟩
  show ofO (pickO ks vs z) s' = _
  rw [e]
  rfl
theorem pick_rest {y l : Int} (h : rs ∈ restL) : pickO ["no", "blank", "away"] [.tup [.int y, .int l, .int 0], .tup [.int y, .int 0, .int l], .tup [.int y, .int 0, .int 0]] rs = some (encV y (if rs = ("no" : Str) then l else 0) (if rs = ("blank" : Str) then l else 0)) := by
  rcases rest_cases h with rfl | rfl | rfl <;> rfl
theorem cosum_all : cosum zs (rngL 0 zs.length) = zs.sum := by
  unfold cosum
  congr 1
  refine List.ext_getElem (by rw [List.length_map, rngL_len]; omega) fun n h1 h2 => ?_
  rw [List.getElem_map]
  have : (rngL 0 zs.length)[n]'(by rw [rngL_len]; omega) = (n : Int) := by simp [rngL]
  rw [this]
  unfold at0
  rw [List.getD_eq_getElem?_getD, Int.toNat_natCast, List.getElem?_eq_getElem h2]
  rfl
theorem cosum_le (hz : ∀ z ∈ zs, 0 ≤ z) (hc : c ∈ coals zs.length) : 0 ≤ cosum zs c ∧ cosum zs c ≤ zs.sum := by
  refine ⟨sum_nn (g := at0 zs) fun i _ => at0_pos hz, ?_⟩
  rw [← cosum_all]
  exact cosum_sub hz (coals_mem.mp hc)
theorem sum_pos1 (h : ∀ z ∈ zs, 1 ≤ z) : (zs.length : Int) ≤ zs.sum := by
  induction zs with
  | nil => simp
  | cons x l ih =>
    have := ih fun z hz => h z (List.mem_cons_of_mem _ hz)
    have := h x List.mem_cons_self
    rw [List.sum_cons, List.length_cons]
    omega
theorem okG.okM (hg : okG zs) : okM zs.sum := by
  have := sum_pos1 fun z hz => (hg.pos z hz).1
  have := hg.l1
  have := hg.sum
  exact ⟨by omega, by omega⟩
theorem votes_okV {m y : Int} (h0 : 0 ≤ y) (h1 : y ≤ m) (h : rs ∈ restL) : okV m y (if rs = ("no" : Str) then m - y else 0) (if rs = ("blank" : Str) then m - y else 0) := by
  by_cases a : rs = ("no" : Str)
  · have b : ¬ rs = ("blank" : Str) := fun z => by rw [a] at z; revert z; decide
    rw [if_pos a, if_neg b]
    exact ⟨h0, by omega, by omega, by omega⟩
  · rw [if_neg a]
    by_cases b : rs = ("blank" : Str)
    · rw [if_pos b]
      exact ⟨h0, by omega, by omega, by omega⟩
    · rw [if_neg b]
      exact ⟨h0, by omega, by omega, by omega⟩
end
end QR

set_option Elab.async false
set_option linter.all false
set_option maxRecDepth 100000
/-! QCnt: the methods of the class, as terms (printed by gen.py). -/
namespace QR
open PySem
/-- __init__(self, rule, members): names 0:self 1:rule 2:members -/
def f_Count_init : FDef := ⟨3, 3, .cons (.exp (.call 13 (.cons (.var 1) .nil))) (.cons (.exp (.call 4 (.cons (.var 2) .nil))) (.cons (.seta "Count" (.var 0) "rule" (.var 1)) (.cons (.seta "Count" (.var 0) "members" (.var 2)) (.cons (.seta "Count" (.var 0) "rows" (.lst (.cons .xte .nil))) .nil))))⟩
/-- __len__(self): names 0:self -/
def f_Count_len : FDef := ⟨1, 1, .cons (.ret (.blt .len (.cons (.sub (.attr "Count" (.var 0) "rows") (.neg (.cst (.int 1)))) .nil))) .nil⟩
/-- add(self, ballots): names 0:self 1:ballots 2:ballot -/
def b1_Count_add : Ss := .cons (.iff (.or (.not (.blt (.isi .str) (.cons (.var 2) .nil))) (.cmp .nmem (.var 2) (.cst (.tup [.str "yes", .str "no", .str "blank", .str "away"])))) (.cons (.raise 0) .nil) (.nil)) .nil
def f_Count_add : FDef := ⟨2, 3, .cons (.for (.nm 2) (.ex (.var 1)) (b1_Count_add)) (.cons (.iff (.cmp .gt (.bin .add (.blt .len (.cons (.sub (.attr "Count" (.var 0) "rows") (.neg (.cst (.int 1)))) .nil)) (.blt .len (.cons (.var 1) .nil))) (.attr "Count" (.var 0) "members")) (.cons (.raise 0) .nil) (.nil)) (.cons (.exp (.mth .append (.attr "Count" (.var 0) "rows") (.cons (.bin .add (.sub (.attr "Count" (.var 0) "rows") (.neg (.cst (.int 1)))) (.var 1)) .nil))) (.cons (.ret (.mcl "Count" "state" 2003 (.var 0) (.nil))) .nil)))⟩
/-- state(self): names 0:self 1:yes 2:no 3:blank 4:free 5:other -/
def b1_Count_state : Ss := .cons (.iff (.not (.call 17 (.cons (.attr "Count" (.var 0) "rule") (.cons (.attr "Count" (.var 0) "members") (.cons (.tup (.cons (.var 1) (.cons (.bin .add (.var 2) (.var 5)) (.cons (.var 3) .nil)))) .nil))))) (.cons (.ret (.cst (.str "open"))) .nil) (.nil)) .nil
def f_Count_state : FDef := ⟨1, 6, .cons (.asg (.nms [1, 2, 3]) (.mcl "Count" "votes" 2005 (.var 0) (.nil))) (.cons (.asg (.nm 4) (.mcl "Count" "left" 2006 (.var 0) (.nil))) (.cons (.iff (.not (.call 17 (.cons (.attr "Count" (.var 0) "rule") (.cons (.attr "Count" (.var 0) "members") (.cons (.tup (.cons (.bin .add (.var 1) (.var 4)) (.cons (.var 2) (.cons (.var 3) .nil)))) .nil))))) (.cons (.ret (.cst (.str "failed"))) .nil) (.nil)) (.cons (.for (.nm 5) (.ex (.tup (.cons (.var 4) (.cons (.cst (.int 0)) .nil)))) (b1_Count_state)) (.cons (.ret (.cst (.str "passed"))) .nil))))⟩
/-- undo(self): names 0:self -/
def f_Count_undo : FDef := ⟨1, 1, .cons (.iff (.cmp .eq (.blt .len (.cons (.attr "Count" (.var 0) "rows") .nil)) (.cst (.int 1))) (.cons (.raise 0) .nil) (.nil)) (.cons (.exp (.mth .pop (.attr "Count" (.var 0) "rows") (.nil))) .nil)⟩
/-- votes(self): names 0:self 1:kind -/
def f_Count_votes : FDef := ⟨1, 2, .cons (.ret (.blt .tuple (.cons (.comp (.cnt (.sub (.attr "Count" (.var 0) "rows") (.neg (.cst (.int 1)))) (.var 1)) (.nm 1) (.ex (.tup (.cons (.cst (.str "yes")) (.cons (.cst (.str "no")) (.cons (.cst (.str "blank")) .nil))))) (.cst (.bl true))) .nil))) .nil⟩
/-- left(self): names 0:self -/
def f_Count_left : FDef := ⟨1, 1, .cons (.ret (.bin .sub (.attr "Count" (.var 0) "members") (.blt .len (.cons (.sub (.attr "Count" (.var 0) "rows") (.neg (.cst (.int 1)))) .nil)))) .nil⟩
end QR

set_option Elab.async false
set_option linter.all false
set_option maxRecDepth 100000
set_option maxHeartbeats 4000000
set_option pp.maxSteps 1200
/-! QCount: what the methods of the class compute. -/
namespace QR
open PySem
local macro_rules | `(tactic| walk_at "q") => `(tactic| (repeat' (first
  | with_reducible refine z_cons ?_ | with_reducible refine z_asg ?_ | with_reducible refine z_ret ?_ | with_reducible refine z_iff ?_ | with_reducible refine z_nil ?_ | with_reducible refine z_exp ?_ | with_reducible refine z_set ?_ | with_reducible refine z_pass ?_
  | with_reducible refine w_cst ?_ | ((with_reducible apply w_var); rfl) | with_reducible refine w_bin ?_ | with_reducible refine w_cmp ?_ | with_reducible refine w_not ?_ | with_reducible refine w_and ?_ | with_reducible refine w_or ?_ | with_reducible refine w_chn ?_ | with_reducible refine w_ite ?_ | with_reducible refine w_neg ?_
  | with_reducible refine w_call ?_ | with_reducible refine w_blt ?_ | with_reducible refine w_tup ?_ | with_reducible refine w_lst ?_ | with_reducible refine w_sub ?_ | with_reducible refine w_sli ?_ | with_reducible refine w_nil ?_ | with_reducible refine w_cons ?_
  | with_reducible refine o_add ?_ | with_reducible refine o_sub ?_ | ((with_reducible apply o_mulR); decide) | ((with_reducible apply o_mulL); decide) | with_reducible refine o_mul ?_ ?_ | ((with_reducible apply o_fdiv); (first | decide | assumption | omega)) | ((with_reducible apply o_mod); (first | decide | assumption | omega))
  | with_reducible refine o_isnK ?_ | with_reducible refine o_isK ?_ | with_reducible refine o_isnR ?_ | with_reducible refine o_isR ?_ | with_reducible refine o_isnN ?_ | with_reducible refine o_isN ?_
  | with_reducible refine o_lt ?_ | with_reducible refine o_le ?_ | with_reducible refine o_gt ?_ | with_reducible refine o_ge ?_ | with_reducible refine o_isn ?_ | with_reducible refine o_is ?_ | with_reducible refine o_isb ?_ | with_reducible refine o_isnb ?_ | with_reducible refine o_eqI ?_ | with_reducible refine o_neI ?_ | with_reducible refine o_eqS ?_ | with_reducible refine o_neS ?_ | with_reducible refine o_eqB ?_ | with_reducible refine o_neB ?_
  | with_reducible refine u_K0 ?_ | with_reducible refine u_K1 ?_ | with_reducible refine u_P0 ?_ | with_reducible refine u_P1 ?_
  | with_reducible refine b_lenRow ?_ | with_reducible refine b_sumR ?_ | with_reducible refine b_intB ?_ | with_reducible refine b_tupL ?_ | with_reducible refine o_memR ?_ | with_reducible refine o_nmemR ?_ | ((with_reducible apply h_row); (focus ((try simp only [List.set_cons_succ, List.set_cons_zero, asgs]); rfl)))
  | with_reducible refine b_int ?_ | with_reducible refine b_abs ?_ | with_reducible refine b_min ?_ | with_reducible refine b_max ?_ | with_reducible refine b_lenT ?_ | with_reducible refine b_lenL ?_ | with_reducible refine b_lenO ?_ | ((with_reducible apply b_lenR); assumption) | ((with_reducible apply b_isi); rfl)
  | ((with_reducible apply t_set); (first | assumption | exact List.getElem?_set_self (by assumption)); rfl; (first | rfl | assumption)) | ((with_reducible apply u_tup); rfl) | ((with_reducible apply u_ref); (first | assumption | exact List.getElem?_set_self (by assumption)); rfl) | ((with_reducible apply u_lst); rfl)
  | ((with_reducible apply h_int); (focus ((try simp only [List.set_cons_succ, List.set_cons_zero, asgs]); rfl))) | ((with_reducible apply h_bl); (focus ((try simp only [List.set_cons_succ, List.set_cons_zero, asgs]); rfl))) | ((with_reducible apply h_str); (focus ((try simp only [List.set_cons_succ, List.set_cons_zero, asgs]); rfl))) | ((with_reducible apply h_ref); (focus ((try simp only [List.set_cons_succ, List.set_cons_zero, asgs]); rfl))) | ((with_reducible apply h_non); (focus ((try simp only [List.set_cons_succ, List.set_cons_zero, asgs]); rfl))) | ((with_reducible apply h_tup); rfl; (first | (focus (simp [noLsts, noLst]; done)) | assumption); (focus ((try simp only [List.set_cons_succ, List.set_cons_zero, asgs]); rfl))) | ((with_reducible apply h_lst); (first | (focus (simp [noLsts, noLst]; done)) | assumption); (focus ((try simp only [List.set_cons_succ, List.set_cons_zero, asgs]); rfl))) | ((with_reducible apply h_pure); (first | (focus (simp [noLsts, noLst]; done)) | assumption); (focus ((try simp only [List.set_cons_succ, List.set_cons_zero, asgs]); rfl)))
  | with_reducible refine w_turn ?_
  | ((with_reducible refine ⟨_, rfl, (fun h => ?_), (fun h => ?_)⟩) <;> first | exact absurd h (by decide +kernel) | (exfalso; simp at h; done) | (exfalso; simp at h; omega) | skip)
  | with_reducible rfl
  | (with_reducible refine ⟨True.intro, ?_⟩)
  | (with_reducible refine ⟨rfl, ?_⟩)
  | (with_reducible refine ⟨_, rfl, ?_⟩)
  | fail)))
local macro_rules | `(tactic| walk_at "p") => `(tactic| (repeat' (first
  | with_reducible refine z_cons ?_ | with_reducible refine z_asg ?_ | with_reducible refine z_ret ?_ | with_reducible refine z_iff ?_ | with_reducible refine z_nil ?_ | with_reducible refine z_exp ?_ | with_reducible refine z_set ?_ | with_reducible refine z_pass ?_
  | with_reducible refine w_cst ?_ | ((with_reducible apply w_var); rfl) | with_reducible refine w_bin ?_ | with_reducible refine w_cmp ?_ | with_reducible refine w_not ?_ | with_reducible refine w_andP ?_ | with_reducible refine w_orP ?_ | with_reducible refine w_chn ?_ | with_reducible refine w_ite ?_ | with_reducible refine w_neg ?_
  | with_reducible refine w_call ?_ | with_reducible refine w_blt ?_ | with_reducible refine w_tup ?_ | with_reducible refine w_lst ?_ | with_reducible refine w_sub ?_ | with_reducible refine w_sli ?_ | with_reducible refine w_nil ?_ | with_reducible refine w_cons ?_
  | with_reducible refine o_add ?_ | with_reducible refine o_sub ?_ | ((with_reducible apply o_mulR); decide) | ((with_reducible apply o_mulL); decide) | with_reducible refine o_mul ?_ ?_ | ((with_reducible apply o_fdiv); (first | decide | assumption | omega)) | ((with_reducible apply o_mod); (first | decide | assumption | omega))
  | with_reducible refine o_isnK ?_ | with_reducible refine o_isK ?_ | with_reducible refine o_isnR ?_ | with_reducible refine o_isR ?_ | with_reducible refine o_isnN ?_ | with_reducible refine o_isN ?_
  | with_reducible refine o_lt ?_ | with_reducible refine o_le ?_ | with_reducible refine o_gt ?_ | with_reducible refine o_ge ?_ | with_reducible refine o_isn ?_ | with_reducible refine o_is ?_ | with_reducible refine o_isb ?_ | with_reducible refine o_isnb ?_ | with_reducible refine o_eqI ?_ | with_reducible refine o_neI ?_ | with_reducible refine o_eqS ?_ | with_reducible refine o_neS ?_ | with_reducible refine o_eqB ?_ | with_reducible refine o_neB ?_
  | with_reducible refine u_K0 ?_ | with_reducible refine u_K1 ?_ | with_reducible refine u_P0 ?_ | with_reducible refine u_P1 ?_
  | with_reducible refine b_lenRow ?_ | with_reducible refine b_sumR ?_ | with_reducible refine b_intB ?_ | with_reducible refine b_tupL ?_ | with_reducible refine o_memR ?_ | with_reducible refine o_nmemR ?_ | ((with_reducible apply h_row); (focus ((try simp only [List.set_cons_succ, List.set_cons_zero, asgs]); rfl)))
  | with_reducible refine b_int ?_ | with_reducible refine b_abs ?_ | with_reducible refine b_min ?_ | with_reducible refine b_max ?_ | with_reducible refine b_lenT ?_ | with_reducible refine b_lenL ?_ | with_reducible refine b_lenO ?_ | ((with_reducible apply b_lenR); assumption) | ((with_reducible apply b_isi); rfl)
  | ((with_reducible apply t_set); (first | assumption | exact List.getElem?_set_self (by assumption)); rfl; (first | rfl | assumption)) | ((with_reducible apply u_tup); rfl) | ((with_reducible apply u_ref); (first | assumption | exact List.getElem?_set_self (by assumption)); rfl) | ((with_reducible apply u_lst); rfl)
  | ((with_reducible apply h_int); (focus ((try simp only [List.set_cons_succ, List.set_cons_zero, asgs]); rfl))) | ((with_reducible apply h_bl); (focus ((try simp only [List.set_cons_succ, List.set_cons_zero, asgs]); rfl))) | ((with_reducible apply h_str); (focus ((try simp only [List.set_cons_succ, List.set_cons_zero, asgs]); rfl))) | ((with_reducible apply h_ref); (focus ((try simp only [List.set_cons_succ, List.set_cons_zero, asgs]); rfl))) | ((with_reducible apply h_non); (focus ((try simp only [List.set_cons_succ, List.set_cons_zero, asgs]); rfl))) | ((with_reducible apply h_tup); rfl; (first | (focus (simp [noLsts, noLst]; done)) | assumption); (focus ((try simp only [List.set_cons_succ, List.set_cons_zero, asgs]); rfl))) | ((with_reducible apply h_lst); (first | (focus (simp [noLsts, noLst]; done)) | assumption); (focus ((try simp only [List.set_cons_succ, List.set_cons_zero, asgs]); rfl))) | ((with_reducible apply h_pure); (first | (focus (simp [noLsts, noLst]; done)) | assumption); (focus ((try simp only [List.set_cons_succ, List.set_cons_zero, asgs]); rfl)))
  | with_reducible refine w_turn ?_
  | ((with_reducible refine ⟨_, rfl, (fun h => ?_), (fun h => ?_)⟩) <;> first | exact absurd h (by decide +kernel) | (exfalso; simp at h; done) | (exfalso; simp at h; omega) | skip)
  | with_reducible rfl
  | (with_reducible refine ⟨True.intro, ?_⟩)
  | (with_reducible refine ⟨rfl, ?_⟩)
  | (with_reducible refine ⟨_, rfl, ?_⟩)
  | fail)))
section
variable {Φ : Phi} {env env' : Env} {st st' : Store} {Q : MV → Store → Prop} {N : Env → Store → Prop} {R : MV → Store → Prop} {a b c : E} {es : Es} {cn m f : Str} {k : Nat}
theorem w_attr {x : MV} {st1 : Store} (h : Wp (ev Φ a env st) fun y s => y = x ∧ s = st1) (q : Wp (getaM cn x f st1) Q) : Wp (ev Φ (.attr cn a f) env st) Q := by
  refine w_bind (h.mono ?_)
  rintro _ _ ⟨rfl, rfl⟩
  exact q
theorem w_mcl (h : Wp (ev Φ a env st) fun x s => isObj cn m s x = true ∧ Wp (evs Φ es env s) fun vs s => isObj cn m s x = true ∧ Wp (Φ k (x :: vs) s) Q) : Wp (ev Φ (.mcl cn m k a es) env st) Q :=
  w_bind (h.mono fun _ _ ⟨h1, h2⟩ => Wp_chk.mpr ⟨h1, w_bind (h2.mono fun _ _ ⟨h3, h4⟩ => Wp_chk.mpr ⟨h3, h4⟩)⟩)
theorem w_mcs (h : Wp (ev Φ a env st) fun x s => isObj cn m s x = true ∧ Wp (evs Φ es env s) fun vs s => (isObj cn m s x = true ∧ vs.length ≤ 1000) ∧ Wp (Φ k [x, starV vs] s) Q) : Wp (ev Φ (.mcs cn m k a es) env st) Q :=
  w_bind (h.mono fun _ _ ⟨h1, h2⟩ => Wp_chk.mpr ⟨h1, w_bind (h2.mono fun _ _ ⟨h3, h4⟩ => Wp_chk.mpr ⟨by simp [h3.1, h3.2], h4⟩)⟩)
theorem w_mk (h : Wp (evs Φ es env st) fun vs s => Wp (Φ k (.ref s.length :: vs) (s ++ [.obj cn []])) fun u s2 => isNon u = true ∧ Q (.ref s.length) s2) : Wp (ev Φ (.mk cn k es) env st) Q :=
  w_bind (h.mono fun _ _ h => w_bind (h.mono fun _ _ ⟨h1, h2⟩ => Wp_chk.mpr ⟨h1, Wp_val.mpr h2⟩))
theorem w_lenO (h : Wp (ev Φ a env st) fun x s => isObj cn "__len__" s x = true ∧ Wp (Φ k [x] s) fun u s => ∃ i, u = .int i ∧ (0 ≤ i ∧ i < 1000000) ∧ Q (.int i) s) : Wp (ev Φ (.lenO cn k a) env st) Q := by
  refine w_bind (h.mono fun _ _ ⟨h1, h2⟩ => Wp_chk.mpr ⟨h1, w_bind (h2.mono ?_)⟩)
  rintro _ s ⟨i, rfl, h3, q⟩
  exact Wp_chk.mpr ⟨by simp [h3.1, h3.2], Wp_val.mpr q⟩
theorem w_cnt {zs : List Str} {z : Str} (h : Wp (ev Φ a env st) fun x s => x = .xts zs ∧ Wp (ev Φ b env s) fun y s => y = .str z ∧ Q (.int (zs.count z : Nat)) s) : Wp (ev Φ (.cnt a b) env st) Q := by
  refine w_bind (h.mono ?_)
  rintro _ s ⟨rfl, h⟩
  refine w_bind (h.mono ?_)
  rintro _ s ⟨rfl, q⟩
  exact Wp_val.mpr q
theorem w_xte (q : Q (.xts []) st) : Wp (ev Φ .xte env st) Q := ⟨_, _, rfl, q⟩
theorem z_seta {e : E} (h : Wp (ev Φ e env st) fun x s => Wp (ev Φ a env s) fun p s => Wp (setaM cn p f x s) fun _ s => N env s) : Ws (ex Φ (.seta cn a f e) env st) N R :=
  Ws_bindS.mpr (h.mono fun _ _ h => Ws_bindS.mpr (h.mono fun _ _ h => Ws_bindS.mpr (h.mono fun _ _ q => Ws_next.mpr q)))
theorem t_seta {x : MV} {i : Nat} {fs : List (Str × MV)} {N : Unit → Store → Prop} (hx : noLst x = true) (h : st[i]? = some (.obj cn fs)) (hl : fs.length < 100) (q : N () (st.set i (.obj cn (putF f x fs)))) : Wp (setaM cn (.ref i) f x st) N :=
  ⟨(), _, by simp [setaM, alloc_idp hx, h, hl], q⟩
theorem t_setaL {xs : List MV} {i : Nat} {fs : List (Str × MV)} {N : Unit → Store → Prop} (hx : noLsts xs = true) (h : st[i]? = some (.obj cn fs)) (hl : fs.length < 100) (q : N () ((st ++ [Cell.lst xs]).set i (.obj cn (putF f (.ref st.length) fs)))) : Wp (setaM cn (.ref i) f (.lst xs) st) N := by
  have hi : i < st.length := lt_of h
  refine ⟨(), _, ?_, q⟩
  simp [setaM, alloc, allocs_idp hx, List.getElem?_append_left hi, h, hl]
theorem o_addX {xs ys : List Str} (h : xs.length + ys.length ≤ big) (q : Q (.xts (xs ++ ys)) st) : Wp (binM .add (.xts xs) (.xts ys) st) Q := Wp_chk.mpr ⟨by simp [h], Wp_val.mpr q⟩
theorem b_lenX {xs : List Str} (q : Q (.int xs.length) st) : Wp (bltM .len [.xts xs] st) Q := ⟨.int (xs.map MV.str).length, st, rfl, by rw [List.length_map]; exact q⟩
end
/-! ### counts -/
structure CntX (X : Nat → Option FDef) : Prop where
  i : lib X 2000 = some f_Count_init
  n : lib X 2001 = some f_Count_len
  a : lib X 2002 = some f_Count_add
  s : lib X 2003 = some f_Count_state
  u : lib X 2004 = some f_Count_undo
  v : lib X 2005 = some f_Count_votes
  l : lib X 2006 = some f_Count_left
def objC (r : List Cd) (m : Int) (p : Nat) : Cell := .obj "Count" [("rule", encR r), ("members", .int m), ("rows", .ref p)]
/-- a count's object at a, its rows at p: those before, the last one -/
structure CAt (st : Store) (a p : Nat) (r : List Cd) (m : Int) (rs : List (List Str)) (bs : List Str) : Prop where
  o : st[a]? = some (objC r m p)
  l : st[p]? = some (.lst ((rs ++ [bs]).map MV.xts))
section
variable {X : Nat → Option FDef} {Φ : Phi} {d a p : Nat} {env : Env} {st : Store} {r : List Cd} {m : Int} {rs : List (List Str)} {bs zs : List Str} {Q : MV → Store → Prop}
theorem CAt.isO (h : CAt st a p r m rs bs) {n : Str} (hn : ([("rule", encR r), ("members", .int m), ("rows", .ref p)] : List (Str × MV)).lookup n = none) : isObj "Count" n st (.ref a) = true := by
  show (match st[a]? with | some (.obj d fs) => decide (d = "Count") && (fs.lookup n).isNone | _ => false) = true
  rw [h.o]
  show (decide (("Count" : Str) = "Count") && (List.lookup n _).isNone) = true
  rw [hn]
  rfl
theorem CAt.get (h : CAt st a p r m rs bs) {f : Str} {x : MV} (e : ([("rule", encR r), ("members", .int m), ("rows", .ref p)] : List (Str × MV)).lookup f = some x) : getaM "Count" (.ref a) f st = .val x st := by
  show (match st[a]? with | some (.obj d fs) => chk (decide (d = "Count")) (ofO (fs.lookup f) st) | _ => .bad) = Out.val x st
  rw [h.o]
  show chk (decide (("Count" : Str) = "Count")) (ofO (List.lookup f _) st) = _
  rw [e]
  rfl
theorem w_rule (h : CAt st a p r m rs bs) (he : env[0]? = some (some (.ref a))) (q : Q (encR r) st) : Wp (ev Φ (.attr "Count" (.var 0) "rule") env st) Q := w_attr (w_var he ⟨rfl, rfl⟩) ⟨_, _, h.get (f := "rule") (x := encR r) rfl, q⟩
theorem w_members (h : CAt st a p r m rs bs) (he : env[0]? = some (some (.ref a))) (q : Q (.int m) st) : Wp (ev Φ (.attr "Count" (.var 0) "members") env st) Q := w_attr (w_var he ⟨rfl, rfl⟩) ⟨_, _, h.get (f := "members") (x := .int m) rfl, q⟩
theorem w_rows (h : CAt st a p r m rs bs) (he : env[0]? = some (some (.ref a))) (q : Q (.ref p) st) : Wp (ev Φ (.attr "Count" (.var 0) "rows") env st) Q := w_attr (w_var he ⟨rfl, rfl⟩) ⟨_, _, h.get (f := "rows") (x := .ref p) rfl, q⟩
theorem at_last {xs : List MV} {x : MV} : atM (xs ++ [x]) (-1) = some x := by
  unfold atM
  rw [if_neg (by decide), if_pos (by rw [List.length_append, List.length_singleton]; omega)]
  rw [show ((-1 : Int) + ((xs ++ [x]).length : Int)).toNat = xs.length by rw [List.length_append, List.length_singleton]; omega]
  simp
theorem u_last (h : CAt st a p r m rs bs) (q : Q (.xts bs) st) : Wp (subM (.ref p) (.int (-1)) st) Q := u_ref h.l (m := .xts bs) (by rw [List.map_append]; exact at_last) q
theorem w_last (h : CAt st a p r m rs bs) (he : env[0]? = some (some (.ref a))) (q : Q (.xts bs) st) : Wp (ev Φ (.sub (.attr "Count" (.var 0) "rows") (.neg (.cst (.int 1)))) env st) Q := by
  refine w_sub (w_rows h he (w_neg (w_cst ⟨1, rfl, ?_⟩)))
  refine u_ref h.l (m := .xts bs) ?_ q
  rw [List.map_append]
  exact at_last
def cY (bs : List Str) : Int := (bs.count ("yes" : Str) : Nat)
def cN (bs : List Str) : Int := (bs.count ("no" : Str) : Nat)
def cB (bs : List Str) : Int := (bs.count ("blank" : Str) : Nat)
def stV (r : List Cd) (m : Int) (bs : List Str) : Str := if passR r m (cY bs + (m - bs.length)) (cN bs) (cB bs) then (if passR r m (cY bs) (cN bs + (m - bs.length)) (cB bs) && passR r m (cY bs) (cN bs + 0) (cB bs) then "passed" else "open") else "failed"
theorem c_votes_ok (hX : CntX X) (h : CAt st a p r m rs bs) : call (lib X) (d + 1) 2005 [.ref a] st = .val (encV (cY bs) (cN bs) (cB bs)) st := by
  refine Wp.eq (Wp_call (fd := f_Count_votes) hX.v rfl ?_)
  rw [allocs_idp rfl]
  simp only [f_Count_votes, List.map_cons, List.map_nil, List.cons_append, List.nil_append, List.reduceReplicate, Nat.reduceSub]
  walk_at "q"
  refine w_compM (enc := MV.str) (xs := ["yes", "no", "blank"]) (f := fun z => .int (bs.count z : Nat)) (i_tup (by decide) ?_) (big_ok (by decide)) rfl (fun z hz => ?_) ?_
  · walk_at "q"
  · refine h_str (by simp only [List.set_cons_succ, List.set_cons_zero]; rfl) ?_
    refine ⟨rfl, w_cnt (zs := bs) (z := z) (w_last h rfl ⟨rfl, w_var rfl ⟨rfl, rfl, rfl⟩⟩)⟩
  walk_at "q"
  show Wp (gcv st st (encV (cY bs) (cN bs) (cB bs))) _
  rw [gcv_same (pure_below (encV_pure _ _ _))]
  exact Wp_val.mpr ⟨rfl, rfl⟩
theorem c_left_ok (hX : CntX X) (h : CAt st a p r m rs bs) : call (lib X) (d + 1) 2006 [.ref a] st = .val (.int (m - bs.length)) st := by
  refine Wp.eq (Wp_call (fd := f_Count_left) hX.l rfl ?_)
  rw [allocs_idp rfl]
  simp only [f_Count_left, List.map_cons, List.map_nil, List.cons_append, List.nil_append, List.reduceReplicate, Nat.reduceSub]
  walk_at "q"
  refine w_members h rfl ?_
  walk_at "q"
  refine w_rows h rfl ?_
  walk_at "q"
  refine u_last h ?_
  walk_at "q"
  refine b_lenX ?_
  walk_at "q"
  exact gcv_int ▸ Wp_val.mpr ⟨rfl, rfl⟩
theorem c_len_ok (hX : CntX X) (h : CAt st a p r m rs bs) : call (lib X) (d + 1) 2001 [.ref a] st = .val (.int bs.length) st := by
  refine Wp.eq (Wp_call (fd := f_Count_len) hX.n rfl ?_)
  rw [allocs_idp rfl]
  simp only [f_Count_len, List.map_cons, List.map_nil, List.cons_append, List.nil_append, List.reduceReplicate, Nat.reduceSub]
  walk_at "q"
  refine w_rows h rfl ?_
  walk_at "q"
  refine u_last h ?_
  walk_at "q"
  refine b_lenX ?_
  exact gcv_int ▸ Wp_val.mpr ⟨rfl, rfl⟩
theorem gcv_strV {z : Str} : gcv st st (.str z) = .val (.str z) st := gcv_same rfl
theorem c_state_ok (hX : CntX X) (hr : okR r) (h : CAt st a p r m rs bs) : call (lib X) (d + 4) 2003 [.ref a] st = .val (.str (stV r m bs)) st := by
  refine Wp.eq (Wp_call (fd := f_Count_state) hX.s rfl ?_)
  rw [allocs_idp rfl]
  simp only [f_Count_state, List.map_cons, List.map_nil, List.cons_append, List.nil_append, List.reduceReplicate, Nat.reduceSub]
  walk_at "q"
  refine w_mcl (w_var rfl ⟨h.isO (n := "votes") rfl, w_nil ⟨h.isO (n := "votes") rfl, wp_eq (c_votes_ok hX h) ?_⟩⟩)
  refine h_tup rfl (by rfl) (by simp only [asgs, List.set_cons_succ, List.set_cons_zero]; rfl) ?_
  walk_at "q"
  refine w_mcl (w_var rfl ⟨h.isO (n := "left") rfl, w_nil ⟨h.isO (n := "left") rfl, wp_eq (c_left_ok hX h) ?_⟩⟩)
  walk_at "q"
  refine w_rule h rfl ?_
  walk_at "q"
  refine w_members h rfl ?_
  walk_at "q"
  refine wp_eq (is_passed_ok (y := cY bs + (m - bs.length)) (n := cN bs) (b := cB bs) hr) ?_
  walk_at "q"
  · rename_i g
    have g : passR r m (cY bs + (m - bs.length)) (cN bs) (cB bs) = false := by simpa using g
    rw [gcv_strV]
    refine Wp_val.mpr ⟨?_, rfl⟩
    rw [stV, g]
    rfl
  · rename_i g
    have g : passR r m (cY bs + (m - bs.length)) (cN bs) (cB bs) = true := by simpa using g
    refine z_for (e_ex ?_)
    walk_at "q"
    have turn : ∀ {o : Int} {e5 : Option MV} {rest : List MV} {N : Env → Store → Prop}, (passR r m (cY bs) (cN bs + o) (cB bs) = false → stV r m bs = "open") → (passR r m (cY bs) (cN bs + o) (cB bs) = true → Ws (floop [] (.nm 5) (exs (call (lib X) (d + 3)) b1_Count_state) rest [some (.ref a), some (.int (cY bs)), some (.int (cN bs)), some (.int (cB bs)), some (.int (m - bs.length)), some (.int o)] st) N (fun m_1 st2 => Wp (gcv st st2 m_1) fun v s => v = .str (stV r m bs) ∧ s = st)) →
        Ws (floop [] (.nm 5) (exs (call (lib X) (d + 3)) b1_Count_state) (.int o :: rest) [some (.ref a), some (.int (cY bs)), some (.int (cN bs)), some (.int (cB bs)), some (.int (m - bs.length)), e5] st) N (fun m_1 st2 => Wp (gcv st st2 m_1) fun v s => v = .str (stV r m bs) ∧ s = st) := by
      intro o e5 rest N h1 h2
      refine fl_cons ?_
      unfold b1_Count_state
      walk_at "q"
      refine w_rule h rfl ?_
      walk_at "q"
      refine w_members h rfl ?_
      walk_at "q"
      refine wp_eq (is_passed_ok (y := cY bs) (n := cN bs + o) (b := cB bs) hr) ?_
      walk_at "q"
      · rename_i g
        rw [gcv_strV, h1 (by simpa using g)]
        exact Wp_val.mpr ⟨rfl, rfl⟩
      · rename_i g
        exact h2 (by simpa using g)
    refine turn (fun g2 => ?_) fun g2 => turn (fun g3 => ?_) fun g3 => fl_nil ?_
    · rw [stV, g, g2]
      rfl
    · rw [stV, g, g2, g3]
      rfl
    · walk_at "q"
      rw [gcv_strV]
      refine Wp_val.mpr ⟨?_, rfl⟩
      rw [stV, g, g2, g3]
      rfl
def ballL : List Str := ["yes", "no", "blank", "away"]
theorem o_nmemB {x : Str} {Q : MV → Store → Prop} (h : x ∈ ballL) (q : Q (.bl false) st) : Wp (cmpM .nmem (.str x) (.tup [.str "yes", .str "no", .str "blank", .str "away"]) st) Q := by
  refine ⟨_, st, ?_, q⟩
  simp only [ballL, List.mem_cons, List.not_mem_nil, or_false] at h
  rcases h with rfl | rfl | rfl | rfl <;> rfl
theorem xts_below {n : Nat} : ∀ rows : List (List Str), belows n (rows.map MV.xts) = true
  | [] => rfl
  | _ :: r => by
    rw [List.map_cons, belows, xts_below r]
    rfl
theorem strs_noLst : ∀ zs : List Str, noLsts (zs.map MV.str) = true
  | [] => rfl
  | _ :: r => by
    rw [List.map_cons, noLsts, strs_noLst r]
    rfl
theorem kpt_set {xs : List MV} (hb : belows st.length xs = true) : Kpt st (st.set p (.lst xs)) := by
  refine ⟨List.length_set .., fun i c h => ?_⟩
  by_cases hi : p = i
  · subst hi
    by_cases hp : p < st.length
    · rw [List.getElem?_set_self hp] at h
      exact .inr ⟨xs, (Option.some.inj h).symm, hb⟩
    · rw [List.getElem?_eq_none (by rw [List.length_set]; omega)] at h
      cases h
  · rw [List.getElem?_set_ne hi] at h
    exact .inl h
theorem gcv_set {xs : List MV} {v : MV} (hb : belows st.length xs = true) (hv : below st.length v = true) : gcv st (st.set p (.lst xs)) v = .val v (st.set p (.lst xs)) := by
  have := gcv_pure (ext := []) (kpt_set (p := p) hb) hv
  rwa [List.append_nil] at this
theorem CAt.ne (h : CAt st a p r m rs bs) : a ≠ p := fun e => by
  have h1 := h.o
  rw [e, h.l] at h1
  cases h1
theorem CAt.put (h : CAt st a p r m rs bs) {rs' : List (List Str)} {bs' : List Str} : CAt (st.set p (.lst ((rs' ++ [bs']).map MV.xts))) a p r m rs' bs' :=
  ⟨(List.getElem?_set_ne (Ne.symm h.ne)).trans h.o, List.getElem?_set_self (lt_of h.l)⟩
theorem c_add_ok (hX : CntX X) (hr : okR r) (h : CAt st a p r m rs bs) (hb : ∀ z ∈ zs, z ∈ ballL) (hl : (bs.length : Int) + zs.length ≤ m) (hm : m ≤ 40) (hrs : rs.length < 1000000) :
    call (lib X) (d + 5) 2002 [.ref a, .xts zs] st = .val (.str (stV r m (bs ++ zs))) (st.set p (.lst ((rs ++ [bs] ++ [bs ++ zs]).map MV.xts))) := by
  refine Wp.eq (Wp_call (fd := f_Count_add) hX.a rfl ?_)
  rw [allocs_idp rfl]
  simp only [f_Count_add, List.map_cons, List.map_nil, List.cons_append, List.nil_append, List.reduceReplicate, Nat.reduceSub]
  walk_at "q"
  refine z_for (e_ex (w_var rfl ⟨zs.map MV.str, rfl, strs_noLst zs, ?_⟩))
  show Ws (floop [] (.nm 2) (exs (call (lib X) (d + 4)) b1_Count_add) (zs.map MV.str) _ st) _ _
  refine floop_inv (P := fun env s => (∃ e2 : Option MV, env = [some (.ref a), some (.xts zs), e2]) ∧ s = st) (fun _ _ _ => rfl) (fun x hx env s hI => ?_) ⟨⟨_, rfl⟩, rfl⟩ ?_
  · obtain ⟨⟨e2, rfl⟩, rfl⟩ := hI
    obtain ⟨z, hz, rfl⟩ := List.mem_map.mp hx
    refine h_str (by simp only [List.set_cons_succ, List.set_cons_zero]; rfl) ?_
    unfold b1_Count_add
    walk_at "q"
    refine o_nmemB (hb z hz) ?_
    walk_at "q"
    exact ⟨⟨_, rfl⟩, rfl⟩
  · rintro env s ⟨⟨e2, rfl⟩, rfl⟩
    walk_at "q"
    refine w_rows h rfl ?_
    walk_at "q"
    refine u_last h ?_
    walk_at "q"
    refine b_lenX ?_
    walk_at "q"
    refine b_lenX ?_
    walk_at "q"
    refine w_members h rfl ?_
    walk_at "q"
    · refine w_mth (w_rows h rfl ⟨lstOf_ref h.l, ?_⟩)
      walk_at "q"
      refine w_rows h rfl ?_
      walk_at "q"
      refine u_last h ?_
      walk_at "q"
      refine o_addX (Nat.le_trans (m := 40) (by omega) (by decide)) ?_
      walk_at "q"
      refine t_append h.l (by rfl) (Nat.lt_of_le_of_lt (m := 1000000) (by simp; omega) (by decide)) ?_
      have e : (rs ++ [bs]).map MV.xts ++ [.xts (bs ++ zs)] = (rs ++ [bs] ++ [bs ++ zs]).map MV.xts := by simp
      rw [e]
      have h2 : CAt (s.set p (.lst ((rs ++ [bs] ++ [bs ++ zs]).map MV.xts))) a p r m (rs ++ [bs]) (bs ++ zs) := h.put
      walk_at "q"
      refine w_mcl (w_var rfl ⟨h2.isO (n := "state") rfl, w_nil ⟨h2.isO (n := "state") rfl, wp_eq (c_state_ok hX hr h2) ?_⟩⟩)
      rw [gcv_set (xts_below _) rfl]
      exact Wp_val.mpr ⟨rfl, rfl⟩
theorem t_pop {xs : List MV} {y : MV} {i : Nat} {Q : MV → Store → Prop} (h : st[i]? = some (.lst xs)) (hy : xs.getLast? = some y) (q : Q y (st.set i (.lst xs.dropLast))) : Wp (mthM .pop (.ref i) [] st) Q := ⟨_, _, by simp only [mthM, h, hy], q⟩
theorem c_undo_ok {rs' : List (List Str)} {bs' : List Str} (hX : CntX X) (h : CAt st a p r m (rs' ++ [bs']) bs) : call (lib X) (d + 1) 2004 [.ref a] st = .val .non (st.set p (.lst ((rs' ++ [bs']).map MV.xts))) := by
  refine Wp.eq (Wp_call (fd := f_Count_undo) hX.u rfl ?_)
  rw [allocs_idp rfl]
  simp only [f_Count_undo, List.map_cons, List.map_nil, List.cons_append, List.nil_append, List.reduceReplicate, Nat.reduceSub]
  walk_at "q"
  refine w_rows h rfl ?_
  walk_at "q"
  refine b_lenR h.l ?_
  walk_at "q"
  · refine w_mth (w_rows h rfl ⟨lstOf_ref h.l, w_nil ?_⟩)
    refine t_pop (y := .xts bs) h.l (by rw [List.map_append]; exact List.getLast?_concat) ?_
    walk_at "q"
    rw [show ((rs' ++ [bs'] ++ [bs]).map MV.xts).dropLast = (rs' ++ [bs']).map MV.xts by rw [List.map_append]; exact List.dropLast_concat]
    rw [gcv_set (xts_below _) rfl]
    exact Wp_val.mpr ⟨rfl, rfl⟩
theorem gcv_open {st2 : Store} {v : MV} {c : Str} {fs : List (Str × MV)} {e : Cell} (h1 : st[a]? = some e) (h2 : st2[a]? = some (.obj c fs)) (hn : Cell.beq (.obj c fs) e = false) (hb : belows st.length (fs.map (·.2)) = false) : gcv st st2 v = .val v st2 := by
  have hk : keepOk st.length st st2 = false := by
    unfold keepOk
    rw [Bool.and_eq_false_iff]
    right
    rw [List.all_eq_false]
    refine ⟨a, List.mem_range.mpr (lt_of h1), ?_⟩
    rw [h1, h2]
    simp only [hn, hb]
    decide
  unfold gcv
  rw [hk]
theorem blt_self (n : Nat) : Nat.blt n n = false := by
  cases h : Nat.blt n n with
  | false => rfl
  | true => exact absurd (Nat.le_of_ble_eq_true h) (Nat.not_succ_le_self n)
theorem c_init_ok (hX : CntX X) (hr : okR r) (hm : okM m) (h : st[a]? = some (.obj "Count" [])) : call (lib X) (d + 5) 2000 [.ref a, encR r, .int m] st = .val .non ((st ++ [Cell.lst [.xts []]]).set a (objC r m st.length)) := by
  have hm0 := hm.lo
  have hm1 := hm.hi
  have ha := lt_of h
  refine Wp.eq (Wp_call (fd := f_Count_init) hX.i rfl ?_)
  rw [allocs_idp (by simp [noLsts, noLst, pure_noLst (encR_pure r)])]
  simp only [f_Count_init, List.map_cons, List.map_nil, List.cons_append, List.nil_append, List.reduceReplicate, Nat.reduceSub]
  walk_at "q"
  refine wp_eq (need_rule_ok hr) ?_
  walk_at "q"
  refine wp_eq (need_members_ok hm0 hm1) ?_
  walk_at "q"
  refine z_seta (w_var rfl (w_var rfl (t_seta (pure_noLst (encR_pure r)) h (show 0 < 100 by decide) ?_)))
  walk_at "q"
  refine z_seta (w_var rfl (w_var rfl (t_seta (by rfl) (List.getElem?_set_self ha) (show 1 < 100 by decide) ?_)))
  walk_at "q"
  have ha2 : a < (st.set a (.obj "Count" (putF "rule" (encR r) []))).length := by rw [List.length_set]; exact ha
  refine z_seta (w_lst (w_cons (w_xte (w_nil (w_var rfl (t_setaL (by rfl) (List.getElem?_set_self ha2) (show 2 < 100 by decide) ?_))))))
  walk_at "q"
  have e : (((st.set a (.obj "Count" (putF "rule" (encR r) []))).set a (.obj "Count" (putF "members" (.int m) (putF "rule" (encR r) [])))) ++ [Cell.lst [.xts []]]).set a (.obj "Count" (putF "rows" (.ref ((st.set a (.obj "Count" (putF "rule" (encR r) []))).set a (.obj "Count" (putF "members" (.int m) (putF "rule" (encR r) [])))).length) (putF "members" (.int m) (putF "rule" (encR r) [])))) = (st ++ [Cell.lst [.xts []]]).set a (objC r m st.length) := by
    rw [List.set_set, List.length_set, List.set_append_left _ _ (by rw [List.length_set]; exact ha), List.set_set, List.set_append_left _ _ ha]
    rfl
  rw [e]
  have h2 : ((st ++ [Cell.lst [.xts []]]).set a (objC r m st.length))[a]? = some (objC r m st.length) := List.getElem?_set_self (by rw [List.length_append]; omega)
  rw [gcv_open h h2 (by rfl) (by simp [belows, below, pure_below (encR_pure r), blt_self])]
  exact Wp_val.mpr ⟨rfl, rfl⟩
theorem CAt.new (ha : a < st.length) : CAt ((st ++ [Cell.lst [.xts []]]).set a (objC r m st.length)) a st.length r m [] [] :=
  ⟨List.getElem?_set_self (by rw [List.length_append]; omega), by rw [List.getElem?_set_ne (by omega)]; exact cellN⟩
/-- Count(rule, members) -/
theorem w_count {es : Es} (hX : CntX X) (hr : okR r) (hm : okM m) (h : Wp (evs (call (lib X) (d + 5)) es env st) fun vs s => vs = [encR r, .int m] ∧ ∀ s2, CAt s2 s.length (s.length + 1) r m [] [] → Ext s s2 → s2.length = s.length + 2 → Q (.ref s.length) s2) : Wp (ev (call (lib X) (d + 5)) (.mk "Count" 2000 es) env st) Q := by
  refine w_mk (h.mono ?_)
  rintro _ s ⟨rfl, q⟩
  refine wp_eq (c_init_ok (a := s.length) hX hr hm cellN) ⟨rfl, ?_⟩
  have hl : (s ++ [Cell.obj "Count" []]).length = s.length + 1 := by simp
  refine q _ (hl ▸ CAt.new (by rw [hl]; omega)) (fun i c hc => ?_) (by simp)
  have hi := lt_of hc
  rw [List.getElem?_set_ne (by omega), List.getElem?_append_left (by rw [hl]; omega), List.getElem?_append_left hi]
  exact hc
end
end QR

set_option Elab.async false
set_option linter.all false
set_option maxRecDepth 100000
set_option maxHeartbeats 4000000
/-! QCount2: states of counts, plain. -/
namespace QR
open PySem
section
variable {r : List Cd} {m y n b i j k f : Int} {bs : List Str} {z : Str}
/-- votes that were others become yes -/
theorem pass_up (hr : okR r) (hi : 0 ≤ i) (hj : 0 ≤ j) (hk : i + j ≤ k) (h : passR r m y n b = true) : passR r m (y + k) (n - i) (b - j) = true := by
  refine pass_mono hr (fun c _ hc => ?_) h
  obtain ⟨h1, h2, h3, h4⟩ := coef hc
  have e1 := Int.mul_nonneg (show 0 ≤ k - i - j by omega) h1
  have e2 := Int.mul_nonneg hi h2
  have e3 := Int.mul_nonneg hj h3
  unfold lin
  simp only [Int.sub_mul, Int.mul_sub, Int.add_mul] at *
  omega
/-- what passes with all the free ones saying no, and with all of them away, passes -/
theorem pass_sure (hr : okR r) (hk : 0 ≤ k) (hi : 0 ≤ i) (hj : 0 ≤ j) (hf : i + j ≤ f) (h1 : passR r m y (n + f) b = true) (h2 : passR r m y n b = true) : passR r m (y + k) (n + i) (b + j) = true := by
  refine pass_btw hr (fun c _ hc => ?_) h1 h2
  obtain ⟨c1, c2, c3, c4⟩ := coef hc
  have e1 := Int.mul_nonneg hk c1
  have e2 := Int.mul_nonneg hj c4
  unfold lin
  by_cases q : 0 ≤ cn c
  · right
    have e3 := Int.mul_nonneg hi q
    have e4 := Int.mul_nonneg hj q
    simp only [Int.mul_sub, Int.add_mul] at *
    omega
  · left
    have e3 := mulr' hf (show cn c ≤ 0 by omega)
    simp only [Int.mul_sub, Int.add_mul] at *
    omega
theorem stV_passed : stV r m bs = "passed" ↔ passR r m (cY bs + (m - bs.length)) (cN bs) (cB bs) = true ∧ passR r m (cY bs) (cN bs + (m - bs.length)) (cB bs) = true ∧ passR r m (cY bs) (cN bs + 0) (cB bs) = true := by
  unfold stV
  cases passR r m (cY bs + (m - bs.length)) (cN bs) (cB bs) <;> cases passR r m (cY bs) (cN bs + (m - bs.length)) (cB bs) <;> cases passR r m (cY bs) (cN bs + 0) (cB bs) <;> decide
theorem stV_failed : stV r m bs = "failed" ↔ passR r m (cY bs + (m - bs.length)) (cN bs) (cB bs) = false := by
  unfold stV
  cases passR r m (cY bs + (m - bs.length)) (cN bs) (cB bs) <;> cases passR r m (cY bs) (cN bs + (m - bs.length)) (cB bs) <;> cases passR r m (cY bs) (cN bs + 0) (cB bs) <;> decide
theorem stV_cases : stV r m bs = "passed" ∨ stV r m bs = "failed" ∨ stV r m bs = "open" := by
  unfold stV
  cases passR r m (cY bs + (m - bs.length)) (cN bs) (cB bs) <;> cases passR r m (cY bs) (cN bs + (m - bs.length)) (cB bs) <;> cases passR r m (cY bs) (cN bs + 0) (cB bs) <;> decide
theorem cnt_snoc (hz : z ∈ ballL) : ∃ k i j : Int, 0 ≤ k ∧ 0 ≤ i ∧ 0 ≤ j ∧ k + i + j ≤ 1 ∧ cY (bs ++ [z]) = cY bs + k ∧ cN (bs ++ [z]) = cN bs + i ∧ cB (bs ++ [z]) = cB bs + j := by
  simp only [ballL, List.mem_cons, List.not_mem_nil, or_false] at hz
  unfold cY cN cB
  simp only [List.count_append]
  rcases hz with rfl | rfl | rfl | rfl
  · exact ⟨1, 0, 0, by decide, by decide, by decide, by decide, rfl, rfl, rfl⟩
  · exact ⟨0, 1, 0, by decide, by decide, by decide, by decide, rfl, rfl, rfl⟩
  · exact ⟨0, 0, 1, by decide, by decide, by decide, by decide, rfl, rfl, rfl⟩
  · exact ⟨0, 0, 0, by decide, by decide, by decide, by decide, rfl, rfl, rfl⟩
/-- once told, it stays -/
theorem stV_keep (hr : okR r) (hz : z ∈ ballL) (hl : (bs.length : Int) + 1 ≤ m) (h : stV r m bs ≠ "open") : stV r m (bs ++ [z]) = stV r m bs := by
  obtain ⟨k, i, j, k0, i0, j0, h1, ey, en, eb⟩ := cnt_snoc (bs := bs) hz
  have el : ((bs ++ [z]).length : Int) = bs.length + 1 := by simp
  rcases stV_cases (r := r) (m := m) (bs := bs) with q | q | q
  · rw [q, stV_passed, ey, en, eb, el]
    obtain ⟨_, p2, p3⟩ := stV_passed.mp q
    rw [Int.add_zero] at p3
    have key : ∀ {a b' c : Int}, 0 ≤ a → 0 ≤ b' → 0 ≤ c → b' + c ≤ m - bs.length → passR r m (cY bs + a) (cN bs + b') (cB bs + c) = true := fun h1 h2 h3 h4 => pass_sure hr h1 h2 h3 h4 p2 p3
    refine ⟨?_, ?_, ?_⟩
    · rw [Int.add_assoc]
      exact key (by omega) i0 j0 (by omega)
    · rw [Int.add_assoc]
      exact key k0 (by omega) j0 (by omega)
    · rw [Int.add_zero]
      exact key k0 i0 j0 (by omega)
  · rw [q, stV_failed, ey, en, eb, el]
    have p1 := stV_failed.mp q
    cases hp : passR r m (cY bs + k + (m - (bs.length + 1))) (cN bs + i) (cB bs + j) with
    | false => rfl
    | true =>
      have := pass_up (k := 1 - k) hr i0 j0 (by omega) hp
      rw [show cY bs + k + (m - (bs.length + 1)) + (1 - k) = cY bs + (m - bs.length) by omega, show cN bs + i - i = cN bs by omega, show cB bs + j - j = cB bs by omega, p1] at this
      cases this
  · exact absurd q h
theorem stV_end (h : (bs.length : Int) = m) : stV r m bs = if passR r m (cY bs) (cN bs) (cB bs) then "passed" else "failed" := by
  unfold stV
  rw [h, Int.sub_self, Int.add_zero, Int.add_zero]
  cases passR r m (cY bs) (cN bs) (cB bs) <;> rfl
theorem cnt_le : ∀ bs : List Str, cY bs + cN bs + cB bs ≤ bs.length
  | [] => by decide
  | z :: bs => by
    have ih := cnt_le bs
    unfold cY cN cB at *
    simp only [List.count_cons, List.length_cons]
    by_cases h1 : z = "yes"
    · subst h1
      rw [show ((("yes" : Str) == "yes")) = true from rfl, show ((("yes" : Str) == "no")) = false from rfl, show ((("yes" : Str) == "blank")) = false from rfl]
      simp
      omega
    · by_cases h2 : z = "no"
      · subst h2
        rw [show ((("no" : Str) == "yes")) = false from rfl, show ((("no" : Str) == "no")) = true from rfl, show ((("no" : Str) == "blank")) = false from rfl]
        simp
        omega
      · rw [show (z == ("yes" : Str)) = false from beq_eq_false_iff_ne.mpr h1, show (z == ("no" : Str)) = false from beq_eq_false_iff_ne.mpr h2]
        simp
        split <;> omega
theorem cnt_ok (h : (bs.length : Int) = m) : okV m (cY bs) (cN bs) (cB bs) := ⟨Int.natCast_nonneg _, Int.natCast_nonneg _, Int.natCast_nonneg _, h ▸ cnt_le bs⟩
/-! all say yes -/
def yesR (k : Nat) : List Str := List.replicate k "yes"
theorem yes_y {k : Nat} : cY (yesR k) = k := by unfold cY yesR; rw [List.count_replicate_self]
theorem yes_n {k : Nat} : cN (yesR k) = 0 := by unfold cN yesR; rw [List.count_replicate]; rfl
theorem yes_b {k : Nat} : cB (yesR k) = 0 := by unfold cB yesR; rw [List.count_replicate]; rfl
theorem yes_len {k : Nat} : (yesR k).length = k := List.length_replicate ..
theorem yes_snoc {k : Nat} : yesR k ++ [("yes" : Str)] = yesR (k + 1) := List.replicate_succ'.symm
theorem yes_sure {k : Nat} (hr : okR r) (hk : (k : Int) ≤ m) (h : sure r m k (m - k) = true) : stV r m (yesR k) = "passed" := by
  unfold sure at h
  simp only [Bool.and_eq_true] at h
  rw [stV_passed, yes_y, yes_n, yes_b, yes_len, Int.zero_add, Int.add_zero]
  refine ⟨?_, h.1, h.2⟩
  have := pass_sure (k := m - k) (i := 0) (j := 0) (f := m - k) (n := 0) hr (by omega) (by decide) (by decide) (by omega) (by rw [Int.zero_add]; exact h.1) h.2
  rwa [Int.add_zero] at this
theorem yes_not {k : Nat} (h : sure r m k (m - k) = false) : stV r m (yesR k) ≠ "passed" := fun q => by
  rw [stV_passed, yes_y, yes_n, yes_b, yes_len, Int.zero_add, Int.add_zero] at q
  unfold sure at h
  rw [q.2.1, q.2.2] at h
  cases h
theorem yes_all {k : Nat} (hk : (k : Int) = m) (h : sure r m m (m - m) = false) : stV r m (yesR k) = "failed" := by
  rw [stV_end (by rw [yes_len]; exact hk), yes_y, yes_n, yes_b, hk]
  unfold sure at h
  rw [Int.sub_self] at h
  cases hp : passR r m m 0 0 with
  | false => rfl
  | true => rw [hp] at h; cases h
theorem sureL_head {a : Int} {l : List Int} (h : sureL r m = a :: l) : (0 ≤ a ∧ a ≤ m ∧ sure r m a (m - a) = true) ∧ ∀ x, 0 ≤ x → x < a → sure r m x (m - x) = false := by
  have ha : a ∈ sureL r m := by rw [h]; exact List.mem_cons_self
  obtain ⟨h1, h2⟩ := List.mem_filter.mp ha
  have h3 := rngL_mem.mp h1
  refine ⟨⟨h3.1, by omega, h2⟩, fun x hx hl => ?_⟩
  cases hp : sure r m x (m - x) with
  | false => rfl
  | true =>
    have hm : x ∈ sureL r m := List.mem_filter.mpr ⟨rngL_mem.mpr ⟨hx, by omega⟩, hp⟩
    have hs : (sureL r m).Pairwise (· < ·) := rngL_lt.sublist List.filter_sublist
    rw [h] at hm hs
    rcases List.mem_cons.mp hm with e | z
    · omega
    · have := (List.pairwise_cons.mp hs).1 x z
      omega
theorem sureL_nil (hm : 0 ≤ m) (h : sureL r m = []) : sure r m m (m - m) = false := by
  cases hp : sure r m m (m - m) with
  | false => rfl
  | true =>
    have : m ∈ sureL r m := List.mem_filter.mpr ⟨rngL_mem.mpr ⟨hm, by omega⟩, hp⟩
    rw [h] at this
    cases this
end
theorem strs_pure : ∀ zs : List Str, pureMs (zs.map MV.str) = true
  | [] => rfl
  | _ :: r => by
    rw [List.map_cons, pureMs, strs_pure r]
    rfl
theorem CAt.upd {st st' : Store} {a p i : Nat} {r : List Cd} {m : Int} {rs : List (List Str)} {bs : List Str} (h : CAt st a p r m rs bs) (u : Upd st i st') (ha : a ≠ i) (hp : p ≠ i) : CAt st' a p r m rs bs := ⟨u.cell ha h.o, u.cell hp h.l⟩
theorem CAt.ext {st st' : Store} {a p : Nat} {r : List Cd} {m : Int} {rs : List (List Str)} {bs : List Str} (h : CAt st a p r m rs bs) (u : Ext st st') : CAt st' a p r m rs bs := ⟨u _ _ h.o, u _ _ h.l⟩
theorem o_nmemS {r : List Cd} {m : Int} {bs : List Str} {st : Store} {Q : MV → Store → Prop} (q : Q (.bl false) st) : Wp (cmpM .nmem (.str (stV r m bs)) (.tup [.str "passed", .str "failed", .str "open"]) st) Q := by
  refine ⟨_, st, ?_, q⟩
  rcases stV_cases (r := r) (m := m) (bs := bs) with e | e | e <;> rw [e] <;> rfl
theorem src_set {st : Store} {i p : Nat} {c : Cell} (h : Src st i) (hi : i ≠ p) : Src (st.set p c) i := by
  obtain ⟨x, y, e⟩ := h
  exact ⟨x, y, by rw [List.getElem?_set_ne (Ne.symm hi)]; exact e⟩
theorem o_isnI {k : Int} {st : Store} {Q : MV → Store → Prop} (q : Q (.bl true) st) : Wp (cmpM .isn (.int k) .non st) Q := ⟨_, _, rfl, q⟩
theorem o_isI {k : Int} {st : Store} {Q : MV → Store → Prop} (q : Q (.bl false) st) : Wp (cmpM .is (.int k) .non st) Q := ⟨_, _, rfl, q⟩
theorem ext_split {st s : Store} (h : Ext st s) : ∃ ext, s = st ++ ext := by
  refine ⟨s.drop st.length, ?_⟩
  have hl := h.len
  refine List.ext_getElem? fun i => ?_
  by_cases hi : i < st.length
  · rw [List.getElem?_append_left hi, List.getElem?_eq_getElem hi]
    exact h i _ (List.getElem?_eq_getElem hi)
  · rw [List.getElem?_append_right (by omega), List.getElem?_drop]
    congr 1
    omega
end QR

set_option Elab.async false
set_option linter.all false
set_option maxRecDepth 100000
namespace QR.K39
open PySem QR
/-- _law_by_hand(): names 0:half 1:third 2:count -/
def f_law_by_hand_k39 : FDef := ⟨0, 3, .cons (.asg (.nm 0) (.tup (.cons (.tup (.cons (.cst (.str "cast")) (.cons (.cst (.int 1)) (.cons (.cst (.int 2)) (.cons (.cst (.bl true)) .nil))))) (.cons (.tup (.cons (.cst (.str "turnout")) (.cons (.cst (.int 1)) (.cons (.cst (.int 2)) (.cons (.cst (.bl false)) .nil))))) .nil)))) (.cons (.asg (.nm 1) (.tup (.cons (.tup (.cons (.cst (.str "present")) (.cons (.cst (.int 2)) (.cons (.cst (.int 3)) (.cons (.cst (.bl false)) .nil))))) .nil))) (.cons (.asg (.nm 2) (.mk "Count" 2000 (.cons (.var 1) (.cons (.cst (.int 6)) .nil)))) (.cons (.iff (.or (.cmp .ne (.mcs "Count" "add" 2002 (.var 2) (.cons (.cst (.str "yes")) (.cons (.cst (.str "yes")) (.cons (.cst (.str "yes")) (.cons (.cst (.str "blank")) (.cons (.cst (.str "blank")) .nil)))))) (.cst (.str "open"))) (.cmp .ne (.mcs "Count" "add" 2002 (.var 2) (.cons (.cst (.str "yes")) .nil)) (.cst (.str "passed")))) (.cons (.ret (.cst (.bl false))) .nil) (.nil)) (.cons (.iff (.cmp .isn (.call 72 (.cons (.tup (.cons (.tup (.cons (.cst (.str "cast")) (.cons (.cst (.int 2)) (.cons (.cst (.int 3)) (.cons (.cst (.bl false)) .nil))))) .nil)) (.cons (.tup (.cons (.cst (.int 2)) (.cons (.cst (.int 2)) .nil))) (.cons (.cst (.str "blank")) (.cons (.tup (.cons (.cst (.int 0)) .nil)) .nil))))) (.cst (.bl true))) (.cons (.ret (.cst (.bl false))) .nil) (.nil)) (.cons (.iff (.or (.cmp .isn (.call 72 (.cons (.var 0) (.cons (.tup (.cons (.cst (.int 1)) (.cons (.cst (.int 1)) .nil))) (.cons (.cst (.str "no")) (.cons (.tup (.cons (.cst (.int 0)) (.cons (.cst (.int 1)) .nil))) .nil))))) (.cst (.bl true))) (.cmp .isn (.call 72 (.cons (.var 1) (.cons (.tup (.cons (.cst (.int 4)) (.cons (.cst (.int 2)) .nil))) (.cons (.cst (.str "blank")) (.cons (.tup (.cons (.cst (.int 0)) .nil)) .nil))))) (.cst (.bl true)))) (.cons (.ret (.cst (.bl false))) .nil) (.nil)) (.cons (.ret (.cmp .is (.call 72 (.cons (.tup (.cons (.tup (.cons (.cst (.str "turnout")) (.cons (.cst (.int 1)) (.cons (.cst (.int 1)) (.cons (.cst (.bl false)) .nil))))) .nil)) (.cons (.tup (.cons (.cst (.int 1)) (.cons (.cst (.int 1)) .nil))) (.cons (.cst (.str "blank")) (.cons (.tup (.cons (.cst (.int 0)) .nil)) .nil))))) (.cst (.bl true)))) .nil))))))⟩
/-- law(script): names 0:script 1:k 2:source 3:turn 4:rule 5:groups 6:others 7:some 8:found 9:count 10:order 11:left 12:index 13:member_so 14:state 15:yes -/
def b1_law_k39 : Ss := .cons (.exp (.mth .append (.var 10) (.cons (.mth .pop (.var 11) (.cons (.call 7 (.cons (.var 2) (.cons (.blt .len (.cons (.var 11) .nil)) .nil))) .nil)) .nil))) .nil
def b2_law_k39 : Ss := .cons (.asg (.nm 14) (.mcs "Count" "add" 2002 (.var 9) (.cons (.ite (.cmp .mem (.var 12) (.var 7)) (.cst (.str "yes")) (.var 6)) .nil))) .nil
def b3_law_k39 : Ss := .cons (.for (.nm 13) (.rng (.cst (.int 0)) (.sub (.var 5) (.var 12))) (b2_law_k39)) (.cons (.iff (.or (.and (.cmp .eq (.var 14) (.cst (.str "failed"))) (.var 8)) (.and (.cmp .eq (.var 14) (.cst (.str "passed"))) (.not (.var 8)))) (.cons (.ret (.cst (.bl false))) .nil) (.nil)) .nil)
def b4_law_k39 : Ss := .cons (.asg (.nms [4, 5]) (.tup (.cons (.call 11 (.cons (.var 2) (.cons (.cst (.int 3)) .nil))) (.cons (.call 73 (.cons (.var 2) (.cons (.cst (.int 5)) (.cons (.cst (.int 5)) .nil)))) .nil)))) (.cons (.asg (.nm 6) (.call 8 (.cons (.var 2) (.cons (.lst (.cons (.cst (.str "no")) (.cons (.cst (.str "blank")) (.cons (.cst (.str "away")) .nil)))) .nil)))) (.cons (.asg (.nm 7) (.blt .tuple (.cons (.comp (.var 12) (.nm 12) (.rng (.cst (.int 0)) (.blt .len (.cons (.var 5) .nil))) (.cmp .eq (.call 7 (.cons (.var 2) (.cons (.cst (.int 2)) .nil))) (.cst (.int 0)))) .nil))) (.cons (.asg (.nms [8, 9]) (.tup (.cons (.call 72 (.cons (.var 4) (.cons (.var 5) (.cons (.var 6) (.cons (.var 7) .nil))))) (.cons (.mk "Count" 2000 (.cons (.var 4) (.cons (.blt .sum (.cons (.var 5) .nil)) .nil))) .nil)))) (.cons (.asg (.nms [10, 11]) (.tup (.cons (.lst (.nil)) (.cons (.rgl false (.cst (.int 0)) (.blt .len (.cons (.var 5) .nil))) .nil)))) (.cons (.whl (.cmp .ne (.var 11) (.lst (.nil))) (b1_law_k39)) (.cons (.for (.nm 12) (.ex (.var 10)) (b3_law_k39)) (.cons (.iff (.or (.cmp .ne (.mcl "Count" "state" 2003 (.var 9) (.nil)) (.ite (.var 8) (.cst (.str "passed")) (.cst (.str "failed")))) (.cmp .ne (.mcl "Count" "left" 2006 (.var 9) (.nil)) (.cst (.int 0)))) (.cons (.ret (.cst (.bl false))) .nil) (.nil)) (.cons (.asg (.nm 15) (.blt .sum (.cons (.comp (.sub (.var 5) (.var 12)) (.nm 12) (.ex (.var 7)) (.cst (.bl true))) .nil))) (.cons (.iff (.or (.cmp .ne (.sub (.mcl "Count" "votes" 2005 (.var 9) (.nil)) (.cst (.int 0))) (.var 15)) (.cmp .ne (.lenO "Count" 2001 (.var 9)) (.blt .sum (.cons (.var 5) .nil)))) (.cons (.ret (.cst (.bl false))) .nil) (.nil)) (.cons (.iff (.and (.cmp .eq (.call 19 (.cons (.var 4) (.cons (.blt .sum (.cons (.var 5) .nil)) (.cons (.mcl "Count" "votes" 2005 (.var 9) (.nil)) .nil)))) (.lst (.nil))) (.not (.var 8))) (.cons (.ret (.cst (.bl false))) .nil) (.nil)) .nil))))))))))
def b5_law_k39 : Ss := .cons (.asg (.nm 2) (.call 6 (.cons (.var 0) (.cons (.var 1) .nil)))) (.cons (.for (.nm 3) (.rng (.cst (.int 0)) (.cst (.int 4))) (b4_law_k39)) .nil)
def f_law_k39 : FDef := ⟨1, 16, .cons (.for (.nm 1) (.rng (.cst (.int 0)) (.bin .add (.cst (.int 1)) (.blt .min (.cons (.blt .len (.cons (.var 0) .nil)) (.cons (.cst (.int 3)) .nil))))) (b5_law_k39)) (.cons (.ret (.call 1000 (.nil))) .nil)⟩
def own (n : Nat) : Option FDef := match n with
  | 1000 => some f_law_by_hand_k39
  | 1001 => some f_law_k39
  | 2000 => some f_Count_init
  | 2001 => some f_Count_len
  | 2002 => some f_Count_add
  | 2003 => some f_Count_state
  | 2004 => some f_Count_undo
  | 2005 => some f_Count_votes
  | 2006 => some f_Count_left
  | _ => none
end QR.K39

set_option Elab.async false
set_option linter.all false
set_option maxRecDepth 100000
set_option maxHeartbeats 0
namespace QR.K39
open PySem QR
def top (i : Nat) : Stmt := PySem.Challenge.pw_quorumrules_k39_whole_counts_of_groups.main.body.getD i (.Pass ⟨0, 0, 0, 0⟩)
def G : List (Str × GK) := [gk "_wall" (.fn 69), gk "is_between" (.fn 0), gk "is_condition" (.fn 1), gk "is_rule" (.fn 2), gk "is_votes_of" (.fn 3), gk "need_rule" (.fn 13), gk "need_members" (.fn 4), gk "need_votes" (.fn 14), gk "part_and_whole" (.fn 15), gk "holds" (.fn 16), gk "is_passed" (.fn 17), gk "failed" (.fn 19), gk "need_game" (.fn 70), gk "does_win" (.fn 71), gk "wins" (.fn 72), gk "_law_source" (.fn 6), gk "_law_draw" (.fn 7), gk "_law_choice" (.fn 8), gk "_law_condition" (.fn 10), gk "_law_rule" (.fn 11), gk "_law_groups" (.fn 73), gk "_law_by_hand" (.fn 1000), gk "law" (.fn 1001), gk "Count" (.cls 2000), gk ".__len__" (.mth "Count" "__len__" 2001 false), gk ".add" (.mth "Count" "add" 2002 true), gk ".state" (.mth "Count" "state" 2003 false), gk ".votes" (.mth "Count" "votes" 2005 false), gk ".left" (.mth "Count" "left" 2006 false), gk ".rule" (.fld "Count" "rule"), gk ".members" (.fld "Count" "members"), gk ".rows" (.fld "Count" "rows"), gk "CAST" (.cst (.str "cast")), gk "PRESENT" (.cst (.str "present")), gk "ALL" (.cst (.str "all")), gk "KINDS" (.cst (.tup [.str "cast", .str "present", .str "all", .str "turnout"])), gk "MOST_MEMBERS" (.cst (.int 40)), gk "MOST_BOTTOM" (.cst (.int 20)), gk "MOST_CONDITIONS" (.cst (.int 4)), gk "MOST_GROUPS" (.cst (.int 7)), gk "RESTS" (.cst (.tup [.str "no", .str "blank", .str "away"])), gk "YES" (.cst (.str "yes")), gk "NO" (.cst (.str "no")), gk "BLANK" (.cst (.str "blank")), gk "BALLOTS" (.cst (.tup [.str "yes", .str "no", .str "blank", .str "away"])), gk "abs" .free, gk "all" .free, gk "bool" .free, gk "enumerate" .free, gk "int" .free, gk "isinstance" .free, gk "len" .free, gk "list" .free, gk "min" .free, gk "range" .free, gk "str" .free, gk "sum" .free, gk "tuple" .free, gk "zip" .free]
def entLaw : Ent := ⟨1001, "law", top 52, ["script", "k", "source", "turn", "rule", "groups", "others", "some", "found", "count", "order", "left", "index", "member_so", "state", "yes"], ["script"], "law", false, false⟩
abbrev lawId : Nat := 1001
def topC (i j : Nat) : Stmt := match top i with
  | .ClassDef _ _ _ b _ _ _ _ _ _ _ => b.getD j (.Pass ⟨0, 0, 0, 0⟩)
  | s => s
def ents : List Ent := [
  ⟨69, "_wall", top 0, ["k"], ["k"], "_wall", false, false⟩,
  ⟨0, "is_between", top 20, ["value", "low", "high"], ["value", "low", "high"], "is_between", false, false⟩,
  ⟨1, "is_condition", top 21, ["value", "kind", "top", "bottom", "more"], ["value"], "is_condition", false, false⟩,
  ⟨2, "is_rule", top 22, ["value", "condition"], ["value"], "is_rule", false, false⟩,
  ⟨3, "is_votes_of", top 23, ["members", "value", "count"], ["members", "value"], "is_votes_of", false, false⟩,
  ⟨13, "need_rule", top 24, ["rule"], ["rule"], "need_rule", false, false⟩,
  ⟨4, "need_members", top 25, ["members"], ["members"], "need_members", false, false⟩,
  ⟨14, "need_votes", top 26, ["members", "votes"], ["members", "votes"], "need_votes", false, false⟩,
  ⟨15, "part_and_whole", top 27, ["kind", "members", "votes", "yes", "no", "blank"], ["kind", "members", "votes"], "part_and_whole", false, false⟩,
  ⟨16, "holds", top 28, ["condition", "members", "votes", "kind", "top", "bottom", "more", "part", "whole"], ["condition", "members", "votes"], "holds", false, false⟩,
  ⟨17, "is_passed", top 29, ["rule", "members", "votes", "condition"], ["rule", "members", "votes"], "is_passed", false, false⟩,
  ⟨19, "failed", top 30, ["rule", "members", "votes", "index", "condition"], ["rule", "members", "votes"], "failed", false, false⟩,
  ⟨70, "need_game", top 34, ["rule", "sizes", "rest", "size"], ["rule", "sizes", "rest"], "need_game", false, false⟩,
  ⟨71, "does_win", top 35, ["rule", "sizes", "rest", "coalition", "yes", "left", "votes", "index"], ["rule", "sizes", "rest", "coalition"], "does_win", false, false⟩,
  ⟨72, "wins", top 36, ["rule", "sizes", "rest", "coalition", "index", "one", "other"], ["rule", "sizes", "rest", "coalition"], "wins", false, false⟩,
  ⟨6, "_law_source", top 45, ["script", "index", "cell"], ["script", "index"], "_law_source", false, false⟩,
  ⟨7, "_law_draw", top 46, ["source", "size", "drawn"], ["source", "size"], "_law_draw", false, false⟩,
  ⟨8, "_law_choice", top 47, ["source", "items"], ["source", "items"], "_law_choice", false, false⟩,
  ⟨10, "_law_condition", top 48, ["source", "kinds", "bottom", "top"], ["source", "kinds"], "_law_condition", false, false⟩,
  ⟨11, "_law_rule", top 49, ["source", "most", "kinds", "turn"], ["source", "most"], "_law_rule", false, false⟩,
  ⟨73, "_law_groups", top 50, ["source", "most", "wide", "found", "group_so"], ["source", "most", "wide"], "_law_groups", false, false⟩,
  ⟨1000, "_law_by_hand", top 51, ["half", "third", "count"], [], "_law_by_hand", false, false⟩,
  entLaw,
  ⟨2000, "__init__", topC 43 0, ["self", "rule", "members"], ["self", "rule", "members"], "Count", true, false⟩,
  ⟨2001, "__len__", topC 43 1, ["self"], ["self"], "Count", true, false⟩,
  ⟨2002, "add", topC 43 3, ["self", "ballots", "ballot"], ["self", "ballots"], "Count", true, true⟩,
  ⟨2003, "state", topC 43 4, ["self", "yes", "no", "blank", "free", "other"], ["self"], "Count", true, false⟩,
  ⟨2005, "votes", topC 43 6, ["self", "kind"], ["self"], "Count", true, false⟩,
  ⟨2006, "left", topC 43 7, ["self"], ["self"], "Count", true, false⟩]
def loose0 : List Str := ["_wall", "RuleError", "InvalidRule", "InvalidMembers", "InvalidVotes", "InvalidSizes", "InvalidRest", "InvalidCoalition", "InvalidBallot", "TooMany", "CAST", "PRESENT", "ALL", "TURNOUT", "KINDS", "MOST_MEMBERS", "MOST_BOTTOM", "MOST_CONDITIONS", "is_between", "is_condition", "is_rule", "is_votes_of", "need_rule", "need_members", "need_votes", "part_and_whole", "holds", "is_passed", "failed", "MOST_GROUPS"]
def loose1 : List Str := ["RESTS", "need_game", "does_win", "wins", "YES", "NO", "BLANK", "AWAY", "BALLOTS", "Count", "_law_source", "_law_draw", "_law_choice", "_law_condition", "_law_rule", "_law_groups", "_law_by_hand"]
def loose : List Str := loose0 ++ loose1
theorem all_good : ents.map (fun e => compF 60 G e.N e.P e.st) = ents.map fun e => lib own e.id := by kernel_rfl
theorem all_some : (ents.all fun e => (lib own e.id).isSome) = true := by kernel_rfl
theorem all_g : G.all (gOk ents) = true := by kernel_rfl
theorem all_b : AllB ents := ⟨(fun F => F.bindsN fun _ _ _ _ _ _ us hl => match us, hl with | [_], _ => rfl), (fun F => F.bindsN fun _ _ _ _ _ _ us hl => match us, hl with | [_, _, _], _ => rfl), (fun F => F.bindsN fun _ _ _ _ _ _ us hl => match us, hl with | [_], _ => rfl), (fun F => F.bindsN fun _ _ _ _ _ _ us hl => match us, hl with | [_], _ => rfl), (fun F => F.bindsN fun _ _ _ _ _ _ us hl => match us, hl with | [_, _], _ => rfl), (fun F => F.bindsN fun _ _ _ _ _ _ us hl => match us, hl with | [_], _ => rfl), (fun F => F.bindsN fun _ _ _ _ _ _ us hl => match us, hl with | [_], _ => rfl), (fun F => F.bindsN fun _ _ _ _ _ _ us hl => match us, hl with | [_, _], _ => rfl), (fun F => F.bindsN fun _ _ _ _ _ _ us hl => match us, hl with | [_, _, _], _ => rfl), (fun F => F.bindsN fun _ _ _ _ _ _ us hl => match us, hl with | [_, _, _], _ => rfl), (fun F => F.bindsN fun _ _ _ _ _ _ us hl => match us, hl with | [_, _, _], _ => rfl), (fun F => F.bindsN fun _ _ _ _ _ _ us hl => match us, hl with | [_, _, _], _ => rfl), (fun F => F.bindsN fun _ _ _ _ _ _ us hl => match us, hl with | [_, _, _], _ => rfl), (fun F => F.bindsN fun _ _ _ _ _ _ us hl => match us, hl with | [_, _, _, _], _ => rfl), (fun F => F.bindsN fun _ _ _ _ _ _ us hl => match us, hl with | [_, _, _, _], _ => rfl), (fun F => F.bindsN fun _ _ _ _ _ _ us hl => match us, hl with | [_, _], _ => rfl), (fun F => F.bindsN fun _ _ _ _ _ _ us hl => match us, hl with | [_, _], _ => rfl), (fun F => F.bindsN fun _ _ _ _ _ _ us hl => match us, hl with | [_, _], _ => rfl), (fun F => F.bindsN fun _ _ _ _ _ _ us hl => match us, hl with | [_, _], _ => rfl), (fun F => F.bindsN fun _ _ _ _ _ _ us hl => match us, hl with | [_, _], _ => rfl), (fun F => F.bindsN fun _ _ _ _ _ _ us hl => match us, hl with | [_, _, _], _ => rfl), (fun F => F.bindsN fun _ _ _ _ _ _ us hl => match us, hl with | [], _ => rfl), (fun F => F.bindsN fun _ _ _ _ _ _ us hl => match us, hl with | [_], _ => rfl), (fun F => F.bindsN fun _ _ _ _ _ _ us hl => match us, hl with | [_, _, _], _ => rfl), (fun F => F.bindsN fun _ _ _ _ _ _ us hl => match us, hl with | [_], _ => rfl), (fun F => bindsS F (fun _ _ _ _ _ _ _ => rfl) fun _ _ _ _ _ _ _ _ _ => rfl), (fun F => F.bindsN fun _ _ _ _ _ _ us hl => match us, hl with | [_], _ => rfl), (fun F => F.bindsN fun _ _ _ _ _ _ us hl => match us, hl with | [_], _ => rfl), (fun F => F.bindsN fun _ _ _ _ _ _ us hl => match us, hl with | [_], _ => rfl), trivial⟩
abbrev R : PySem.W.OpenRow := PySem.W.OpenLaw.row PySem.Challenge.rw_quorumrules_k39_whole_counts_of_groups
def fa : List He.Fa := G.flatMap faOf
def fn : List He.DefD := ents.map defOf
abbrev hk : PySem.W.Hook := He.hookX 4 fa fn [] [] (fxOf G)
def ob (s : PySem.W.SharedT) : He.AlX := He.obsX 4 fa fn [] [] (fxOf G) (HandSHeadRun.getT s)
theorem ob_eq (s : PySem.W.SharedT) : ob s = hk.obs s.abs := He.obsX_eq (HandSHeadRun.getT_eq s)
theorem run (w : World) : HandSHeadRun.RunEq R (PySem.W.view R.prog [52]) hk ob 4000 loose w := by
  intro os
  kernel_rfl
theorem facts {P : Program} {w : World} {K : PySem.W.Frag} {h : Heap} {mg : Str → Option Value} {f : Addr} (X : K.In h) (Gn : h.Ns mainGlobals mg) (hfa : mg ("law" : Str) = some (.ref f)) (c : He.SaysX fa fn [] [] (fxOf G) w h K) :
    ∃ fd : FuncData, (∀ (s : Shared) (v : Value), PySem.BindsTo s fd ⟨[v], []⟩ [("script", v)]) ∧ ∀ base : Heap, K.In base → base.Ns mainGlobals mg → L2.FnOk P w K mg base L2.CX0 24 f fd ["script"] (spF (call (lib own) 12) K lawId) := by
  have e0 := He.glo_ok X Gn (c.t.d.facts (List.mem_flatMap.mpr ⟨_, lookup_mem (show G.lookup ("law" : Str) = some (GK.fn lawId) by kernel_rfl), List.mem_singleton.mpr rfl⟩ : He.Fa.glo "law" ∈ fa))
  have e := hfa.symm.trans e0
  cases e
  have M := mod_of X Gn c all_b all_good all_some all_g
  obtain ⟨fd, E⟩ := ent_ok (e := entLaw) c all_b all_good all_some (by unfold ents; simp [entLaw])
  have b := L2.FunD.bindsA (ps := ["script"]) E.hf fun _ _ _ _ _ _ us hl => match us, hl with | [_], _ => rfl
  exact ⟨fd, fun s v => b s [v] rfl, fun base _ _ => (ent_all M 12 entLaw _ fd E).1 rfl⟩
end QR.K39
open PySem PySem.W PySem.Calls PyProof.Rows in
theorem holds_k39 (hl : ∀ ns : List Int, ns.length ≤ 63 → ∃ st', QR.call (QR.lib QR.K39.own) 12 QR.K39.lawId [.rol (ns.map .int)] [] = .val (.bl true) st') : PySem.Challenge.rw_quorumrules_k39_whole_counts_of_groups.Holds := by
  w_on; o_law
  refine HandSHeadRun.head_any (r := OpenLaw.row PySem.Challenge.rw_quorumrules_k39_whole_counts_of_groups) (q := view (OpenLaw.row PySem.Challenge.rw_quorumrules_k39_whole_counts_of_groups).prog [52]) (H := QR.K39.hk) (ob := QR.K39.ob) (M := 4000) (loose := QR.K39.loose) (d := HandSHeadRun.topDef (OpenLaw.row PySem.Challenge.rw_quorumrules_k39_whole_counts_of_groups).prog 52) (kwd := []) QR.K39.ob_eq
    (by kernel_rfl) (fun s => by kernel_rfl) QR.K39.run (by kernel_rfl) (by kernel_rfl) (by kernel_rfl) (by rfl) (by first | assumption | decide +kernel) (by decide +kernel) ⟨rfl, rfl, rfl, rfl, rfl, by decide +kernel⟩ ?hw ?hc
  case hw => w_witness2
  case hc =>
    refine L2.walk_ofE (l := PySem.Challenge.rw_quorumrules_k39_whole_counts_of_groups) (n := 63) (k := 24) (x := "script") (CX := L2.CX0) rfl (by decide) (by kernel_rfl) ⟨rfl, by decide, by decide⟩ ?F (fun _ _ _ _ z => z)
    intro w mg fa h Y G hmg0
    obtain ⟨K, KX, c⟩ := Y
    have hmg : mg ("law" : PySem.Str) = some (.ref fa) := by
      have e : (HandSHeadRun.topDef (OpenLaw.row PySem.Challenge.rw_quorumrules_k39_whole_counts_of_groups).prog 52).name = ("law" : PySem.Str) := by kernel_rfl
      rw [← e]
      exact hmg0
    obtain ⟨fd, hb, hF⟩ := QR.K39.facts (P := (PySem.Challenge.rw_quorumrules_k39_whole_counts_of_groups).prog) (w := w) KX G hmg c
    exact ⟨K, fd, QR.spF (QR.call (QR.lib QR.K39.own) 12) K QR.K39.lawId, KX, hb, fun H a ns hl1 hO hS => QR.law_sp hl H a ns hl1 hO hS, hF⟩


set_option Elab.async false
set_option linter.all false
set_option maxRecDepth 100000
set_option maxHeartbeats 4000000
/-! M39: ballots group by group, plain. -/
namespace QR.K39
open PySem QR
section
variable {r : List Cd} {m : Int} {zs cs l a b : List Int} {rs : Str} {i : Int} {bs es : List Str}
def vt (cs : List Int) (rs : Str) (i : Int) : Str := if i ∈ cs then "yes" else rs
/-- the ballots of these groups -/
def vs (zs cs : List Int) (rs : Str) (l : List Int) : List Str := l.flatMap fun i => List.replicate (at0 zs i).toNat (vt cs rs i)
theorem vs_app : vs zs cs rs (a ++ b) = vs zs cs rs a ++ vs zs cs rs b := List.flatMap_append
theorem vs_cons : vs zs cs rs (i :: l) = List.replicate (at0 zs i).toNat (vt cs rs i) ++ vs zs cs rs l := List.flatMap_cons
theorem rest_ball (h : rs ∈ restL) : rs ∈ ballL := by
  rcases rest_cases h with e | e | e <;> rw [e] <;> decide
theorem vt_ball (h : rs ∈ restL) : vt cs rs i ∈ ballL := by
  unfold vt
  split
  · decide
  · exact rest_ball h
theorem vs_two : ∀ z ∈ vs zs cs rs l, z = "yes" ∨ z = rs := fun z hz => by
  obtain ⟨i, _, h⟩ := List.mem_flatMap.mp hz
  rw [List.eq_of_mem_replicate h]
  unfold vt
  split
  · exact .inl rfl
  · exact .inr rfl
theorem vs_ball (h : rs ∈ restL) : ∀ z ∈ vs zs cs rs l, z ∈ ballL := fun z hz => by
  rcases vs_two z hz with e | e
  · rw [e]; decide
  · rw [e]; exact rest_ball h
theorem two_cnt (h : rs ∈ restL) : ∀ {bs : List Str}, (∀ z ∈ bs, z = "yes" ∨ z = rs) → cN bs = (if rs = ("no" : Str) then (bs.length : Int) - cY bs else 0) ∧ cB bs = (if rs = ("blank" : Str) then (bs.length : Int) - cY bs else 0)
  | [], _ => by
    rcases rest_cases h with e | e | e <;> subst e <;> decide
  | z :: bs, hz => by
    have ih := two_cnt h (bs := bs) fun y hy => hz y (List.mem_cons_of_mem _ hy)
    have h0 := hz z List.mem_cons_self
    unfold cN cB cY at *
    simp only [List.count_cons, List.length_cons]
    rcases rest_cases h with e | e | e <;> subst e <;> rcases h0 with e | e <;> subst e
    · simp only [show ((("yes" : Str) == "no")) = false from rfl, show ((("yes" : Str) == "blank")) = false from rfl, show ((("yes" : Str) == "yes")) = true from rfl, show ¬ ((("no" : Str) = "blank")) by decide, if_true, if_false] at *
      simp at *
      omega
    · simp only [show ((("no" : Str) == "no")) = true from rfl, show ((("no" : Str) == "blank")) = false from rfl, show ((("no" : Str) == "yes")) = false from rfl, show ¬ ((("no" : Str) = "blank")) by decide, if_true, if_false] at *
      simp at *
      omega
    · simp only [show ((("yes" : Str) == "no")) = false from rfl, show ((("yes" : Str) == "blank")) = false from rfl, show ((("yes" : Str) == "yes")) = true from rfl, show ¬ ((("blank" : Str) = "no")) by decide, if_true, if_false] at *
      simp at *
      omega
    · simp only [show ((("blank" : Str) == "no")) = false from rfl, show ((("blank" : Str) == "blank")) = true from rfl, show ((("blank" : Str) == "yes")) = false from rfl, show ¬ ((("blank" : Str) = "no")) by decide, if_true, if_false] at *
      simp at *
      omega
    · simp only [show ((("yes" : Str) == "no")) = false from rfl, show ((("yes" : Str) == "blank")) = false from rfl, show ((("yes" : Str) == "yes")) = true from rfl, show ¬ ((("away" : Str) = "no")) by decide, show ¬ ((("away" : Str) = "blank")) by decide, if_true, if_false] at *
      simp at *
      omega
    · simp only [show ((("away" : Str) == "no")) = false from rfl, show ((("away" : Str) == "blank")) = false from rfl, show ((("away" : Str) == "yes")) = false from rfl, show ¬ ((("away" : Str) = "no")) by decide, show ¬ ((("away" : Str) = "blank")) by decide, if_true, if_false] at *
      simp at *
      omega
theorem at_nn (hz : ∀ z ∈ zs, 0 ≤ z) : 0 ≤ at0 zs i := by
  unfold at0
  rw [List.getD_eq_getElem?_getD]
  cases h : zs[i.toNat]? with
  | none => exact Int.le_refl _
  | some z => exact hz z (List.mem_of_getElem? h)
theorem vs_len (hz : ∀ z ∈ zs, 0 ≤ z) : ∀ {l : List Int}, ((vs zs cs rs l).length : Int) = (l.map (at0 zs)).sum
  | [] => rfl
  | i :: l => by
    rw [vs_cons, List.length_append, List.length_replicate, List.map_cons, List.sum_cons, ← vs_len hz (l := l)]
    have := at_nn (i := i) hz
    omega
theorem vs_yes (hz : ∀ z ∈ zs, 0 ≤ z) (h : rs ∈ restL) : ∀ {l : List Int}, cY (vs zs cs rs l) = ((l.filter fun i => decide (i ∈ cs)).map (at0 zs)).sum
  | [] => rfl
  | i :: l => by
    have ih := vs_yes hz h (l := l)
    have h0 := at_nn (i := i) hz
    have hne : rs ≠ "yes" := by rcases rest_cases h with e | e | e <;> rw [e] <;> decide
    by_cases q : i ∈ cs
    · rw [List.filter_cons_of_pos (by simpa using q), List.map_cons, List.sum_cons, ← ih]
      unfold cY
      rw [vs_cons, List.count_append, show vt cs rs i = "yes" from if_pos q, List.count_replicate_self]
      omega
    · rw [List.filter_cons_of_neg (by simpa using q), ← ih]
      unfold cY
      rw [vs_cons, List.count_append, show vt cs rs i = rs from if_neg q, List.count_replicate, if_neg (by simpa using hne)]
      omega
theorem stV_keepL (hr : okR r) : ∀ {es bs : List Str}, (∀ z ∈ es, z ∈ ballL) → (bs.length : Int) + es.length ≤ m → stV r m bs ≠ "open" → stV r m (bs ++ es) = stV r m bs
  | [], bs, _, _, _ => by rw [List.append_nil]
  | z :: es, bs, hb, hl, h => by
    rw [List.length_cons] at hl
    have k := stV_keep (r := r) (m := m) hr (hb z List.mem_cons_self) (by omega) h
    rw [show bs ++ z :: es = (bs ++ [z]) ++ es by simp]
    rw [stV_keepL hr (es := es) (bs := bs ++ [z]) (fun y hy => hb y (List.mem_cons_of_mem _ hy)) (by rw [List.length_append, List.length_singleton]; omega) (by rw [k]; exact h), k]
theorem co_filter (hc : cs ∈ coals zs.length) : (rngL 0 zs.length).filter (fun i => decide (i ∈ cs)) = cs := by
  have hs := coals_mem.mp hc
  have h1 : ((rngL 0 zs.length).filter fun i => decide (i ∈ cs)).Pairwise (· < ·) := asc_rng.sublist List.filter_sublist
  have h2 := co_asc hc
  exact (asc_sub h1 h2 fun i hi => by simpa using (List.mem_filter.mp hi).2).eq_of_length_le (asc_sub h2 h1 fun i hi => List.mem_filter.mpr ⟨hs.subset hi, by simpa using hi⟩).length_le
structure Full (zs cs : List Int) (rs : Str) (bs : List Str) : Prop where
  len : (bs.length : Int) = zs.sum
  y : cY bs = cosum zs cs
  n : cN bs = if rs = ("no" : Str) then zs.sum - cosum zs cs else 0
  b : cB bs = if rs = ("blank" : Str) then zs.sum - cosum zs cs else 0
theorem full_of (hz : ∀ z ∈ zs, 0 ≤ z) (h : rs ∈ restL) (hc : cs ∈ coals zs.length) (hp : l.Perm (rngL 0 zs.length)) : Full zs cs rs (vs zs cs rs l) := by
  have hq : (vs zs cs rs l).Perm (vs zs cs rs (rngL 0 zs.length)) := hp.flatMap_right _
  have e1 : ((vs zs cs rs l).length : Int) = zs.sum := by
    rw [hq.length_eq, vs_len hz]
    exact cosum_all
  have e2 : cY (vs zs cs rs l) = cosum zs cs := by
    have : cY (vs zs cs rs l) = cY (vs zs cs rs (rngL 0 zs.length)) := by unfold cY; rw [hq.count_eq]
    rw [this, vs_yes hz h, co_filter hc]
    rfl
  obtain ⟨e3, e4⟩ := two_cnt h (vs_two (zs := zs) (cs := cs) (l := l))
  exact ⟨e1, e2, by rw [e3, e1, e2], by rw [e4, e1, e2]⟩
theorem Full.st (h : Full zs cs rs bs) : stV r zs.sum bs = if winC r zs rs cs then "passed" else "failed" := by
  rw [stV_end h.len, h.y, h.n, h.b]
  rfl
end
/-- [x for x in ints if a draw says so] -/
theorem cloop_sub {lk : Locks} {f : MV → Store → Out (Option MV)} {st : Store} {i : Nat} (hl : ∀ s, held lk s = true) : ∀ {ks : List Int} {s : Store}, (∀ x ∈ ks, ∀ s, Upd st i s → Wp (f (.int x) s) fun o s' => (o = none ∨ o = some (.int x)) ∧ Upd st i s') → Upd st i s →
    Wp (cloop lk f (ks.map MV.int) s) fun ys s' => ∃ cs : List Int, ys = cs.map MV.int ∧ cs.Sublist ks ∧ Upd st i s'
  | [], s, _, u => by
    show Wp (cloop lk f [] s) _
    unfold cloop
    rw [hl s]
    exact Wp_val.mpr ⟨[], rfl, List.Sublist.refl _, u⟩
  | k :: ks, s, h, u => by
    show Wp (cloop lk f (.int k :: ks.map MV.int) s) _
    unfold cloop
    rw [hl s]
    simp only [chk_true, Wp_bind]
    refine (h k List.mem_cons_self s u).mono fun o s1 ⟨ho, u1⟩ => ?_
    refine (cloop_sub hl (fun y hy => h y (List.mem_cons_of_mem _ hy)) u1).mono ?_
    rintro ys s2 ⟨cs, rfl, hs, u2⟩
    simp only [Wp_val]
    rcases ho with rfl | rfl
    · exact ⟨cs, rfl, hs.cons _, u2⟩
    · exact ⟨k :: cs, rfl, hs.cons_cons _, u2⟩
end QR.K39

set_option Elab.async false
set_option linter.all false
set_option maxRecDepth 100000
set_option maxHeartbeats 4000000
/-! L39: the plain law. -/
namespace QR.K39
open PySem QR
local macro_rules | `(tactic| walk_at "q") => `(tactic| (repeat' (first
  | with_reducible refine z_cons ?_ | with_reducible refine z_asg ?_ | with_reducible refine z_ret ?_ | with_reducible refine z_iff ?_ | with_reducible refine z_nil ?_ | with_reducible refine z_exp ?_ | with_reducible refine z_set ?_ | with_reducible refine z_pass ?_
  | with_reducible refine w_cst ?_ | ((with_reducible apply w_var); rfl) | with_reducible refine w_bin ?_ | with_reducible refine w_cmp ?_ | with_reducible refine w_not ?_ | with_reducible refine w_and ?_ | with_reducible refine w_or ?_ | with_reducible refine w_chn ?_ | with_reducible refine w_ite ?_ | with_reducible refine w_neg ?_
  | with_reducible refine w_call ?_ | with_reducible refine w_blt ?_ | with_reducible refine w_tup ?_ | with_reducible refine w_lst ?_ | with_reducible refine w_sub ?_ | with_reducible refine w_sli ?_ | with_reducible refine w_nil ?_ | with_reducible refine w_cons ?_
  | with_reducible refine o_add ?_ | with_reducible refine o_sub ?_ | ((with_reducible apply o_mulR); decide) | ((with_reducible apply o_mulL); decide) | with_reducible refine o_mul ?_ ?_ | ((with_reducible apply o_fdiv); (first | decide | assumption | omega)) | ((with_reducible apply o_mod); (first | decide | assumption | omega))
  | with_reducible refine o_isnK ?_ | with_reducible refine o_isK ?_ | with_reducible refine o_isnR ?_ | with_reducible refine o_isR ?_ | with_reducible refine o_isnI ?_ | with_reducible refine o_isI ?_ | with_reducible refine o_isnN ?_ | with_reducible refine o_isN ?_
  | with_reducible refine o_lt ?_ | with_reducible refine o_le ?_ | with_reducible refine o_gt ?_ | with_reducible refine o_ge ?_ | with_reducible refine o_isn ?_ | with_reducible refine o_is ?_ | with_reducible refine o_isb ?_ | with_reducible refine o_isnb ?_ | with_reducible refine o_eqI ?_ | with_reducible refine o_neI ?_ | with_reducible refine o_eqS ?_ | with_reducible refine o_neS ?_ | with_reducible refine o_eqB ?_ | with_reducible refine o_neB ?_
  | with_reducible refine u_K0 ?_ | with_reducible refine u_K1 ?_ | with_reducible refine u_P0 ?_ | with_reducible refine u_P1 ?_
  | with_reducible refine b_lenRow ?_ | with_reducible refine b_sumR ?_ | with_reducible refine b_intB ?_ | with_reducible refine b_tupL ?_ | with_reducible refine o_memR ?_ | with_reducible refine o_nmemR ?_ | ((with_reducible apply h_row); (focus ((try simp only [List.set_cons_succ, List.set_cons_zero, asgs]); rfl)))
  | with_reducible refine b_int ?_ | with_reducible refine b_abs ?_ | with_reducible refine b_min ?_ | with_reducible refine b_max ?_ | with_reducible refine b_lenT ?_ | with_reducible refine b_lenL ?_ | with_reducible refine b_lenO ?_ | ((with_reducible apply b_lenR); assumption) | ((with_reducible apply b_isi); rfl)
  | ((with_reducible apply t_set); (first | assumption | exact List.getElem?_set_self (by assumption)); rfl; (first | rfl | assumption)) | ((with_reducible apply u_tup); rfl) | ((with_reducible apply u_ref); (first | assumption | exact List.getElem?_set_self (by assumption)); rfl) | ((with_reducible apply u_lst); rfl)
  | ((with_reducible apply h_int); (focus ((try simp only [List.set_cons_succ, List.set_cons_zero, asgs]); rfl))) | ((with_reducible apply h_bl); (focus ((try simp only [List.set_cons_succ, List.set_cons_zero, asgs]); rfl))) | ((with_reducible apply h_str); (focus ((try simp only [List.set_cons_succ, List.set_cons_zero, asgs]); rfl))) | ((with_reducible apply h_ref); (focus ((try simp only [List.set_cons_succ, List.set_cons_zero, asgs]); rfl))) | ((with_reducible apply h_non); (focus ((try simp only [List.set_cons_succ, List.set_cons_zero, asgs]); rfl))) | ((with_reducible apply h_tup); rfl; (first | (focus (simp [noLsts, noLst]; done)) | assumption); (focus ((try simp only [List.set_cons_succ, List.set_cons_zero, asgs]); rfl))) | ((with_reducible apply h_lst); (first | (focus (simp [noLsts, noLst]; done)) | assumption); (focus ((try simp only [List.set_cons_succ, List.set_cons_zero, asgs]); rfl))) | ((with_reducible apply h_pure); (first | (focus (simp [noLsts, noLst]; done)) | assumption); (focus ((try simp only [List.set_cons_succ, List.set_cons_zero, asgs]); rfl)))
  | with_reducible refine w_turn ?_
  | ((with_reducible refine ⟨_, rfl, (fun h => ?_), (fun h => ?_)⟩) <;> first | exact absurd h (by decide +kernel) | (exfalso; simp at h; done) | (exfalso; simp at h; omega) | skip)
  | with_reducible rfl
  | (with_reducible refine ⟨True.intro, ?_⟩)
  | (with_reducible refine ⟨rfl, ?_⟩)
  | (with_reducible refine ⟨_, rfl, ?_⟩)
  | fail)))
local macro_rules | `(tactic| walk_at "p") => `(tactic| (repeat' (first
  | with_reducible refine z_cons ?_ | with_reducible refine z_asg ?_ | with_reducible refine z_ret ?_ | with_reducible refine z_iff ?_ | with_reducible refine z_nil ?_ | with_reducible refine z_exp ?_ | with_reducible refine z_set ?_ | with_reducible refine z_pass ?_
  | with_reducible refine w_cst ?_ | ((with_reducible apply w_var); rfl) | with_reducible refine w_bin ?_ | with_reducible refine w_cmp ?_ | with_reducible refine w_not ?_ | with_reducible refine w_andP ?_ | with_reducible refine w_orP ?_ | with_reducible refine w_chn ?_ | with_reducible refine w_ite ?_ | with_reducible refine w_neg ?_
  | with_reducible refine w_call ?_ | with_reducible refine w_blt ?_ | with_reducible refine w_tup ?_ | with_reducible refine w_lst ?_ | with_reducible refine w_sub ?_ | with_reducible refine w_sli ?_ | with_reducible refine w_nil ?_ | with_reducible refine w_cons ?_
  | with_reducible refine o_add ?_ | with_reducible refine o_sub ?_ | ((with_reducible apply o_mulR); decide) | ((with_reducible apply o_mulL); decide) | with_reducible refine o_mul ?_ ?_ | ((with_reducible apply o_fdiv); (first | decide | assumption | omega)) | ((with_reducible apply o_mod); (first | decide | assumption | omega))
  | with_reducible refine o_isnK ?_ | with_reducible refine o_isK ?_ | with_reducible refine o_isnR ?_ | with_reducible refine o_isR ?_ | with_reducible refine o_isnI ?_ | with_reducible refine o_isI ?_ | with_reducible refine o_isnN ?_ | with_reducible refine o_isN ?_
  | with_reducible refine o_lt ?_ | with_reducible refine o_le ?_ | with_reducible refine o_gt ?_ | with_reducible refine o_ge ?_ | with_reducible refine o_isn ?_ | with_reducible refine o_is ?_ | with_reducible refine o_isb ?_ | with_reducible refine o_isnb ?_ | with_reducible refine o_eqI ?_ | with_reducible refine o_neI ?_ | with_reducible refine o_eqS ?_ | with_reducible refine o_neS ?_ | with_reducible refine o_eqB ?_ | with_reducible refine o_neB ?_
  | with_reducible refine u_K0 ?_ | with_reducible refine u_K1 ?_ | with_reducible refine u_P0 ?_ | with_reducible refine u_P1 ?_
  | with_reducible refine b_lenRow ?_ | with_reducible refine b_sumR ?_ | with_reducible refine b_intB ?_ | with_reducible refine b_tupL ?_ | with_reducible refine o_memR ?_ | with_reducible refine o_nmemR ?_ | ((with_reducible apply h_row); (focus ((try simp only [List.set_cons_succ, List.set_cons_zero, asgs]); rfl)))
  | with_reducible refine b_int ?_ | with_reducible refine b_abs ?_ | with_reducible refine b_min ?_ | with_reducible refine b_max ?_ | with_reducible refine b_lenT ?_ | with_reducible refine b_lenL ?_ | with_reducible refine b_lenO ?_ | ((with_reducible apply b_lenR); assumption) | ((with_reducible apply b_isi); rfl)
  | ((with_reducible apply t_set); (first | assumption | exact List.getElem?_set_self (by assumption)); rfl; (first | rfl | assumption)) | ((with_reducible apply u_tup); rfl) | ((with_reducible apply u_ref); (first | assumption | exact List.getElem?_set_self (by assumption)); rfl) | ((with_reducible apply u_lst); rfl)
  | ((with_reducible apply h_int); (focus ((try simp only [List.set_cons_succ, List.set_cons_zero, asgs]); rfl))) | ((with_reducible apply h_bl); (focus ((try simp only [List.set_cons_succ, List.set_cons_zero, asgs]); rfl))) | ((with_reducible apply h_str); (focus ((try simp only [List.set_cons_succ, List.set_cons_zero, asgs]); rfl))) | ((with_reducible apply h_ref); (focus ((try simp only [List.set_cons_succ, List.set_cons_zero, asgs]); rfl))) | ((with_reducible apply h_non); (focus ((try simp only [List.set_cons_succ, List.set_cons_zero, asgs]); rfl))) | ((with_reducible apply h_tup); rfl; (first | (focus (simp [noLsts, noLst]; done)) | assumption); (focus ((try simp only [List.set_cons_succ, List.set_cons_zero, asgs]); rfl))) | ((with_reducible apply h_lst); (first | (focus (simp [noLsts, noLst]; done)) | assumption); (focus ((try simp only [List.set_cons_succ, List.set_cons_zero, asgs]); rfl))) | ((with_reducible apply h_pure); (first | (focus (simp [noLsts, noLst]; done)) | assumption); (focus ((try simp only [List.set_cons_succ, List.set_cons_zero, asgs]); rfl)))
  | with_reducible refine w_turn ?_
  | ((with_reducible refine ⟨_, rfl, (fun h => ?_), (fun h => ?_)⟩) <;> first | exact absurd h (by decide +kernel) | (exfalso; simp at h; done) | (exfalso; simp at h; omega) | skip)
  | with_reducible rfl
  | (with_reducible refine ⟨True.intro, ?_⟩)
  | (with_reducible refine ⟨rfl, ?_⟩)
  | (with_reducible refine ⟨_, rfl, ?_⟩)
  | fail)))
def fiveL : List Str := ["yes", "yes", "yes", "blank", "blank"]
def oneY : List Str := ["yes"]
theorem erase_map {α β : Type} {f : α → β} {l : List α} {i : Nat} : (l.map f).eraseIdx i = (l.eraseIdx i).map f := by
  rw [List.eraseIdx_eq_take_drop_succ, List.eraseIdx_eq_take_drop_succ, List.map_append, List.map_take, List.map_drop]
theorem erase_perm {α : Type} {l : List α} {i : Nat} (h : i < l.length) : (l[i] :: l.eraseIdx i).Perm l := by
  rw [List.eraseIdx_eq_take_drop_succ]
  refine List.perm_middle.symm.trans ?_
  rw [← List.drop_eq_getElem_cons h, List.take_append_drop]
theorem cntX : CntX own := ⟨rfl, rfl, rfl, rfl, rfl, rfl, rfl⟩
theorem t_popAt {st : Store} {i : Nat} {k : Int} {xs : List MV} {y : MV} {Q : MV → Store → Prop} (h : st[i]? = some (.lst xs)) (h0 : 0 ≤ k) (h1 : k < 1000000) (hy : xs[k.toNat]? = some y) (q : Q y (st.set i (.lst (xs.eraseIdx k.toNat)))) : Wp (mthM .pop (.ref i) [.int k] st) Q :=
  ⟨_, _, by simp only [mthM, h, hy, h0, h1, decide_true, Bool.and_self, chk_true], q⟩
/-- the places apart -/
structure Ap (i a p oq lq : Nat) : Prop where
  ai : a ≠ i
  pi : p ≠ i
  oi : oq ≠ i
  li : lq ≠ i
  op : oq ≠ p
  lp : lq ≠ p
  oa : oq ≠ a
  la : lq ≠ a
  ol : oq ≠ lq
structure St (i a p oq lq : Nat) (r : List Cd) (m : Int) (order left : List Int) (s : Store) : Prop where
  src : Src s i
  c : CAt s a p r m [] []
  o : s[oq]? = some (.lst (order.map MV.int))
  l : s[lq]? = some (.lst (left.map MV.int))
theorem wl_ok {i a p oq lq : Nat} {r : List Cd} {m : Int} {base : List Int} {env : Env} {N : Env → Store → Prop} {R : MV → Store → Prop} (ap : Ap i a p oq lq) (h2 : env[2]? = some (some (.ref i))) (h10 : env[10]? = some (some (.ref oq))) (h11 : env[11]? = some (some (.ref lq))) (hb : base.length < 1000)
    (hN : ∀ s order, St i a p oq lq r m order [] s → order.Perm base → N env s) :
    ∀ (f : Nat) (left order : List Int) (s : Store), left.length < f → St i a p oq lq r m order left s → (order ++ left).Perm base → Ws (wloop (fun env st => (ev (call (lib own) 11) (.cmp .ne (.var 11) (.lst (.nil))) env st).bind fun x st => boolOf x st) (exs (call (lib own) 11) b1_law_k39) f env s) N R := by
  intro f
  induction f with
  | zero =>
    intro left order s hl
    omega
  | succ f ih =>
    intro left order s hl hS hp
    have hlen := hp.length_eq
    rw [List.length_append] at hlen
    unfold wloop
    refine Ws_bindS.mpr (w_bind (w_cmp (w_var h11 (w_lst (w_nil (o_neIs (ks := left) (ls := []) (toDI_ref hS.l) (toDI_lst (ks := [])) (Wp_val.mpr ?_)))))))
    by_cases he : left = []
    · subst he
      rw [show (!decide (([] : List Int) = [])) = false from rfl]
      rw [List.append_nil] at hp
      exact Ws_next.mpr (hN s order hS hp)
    rw [show (!decide (left = [])) = true by simpa using he]
    show Ws ((exs (call (lib own) 11) b1_law_k39 env s).seq _) N R
    refine Ws_seq.mpr ?_
    unfold b1_law_k39
    have hpos := List.length_pos_iff.mpr he
    refine z_cons (z_exp (w_mth (w_var h10 ⟨lstOf_ref hS.o, ?_⟩)))
    refine w_cons (w_mth (w_var h11 ⟨lstOf_ref hS.l, ?_⟩))
    refine w_cons (w_call (w_cons (w_var h2 (w_cons (w_blt (w_cons (w_var h11 (w_nil (b_lenR hS.l (w_nil ?_))))))))))
    rw [List.length_map]
    refine (draw_ok hS.src (by omega) (by omega)).mono ?_
    rintro _ s1 ⟨q, rfl, q0, q1, u⟩
    have hi := hS.src.lt
    have l1 : s1[lq]? = some (.lst (left.map MV.int)) := u.cell ap.li hS.l
    have o1 : s1[oq]? = some (.lst (order.map MV.int)) := u.cell ap.oi hS.o
    have hq : q.toNat < left.length := by omega
    refine w_nil (t_popAt (y := .int left[q.toNat]) l1 q0 (by omega) (by rw [List.getElem?_map, List.getElem?_eq_getElem hq]; rfl) (w_nil ?_))
    have o2 : (s1.set lq (.lst ((left.map MV.int).eraseIdx q.toNat)))[oq]? = some (.lst (order.map MV.int)) := by
      rw [List.getElem?_set_ne (Ne.symm ap.ol)]
      exact o1
    refine t_append o2 rfl (Nat.lt_of_lt_of_le (m := 1000) (by rw [List.length_map]; omega) (by decide)) ?_
    refine z_nil ?_
    refine ih (left.eraseIdx q.toNat) (order ++ [left[q.toNat]]) _ (by rw [List.length_eraseIdx_of_lt hq]; omega) ⟨?_, ?_, ?_, ?_⟩ ?_
    · exact src_set (src_set (u.src hi) (Ne.symm ap.li)) (Ne.symm ap.oi)
    · have c1 := hS.c.upd u ap.ai ap.pi
      exact ⟨by rw [List.getElem?_set_ne ap.oa, List.getElem?_set_ne ap.la]; exact c1.o, by rw [List.getElem?_set_ne ap.op, List.getElem?_set_ne ap.lp]; exact c1.l⟩
    · rw [List.getElem?_set_self (lt_of o2), List.map_append]
      rfl
    · rw [List.getElem?_set_ne ap.ol, List.getElem?_set_self (lt_of l1), erase_map]
    · refine List.Perm.trans ?_ hp
      rw [List.append_assoc]
      exact List.Perm.append_left order (erase_perm hq)
section
variable {s0 e15 : Option MV} {k x m : Int} {i a p oq lq : Nat} {r : List Cd} {zs cs order : List Int} {rs : Str} {fnd : Bool} {R : MV → Store → Prop}
def EV (s0 : Option MV) (k x : Int) (i : Nat) (r : List Cd) (zs : List Int) (rs : Str) (cs : List Int) (fnd : Bool) (a oq lq : Nat) (e12 e13 e14 e15 : Option MV) : Env := [s0, some (.int k), some (.ref i), some (.int x), some (encR r), some (rowMV zs), some (.str rs), some (rowMV cs), some (.bl fnd), some (.ref a), some (.ref oq), some (.ref lq), e12, e13, e14, e15]
structure Cn (i a p oq : Nat) (r : List Cd) (m : Int) (order : List Int) (bs : List Str) (s : Store) : Prop where
  src : Src s i
  c : ∃ rws, CAt s a p r m rws bs ∧ rws.length = bs.length
  o : s[oq]? = some (.lst (order.map MV.int))
/-- one more ballot -/
theorem in39 {idx y : Int} {t : Nat} {bs : List Str} {e13 e14 : Option MV} {s : Store} (hr : okR r) (hm1 : m ≤ 40) (hrs : rs ∈ restL) (ap : Ap i a p oq lq) (hl : (bs.length : Int) + t < m) (h : Cn i a p oq r m order (bs ++ List.replicate t (vt cs rs idx)) s) :
    Wp (asgT (.nm 13) (.int y) (EV s0 k x i r zs rs cs fnd a oq lq (some (.int idx)) e13 e14 e15) s) fun env1 s1 => Ws (exs (call (lib own) 11) b2_law_k39 env1 s1) (fun env s => (∃ e13, env = EV s0 k x i r zs rs cs fnd a oq lq (some (.int idx)) e13 (some (.str (stV r m (bs ++ List.replicate (t + 1) (vt cs rs idx))))) e15) ∧ Cn i a p oq r m order (bs ++ List.replicate (t + 1) (vt cs rs idx)) s) R := by
  obtain ⟨hs, ⟨rws, hc, hw⟩, ho⟩ := h
  have hlen : (bs ++ List.replicate t (vt cs rs idx)).length = bs.length + t := by simp
  unfold EV
  refine h_int (by simp only [List.set_cons_succ, List.set_cons_zero]; rfl) ?_
  unfold b2_law_k39
  walk_at "q"
  refine w_mcs (w_var rfl ⟨hc.isO (n := "add") rfl, ?_⟩)
  have fin : Wp (call (lib own) (6 + 5) 2002 [.ref a, .xts [vt cs rs idx]] s) fun v s1 => v = .str (stV r m (bs ++ List.replicate (t + 1) (vt cs rs idx))) ∧ Cn i a p oq r m order (bs ++ List.replicate (t + 1) (vt cs rs idx)) s1 := by
    refine wp_eq (c_add_ok cntX hr hc (fun z hz => by rw [List.mem_singleton.mp hz]; exact vt_ball hrs) (by rw [hlen]; simp; omega) hm1 (by rw [hw, hlen]; omega)) ?_
    rw [List.append_assoc, ← List.replicate_succ']
    refine ⟨rfl, src_set hs (Ne.symm ap.pi), ⟨_, hc.put, by simp [hw]; omega⟩, ?_⟩
    rw [List.getElem?_set_ne (Ne.symm ap.op)]
    exact ho
  walk_at "q"
  · rename_i g
    refine ⟨⟨hc.isO (n := "add") rfl, by simp⟩, ?_⟩
    have e : vt cs rs idx = "yes" := if_pos (memB_iff.mp g)
    rw [show starV [MV.str "yes"] = .xts [vt cs rs idx] by rw [e]; rfl]
    refine fin.mono ?_
    rintro _ s1 ⟨rfl, h1⟩
    walk_at "q"
    exact ⟨⟨_, rfl⟩, h1⟩
  · rename_i g
    refine ⟨⟨hc.isO (n := "add") rfl, by simp⟩, ?_⟩
    have e : vt cs rs idx = rs := if_neg (memB_no.mp g)
    rw [show starV [MV.str rs] = .xts [vt cs rs idx] by rw [e]; rfl]
    refine fin.mono ?_
    rintro _ s1 ⟨rfl, h1⟩
    walk_at "q"
    exact ⟨⟨_, rfl⟩, h1⟩
theorem out39 {idx : Int} {pre post : List Int} {e12 e13 e14 : Option MV} {s : Store} (hr : okR r) (hm1 : m ≤ 40) (hrs : rs ∈ restL) (hz : ∀ z ∈ zs, 1 ≤ z) (ap : Ap i a p oq lq) (he : order = pre ++ idx :: post) (h0 : 0 ≤ idx) (h1 : idx < zs.length)
    (hlen : ((vs zs cs rs order).length : Int) = m) (hst : stV r m (vs zs cs rs order) = if fnd then "passed" else "failed") (h : Cn i a p oq r m order (vs zs cs rs pre) s) :
    Wp (asgT (.nm 12) (.int idx) (EV s0 k x i r zs rs cs fnd a oq lq e12 e13 e14 e15) s) fun env1 s1 => Ws (exs (call (lib own) 11) b3_law_k39 env1 s1) (fun env s => (∃ e12 e13 e14, env = EV s0 k x i r zs rs cs fnd a oq lq e12 e13 e14 e15) ∧ Cn i a p oq r m order (vs zs cs rs (pre ++ [idx])) s) R := by
  have hz0 : ∀ z ∈ zs, 0 ≤ z := fun z hz1 => by have := hz z hz1; omega
  have hg := cosum_get (zs := zs) h0 h1
  have hg1 := hz _ (List.mem_of_getElem? hg)
  have hg40 : at0 zs idx ≤ 40 := by
    rw [he, vs_app, vs_cons, List.length_append, List.length_append, List.length_replicate] at hlen
    omega
  have hbd : ((vs zs cs rs pre).length : Int) + at0 zs idx ≤ m := by
    rw [he, vs_app, vs_cons, List.length_append, List.length_append, List.length_replicate] at hlen
    omega
  have hnx : vs zs cs rs (pre ++ [idx]) = vs zs cs rs pre ++ List.replicate (at0 zs idx).toNat (vt cs rs idx) := by
    rw [vs_app, vs_cons]
    show _ ++ (_ ++ []) = _
    rw [List.append_nil]
  have hK : stV r m (vs zs cs rs (pre ++ [idx])) ≠ "open" → stV r m (vs zs cs rs (pre ++ [idx])) = if fnd then "passed" else "failed" := fun hne => by
    rw [← hst, he, show pre ++ idx :: post = (pre ++ [idx]) ++ post by simp, vs_app (a := pre ++ [idx])]
    refine (stV_keepL hr (vs_ball hrs) ?_ hne).symm
    rw [he, show pre ++ idx :: post = (pre ++ [idx]) ++ post by simp, vs_app (a := pre ++ [idx]), List.length_append] at hlen
    omega
  unfold EV
  refine h_int (by simp only [List.set_cons_succ, List.set_cons_zero]; rfl) ?_
  unfold b3_law_k39
  walk_at "q"
  refine z_for ?_
  refine wp_eq (Wp.eq (i_rng (k := 0) (l := at0 zs idx) (w_cst ⟨rfl, ?_⟩) (by omega))) ?_
  · walk_at "q"
    exact u_row h0 hg ⟨rfl, rfl⟩
  refine floop_pre (all := rngL 0 (at0 zs idx)) (pre := []) (I := fun pre2 env s => (∃ e13 e14, env = EV s0 k x i r zs rs cs fnd a oq lq (some (.int idx)) e13 e14 e15 ∧ (pre2 ≠ [] → e14 = some (.str (stV r m (vs zs cs rs pre ++ List.replicate pre2.length (vt cs rs idx)))))) ∧ Cn i a p oq r m order (vs zs cs rs pre ++ List.replicate pre2.length (vt cs rs idx)) s) (fun _ _ _ _ => rfl) (fun pre2 y post2 e env s hI => ?_) rfl ⟨⟨_, _, rfl, fun z => absurd rfl z⟩, by rw [show List.replicate ([] : List Int).length (vt cs rs idx) = [] from rfl, List.append_nil]; exact h⟩ fun env s hI => ?_
  · obtain ⟨⟨e13, e14, rfl, _⟩, hC⟩ := hI
    have hl := congrArg List.length e
    rw [rngL_len, List.length_append, List.length_cons] at hl
    rw [List.length_append, List.length_singleton]
    refine (in39 hr hm1 hrs ap (by omega) hC).mono fun env1 s1 q => q.mono ?_ fun _ _ z => z
    rintro env2 s2 ⟨⟨e13, rfl⟩, hC2⟩
    exact ⟨⟨_, _, rfl, fun _ => rfl⟩, hC2⟩
  · obtain ⟨⟨e13, e14, rfl, h14⟩, hC⟩ := hI
    rw [rngL_len, Int.sub_zero] at hC h14
    rw [← hnx] at hC h14
    have h14 := h14 (fun z => by have := congrArg List.length z; rw [rngL_len] at this; simp at this; omega)
    subst h14
    unfold EV
    rcases stV_cases (r := r) (m := m) (bs := vs zs cs rs (pre ++ [idx])) with e | e | e
    · have hf := hK (by rw [e]; decide)
      rw [e] at hf
      rw [e]
      cases fnd with
      | false => exact absurd hf (by decide)
      | true =>
        walk_at "q"
        exact ⟨⟨_, _, _, rfl⟩, hC⟩
    · have hf := hK (by rw [e]; decide)
      rw [e] at hf
      rw [e]
      cases fnd with
      | true => exact absurd hf (by decide)
      | false =>
        walk_at "q"
        exact ⟨⟨_, _, _, rfl⟩, hC⟩
    · rw [e]
      walk_at "q"
      exact ⟨⟨_, _, _, rfl⟩, hC⟩
end
def Inv1 (s0 : MV) (env : Env) : Prop := ∃ e1 e2 e3 e4 e5 e6 e7 e8 e9 e10 e11 e12 e13 e14 e15 : Option MV, env = [some s0, e1, e2, e3, e4, e5, e6, e7, e8, e9, e10, e11, e12, e13, e14, e15]
def Inv2 (ns : List Int) (k : Int) (i : Nat) (env : Env) (st : Store) : Prop := (∃ e3 e4 e5 e6 e7 e8 e9 e10 e11 e12 e13 e14 e15 : Option MV, env = [some (.rol (ns.map .int)), some (.int k), some (.ref i), e3, e4, e5, e6, e7, e8, e9, e10, e11, e12, e13, e14, e15]) ∧ Src st i
/-- names: 0:script 1:k 2:source 3:turn 4:rule 5:groups 6:others 7:some 8:found 9:count 10:order 11:left 12:index 13:member_so 14:state 15:yes -/
def rest_k39 : Ss := .cons (.asg (.nm 7) (.blt .tuple (.cons (.comp (.var 12) (.nm 12) (.rng (.cst (.int 0)) (.blt .len (.cons (.var 5) .nil))) (.cmp .eq (.call 7 (.cons (.var 2) (.cons (.cst (.int 2)) .nil))) (.cst (.int 0)))) .nil))) (.cons (.asg (.nms [8, 9]) (.tup (.cons (.call 72 (.cons (.var 4) (.cons (.var 5) (.cons (.var 6) (.cons (.var 7) .nil))))) (.cons (.mk "Count" 2000 (.cons (.var 4) (.cons (.blt .sum (.cons (.var 5) .nil)) .nil))) .nil)))) (.cons (.asg (.nms [10, 11]) (.tup (.cons (.lst (.nil)) (.cons (.rgl false (.cst (.int 0)) (.blt .len (.cons (.var 5) .nil))) .nil)))) (.cons (.whl (.cmp .ne (.var 11) (.lst (.nil))) (b1_law_k39)) (.cons (.for (.nm 12) (.ex (.var 10)) (b3_law_k39)) (.cons (.iff (.or (.cmp .ne (.mcl "Count" "state" 2003 (.var 9) (.nil)) (.ite (.var 8) (.cst (.str "passed")) (.cst (.str "failed")))) (.cmp .ne (.mcl "Count" "left" 2006 (.var 9) (.nil)) (.cst (.int 0)))) (.cons (.ret (.cst (.bl false))) .nil) (.nil)) (.cons (.asg (.nm 15) (.blt .sum (.cons (.comp (.sub (.var 5) (.var 12)) (.nm 12) (.ex (.var 7)) (.cst (.bl true))) .nil))) (.cons (.iff (.or (.cmp .ne (.sub (.mcl "Count" "votes" 2005 (.var 9) (.nil)) (.cst (.int 0))) (.var 15)) (.cmp .ne (.lenO "Count" 2001 (.var 9)) (.blt .sum (.cons (.var 5) .nil)))) (.cons (.ret (.cst (.bl false))) .nil) (.nil)) (.cons (.iff (.and (.cmp .eq (.call 19 (.cons (.var 4) (.cons (.blt .sum (.cons (.var 5) .nil)) (.cons (.mcl "Count" "votes" 2005 (.var 9) (.nil)) .nil)))) (.lst (.nil))) (.not (.var 8))) (.cons (.ret (.cst (.bl false))) .nil) (.nil)) .nil))))))))
theorem hand_ok {st : Store} : Wp (call (lib own) 11 1000 [] st) fun v _ => v = .bl true := by
  refine Wp_call (fd := f_law_by_hand_k39) rfl rfl ?_
  rw [allocs_idp rfl]
  simp only [f_law_by_hand_k39, List.map_nil, List.nil_append, List.reduceReplicate, Nat.reduceSub]
  have hr : okR [⟨"present", 2, 3, false⟩] := ⟨by decide, by simp [okC_iff, kindsL]⟩
  have hm : okM 6 := ⟨by decide, by decide⟩
  walk_at "q"
  show Wp (ev (call (lib own) (5 + 5)) _ _ _) _
  refine w_count (r := [⟨"present", 2, 3, false⟩]) (m := 6) cntX hr hm ?_
  walk_at "q"
  intro s2 c2 x2 l2
  generalize st.length + 1 = p at c2
  generalize st.length = a at c2
  walk_at "q"
  refine w_mcs (w_var rfl ⟨c2.isO (n := "add") rfl, ?_⟩)
  walk_at "q"
  refine ⟨⟨c2.isO (n := "add") rfl, by simp⟩, ?_⟩
  show Wp (call (lib own) (5 + 5) 2002 [.ref a, .xts fiveL] s2) _
  refine wp_eq (c_add_ok cntX hr c2 (by decide) (by decide) (by decide) (by decide)) ?_
  have c3 : CAt (s2.set p (.lst (([] ++ [([] : List Str)] ++ [[] ++ fiveL]).map MV.xts))) a p [⟨"present", 2, 3, false⟩] 6 ([] ++ [([] : List Str)]) ([] ++ fiveL) := c2.put
  generalize s2.set p (Cell.lst (([] ++ [([] : List Str)] ++ [[] ++ fiveL]).map MV.xts)) = s3 at c3
  rw [show stV [⟨"present", 2, 3, false⟩] 6 ([] ++ fiveL) = "open" by decide +kernel]
  walk_at "q"
  refine w_mcs (w_var rfl ⟨c3.isO (n := "add") rfl, ?_⟩)
  walk_at "q"
  refine ⟨⟨c3.isO (n := "add") rfl, by simp⟩, ?_⟩
  show Wp (call (lib own) (5 + 5) 2002 [.ref a, .xts oneY] s3) _
  refine wp_eq (c_add_ok cntX hr c3 (by decide) (by decide) (by decide) (by decide)) ?_
  rw [show stV [⟨"present", 2, 3, false⟩] 6 ([] ++ fiveL ++ oneY) = "passed" by decide +kernel]
  walk_at "q"
  refine wp_eq (wins_ok (r := [⟨"cast", 2, 3, false⟩]) (zs := [2, 2]) (rs := "blank") (c := [0]) ⟨by decide, by simp [okC_iff, kindsL]⟩ ⟨by decide, by decide, by decide, by decide⟩ (by simp [restL]) (by decide +kernel)) ?_
  rw [show winC [⟨"cast", 2, 3, false⟩] [2, 2] "blank" [0] = true by decide +kernel]
  walk_at "q"
  refine wp_eq (wins_ok (r := [⟨"cast", 1, 2, true⟩, ⟨"turnout", 1, 2, false⟩]) (zs := [1, 1]) (rs := "no") (c := [0, 1]) ⟨by decide, by simp [okC_iff, kindsL]⟩ ⟨by decide, by decide, by decide, by decide⟩ (by simp [restL]) (by decide +kernel)) ?_
  rw [show winC [⟨"cast", 1, 2, true⟩, ⟨"turnout", 1, 2, false⟩] [1, 1] "no" [0, 1] = true by decide +kernel]
  walk_at "q"
  refine wp_eq (wins_ok (r := [⟨"present", 2, 3, false⟩]) (zs := [4, 2]) (rs := "blank") (c := [0]) ⟨by decide, by simp [okC_iff, kindsL]⟩ ⟨by decide, by decide, by decide, by decide⟩ (by simp [restL]) (by decide +kernel)) ?_
  rw [show winC [⟨"present", 2, 3, false⟩] [4, 2] "blank" [0] = true by decide +kernel]
  walk_at "q"
  refine wp_eq (wins_ok (r := [⟨"turnout", 1, 1, false⟩]) (zs := [1, 1]) (rs := "blank") (c := [0]) ⟨by decide, by simp [okC_iff, kindsL]⟩ ⟨by decide, by decide, by decide, by decide⟩ (by simp [restL]) (by decide +kernel)) ?_
  rw [show winC [⟨"turnout", 1, 1, false⟩] [1, 1] "blank" [0] = true by decide +kernel]
  walk_at "q"
  exact gcv_blT
theorem core_ok {ns : List Int} {k x : Int} {i : Nat} {r : List Cd} {zs : List Int} {rs : Str} {st : Store} {R : MV → Store → Prop} {e7 e8 e9 e10 e11 e12 e13 e14 e15 : Option MV} (hr : okR r) (hrl : (r.length : Int) ≤ 3) (hg : okG zs) (hzl : zs.length ≤ 5) (hzw : ∀ z ∈ zs, 1 ≤ z ∧ z ≤ 5) (hrs : rs ∈ restL) (hs : Src st i) :
    Ws (exs (call (lib own) 11) rest_k39 [some (.rol (ns.map .int)), some (.int k), some (.ref i), some (.int x), some (encR r), some (rowMV zs), some (.str rs), e7, e8, e9, e10, e11, e12, e13, e14, e15] st) (Inv2 ns k i) R := by
  have h1 := hg.l1
  have h7 := hg.l7
  have hi := hs.lt
  have hz := hg.nn
  unfold rest_k39
  have hm := hg.okM
  have hm1 := hm.hi
  walk_at "q"
  refine w_comp ?_
  refine (i_rng (k := 0) (l := zs.length) (w_cst ⟨rfl, ?_⟩) (by omega)).mono ?_
  · walk_at "q"
  rintro _ _ ⟨rfl, rfl⟩
  refine ⟨by rw [List.length_map, rngL_len]; exact big_ok (by omega), ?_⟩
  refine (cloop_sub (fun _ => rfl) (fun y hy s u => ?_) (Upd.refl hs)).mono ?_
  · refine w_turn (g_int ?_)
    simp only [List.set_cons_succ, List.set_cons_zero]
    walk_at "q"
    refine (draw_ok (u.src hi) (by decide) (by decide)).mono ?_
    rintro _ s2 ⟨q, rfl, _, _, u2⟩
    walk_at "q"
    · exact ⟨.inr rfl, u.trans u2⟩
    · exact ⟨.inl trivial, u.trans u2⟩
  rintro _ s1 ⟨cs, rfl, hcs, u1⟩
  have hc : cs ∈ coals zs.length := coals_mem.mpr hcs
  have hs1 := u1.src hi
  walk_at "q"
  refine h_row (r := cs) (by simp only [List.set_cons_succ, List.set_cons_zero]; rfl) ?_
  walk_at "q"
  refine wp_eq (wins_ok hr hg hrs hc) ?_
  walk_at "q"
  show Wp (ev (call (lib own) (6 + 5)) _ _ _) _
  refine w_count cntX hr hm ?_
  walk_at "q"
  intro s2 c2 x2 l2
  walk_at "q"
  refine w_rgl ?_
  walk_at "q"
  refine ⟨_, _, rfl, rfl, by decide, by decide, by omega, by omega, ?_⟩
  rw [rangeL_eq]
  walk_at "q"
  refine h_tupLLG rfl (encInt.noLsts _) fun oq lq s3 ho hl x3 n3 n4 hne => ⟨_, (by simp only [asgs, List.set_cons_succ, List.set_cons_zero]; rfl), ?_⟩
  have hi1 := hs1.lt
  have ap : Ap i s1.length (s1.length + 1) oq lq := ⟨by omega, by omega, by omega, by omega, by omega, by omega, by omega, by omega, hne⟩
  generalize s1.length + 1 = p at c2 ap
  generalize s1.length = a at c2 ap
  have hs3 := (x2.trans x3).src hs1
  have c3 := c2.ext x3
  have hmm : zs.sum = zs.sum := rfl
  walk_at "q"
  refine z_whl ?_
  refine wl_ok (base := rngL 0 zs.length) ap rfl rfl rfl (by rw [rngL_len]; omega) (fun s4 order hS hp => ?_) fuel (rngL 0 zs.length) [] s3 (Nat.lt_of_le_of_lt (m := 7) (by rw [rngL_len]; omega) (by decide)) ⟨hs3, c3, ho, hl⟩ (by rw [List.nil_append])
  have hF := full_of (rs := rs) hz hrs hc hp
  have hst := hF.st (r := r)
  generalize winC r zs rs cs = fnd at hst
  walk_at "q"
  refine z_for (wp_eq (Wp.eq (i_ref (encInt.noLsts order) hS.o rfl)) ?_)
  refine floop_pre (all := order) (pre := []) (I := fun pre env s => (∃ e12 e13 e14, env = EV (some (.rol (ns.map .int))) k x i r zs rs cs fnd a oq lq e12 e13 e14 e15) ∧ Cn i a p oq r zs.sum order (vs zs cs rs pre) s) (fun _ _ _ h => held_ref h.2.o) (fun pre idx post e env s hI => ?_) rfl ⟨⟨_, _, _, rfl⟩, hS.src, ⟨[], hS.c, rfl⟩, hS.o⟩ fun env s hI => ?_
  · obtain ⟨⟨e12, e13, e14, rfl⟩, hC⟩ := hI
    have hidx := rngL_mem.mp (hp.subset (show idx ∈ order by rw [e]; simp))
    exact out39 hr hm1 hrs (fun z hz1 => (hzw z hz1).1) ap e hidx.1 hidx.2 hF.len hst hC
  · obtain ⟨⟨e12, e13, e14, rfl⟩, hs4, ⟨rws, c4, _⟩, _⟩ := hI
    have hok : okV zs.sum (cY (vs zs cs rs order)) (cN (vs zs cs rs order)) (cB (vs zs cs rs order)) := cnt_ok hF.len
    have hlen := hF.len
    have hpass := stV_end (r := r) hlen
    unfold EV
    walk_at "q"
    refine w_mcl (w_var rfl ⟨c4.isO (n := "state") rfl, w_nil ⟨c4.isO (n := "state") rfl, wp_eq (c_state_ok (d := 7) cntX hr c4) ?_⟩⟩)
    have hci := co_okI hc
    have hcl := co_len hc
    rw [hst]
    cases fnd with
    | true =>
      walk_at "q"
      refine w_mcl (w_var rfl ⟨c4.isO (n := "left") rfl, w_nil ⟨c4.isO (n := "left") rfl, wp_eq (c_left_ok cntX c4) ?_⟩⟩)
      rw [hlen, Int.sub_self]
      walk_at "q"
      refine w_compM (enc := MV.int) (xs := cs) (f := fun i => .int (at0 zs i)) (i_row (w_var rfl ⟨rfl, rfl⟩)) (big_ok (by omega)) rfl (fun j hj => ?_) ?_
      · walk_at "q"
        exact u_row (hci j hj).1 (cosum_get (hci j hj).1 (hci j hj).2) ⟨rfl, rfl⟩
      walk_at "q"
      refine b_sumL (r := cs.map (at0 zs)) (by rw [sum_map_int]; rfl) ?_
      rw [show (cs.map (at0 zs)).sum = cosum zs cs from rfl]
      walk_at "q"
      refine w_mcl (w_var rfl ⟨c4.isO (n := "votes") rfl, w_nil ⟨c4.isO (n := "votes") rfl, wp_eq (c_votes_ok cntX c4) ?_⟩⟩)
      walk_at "q"
      refine u_tup (m := .int (cY (vs zs cs rs order))) rfl ?_
      rw [hF.y]
      walk_at "q"
      refine w_lenO (w_var rfl ⟨c4.isO (n := "__len__") rfl, wp_eq (c_len_ok cntX c4) ⟨_, rfl, by omega, ?_⟩⟩)
      rw [hlen]
      walk_at "q"
      refine w_mcl (w_var rfl ⟨c4.isO (n := "votes") rfl, w_nil ⟨c4.isO (n := "votes") rfl, wp_eq (c_votes_ok cntX c4) ?_⟩⟩)
      walk_at "q"
      refine (failed_ok hr hm hok).mono ?_
      rintro _ _ ⟨rfl, rfl⟩
      walk_at "q"
      refine o_eqL encInt (xs := failL zs.sum (cY (vs zs cs rs order)) (cN (vs zs cs rs order)) (cB (vs zs cs rs order)) 0 r) (ys := []) rfl rfl ?_
      rw [fail_nil]
      walk_at "q"
      all_goals exact ⟨⟨_, _, _, _, _, _, _, _, _, _, _, _, _, rfl⟩, hs4⟩
    | false =>
      have hno : passR r zs.sum (cY (vs zs cs rs order)) (cN (vs zs cs rs order)) (cB (vs zs cs rs order)) = false := by
        rw [hst] at hpass
        cases hp : passR r zs.sum (cY (vs zs cs rs order)) (cN (vs zs cs rs order)) (cB (vs zs cs rs order)) with
        | false => rfl
        | true =>
          rw [hp] at hpass
          exact absurd hpass (by decide)
      walk_at "q"
      refine w_mcl (w_var rfl ⟨c4.isO (n := "left") rfl, w_nil ⟨c4.isO (n := "left") rfl, wp_eq (c_left_ok cntX c4) ?_⟩⟩)
      rw [hlen, Int.sub_self]
      walk_at "q"
      refine w_compM (enc := MV.int) (xs := cs) (f := fun i => .int (at0 zs i)) (i_row (w_var rfl ⟨rfl, rfl⟩)) (big_ok (by omega)) rfl (fun j hj => ?_) ?_
      · walk_at "q"
        exact u_row (hci j hj).1 (cosum_get (hci j hj).1 (hci j hj).2) ⟨rfl, rfl⟩
      walk_at "q"
      refine b_sumL (r := cs.map (at0 zs)) (by rw [sum_map_int]; rfl) ?_
      rw [show (cs.map (at0 zs)).sum = cosum zs cs from rfl]
      walk_at "q"
      refine w_mcl (w_var rfl ⟨c4.isO (n := "votes") rfl, w_nil ⟨c4.isO (n := "votes") rfl, wp_eq (c_votes_ok cntX c4) ?_⟩⟩)
      walk_at "q"
      refine u_tup (m := .int (cY (vs zs cs rs order))) rfl ?_
      rw [hF.y]
      walk_at "q"
      refine w_lenO (w_var rfl ⟨c4.isO (n := "__len__") rfl, wp_eq (c_len_ok cntX c4) ⟨_, rfl, by omega, ?_⟩⟩)
      rw [hlen]
      walk_at "q"
      refine w_mcl (w_var rfl ⟨c4.isO (n := "votes") rfl, w_nil ⟨c4.isO (n := "votes") rfl, wp_eq (c_votes_ok cntX c4) ?_⟩⟩)
      walk_at "q"
      refine (failed_ok hr hm hok).mono ?_
      rintro _ _ ⟨rfl, rfl⟩
      walk_at "q"
      refine o_eqL encInt (xs := failL zs.sum (cY (vs zs cs rs order)) (cN (vs zs cs rs order)) (cB (vs zs cs rs order)) 0 r) (ys := []) rfl rfl ?_
      rw [fail_nil]
      rw [hno]
      walk_at "q"
      exact ⟨⟨_, _, _, _, _, _, _, _, _, _, _, _, _, rfl⟩, hs4⟩
theorem turn_ok {ns : List Int} {k j : Int} {i : Nat} {env : Env} {st : Store} {R : MV → Store → Prop} {x : MV} (hx : x = .int j) (hI : Inv2 ns k i env st) :
    Wp (asgT (.nm 3) x env st) fun env1 st1 => Ws (exs (call (lib own) 11) b4_law_k39 env1 st1) (Inv2 ns k i) R := by
  subst hx
  obtain ⟨⟨e3, e4, e5, e6, e7, e8, e9, e10, e11, e12, e13, e14, e15, rfl⟩, hs⟩ := hI
  have hi := hs.lt
  unfold b4_law_k39
  walk_at "q"
  refine (rule_ok hs (by decide) (by decide)).mono ?_
  rintro _ s1 ⟨r, rfl, hr, hrl, u1⟩
  walk_at "q"
  refine (law_groups_ok (u1.src hi) (by decide) (by decide) (by decide) (by decide)).mono ?_
  rintro _ s2 ⟨zs, rfl, z1, z2, z3, u2⟩
  have u12 := u1.trans u2
  walk_at "q"
  refine h_tup rfl (by simp [noLsts, noLst, pure_noLst (encR_pure r), pure_noLst (row_pure zs)]) (by simp only [asgs, List.set_cons_succ, List.set_cons_zero]; rfl) ?_
  walk_at "q"
  refine (choice_lst (u12.src hi) (by simp) (by simp [pureMs, pureM]) (by simp)).mono ?_
  rintro v s3 ⟨m3, u3⟩
  obtain ⟨rs, rfl, hrs⟩ : ∃ rs, v = .str rs ∧ rs ∈ restL := by
    simp only [List.mem_cons, List.not_mem_nil, or_false] at m3
    rcases m3 with rfl | rfl | rfl
    · exact ⟨_, rfl, by simp [restL]⟩
    · exact ⟨_, rfl, by simp [restL]⟩
    · exact ⟨_, rfl, by simp [restL]⟩
  have hs3 : Src s3 i := (u12.trans u3).src hi
  have hg : okG zs := ⟨z1, by omega, fun z hz => by have := z3 z hz; omega, sum_le_of (n := 5) (w := 5) (by omega) (fun z hz => (z3 z hz).2) (by decide) (by decide)⟩
  refine h_str (by simp only [List.set_cons_succ, List.set_cons_zero]; rfl) ?_
  exact core_ok hr hrl hg (by omega) z3 hrs hs3
theorem round_ok {ns : List Int} {env : Env} {st : Store} {R : MV → Store → Prop} {x : MV} {k : Int} (hx : x = .int k) (h0 : 0 ≤ k) (h1 : k < 1000) (hI : Inv1 (.rol (ns.map .int)) env) :
    Wp (asgT (.nm 1) x env st) fun env1 st1 => Ws (exs (call (lib own) 11) b5_law_k39 env1 st1) (fun env _ => Inv1 (.rol (ns.map .int)) env) R := by
  subst hx
  obtain ⟨e1, e2, e3, e4, e5, e6, e7, e8, e9, e10, e11, e12, e13, e14, e15, rfl⟩ := hI
  unfold b5_law_k39
  walk_at "q"
  refine (source_ok h0 (by omega)).mono ?_
  rintro _ s1 ⟨rfl, a, b, rfl⟩
  walk_at "q"
  have hs : Src (s1 ++ [Cell.lst [MV.int a, .int b]]) s1.length := Src.new
  refine z_for (e_rng ?_)
  walk_at "q"
  refine ⟨_, _, rfl, rfl, by decide, ?_⟩
  refine floop_inv (P := Inv2 ns k s1.length) (fun _ _ _ => rfl) (fun x hx env st hI => ?_) ⟨⟨_, _, _, _, _, _, _, _, _, _, _, _, _, rfl⟩, hs⟩ ?_
  · obtain ⟨j, e, _, _⟩ := range_mem hx
    exact turn_ok e hI
  · rintro env st ⟨⟨e3, e4, e5, e6, e7, e8, e9, e10, e11, e12, e13, e14, e15, rfl⟩, _⟩
    walk_at "q"
    exact ⟨_, _, _, _, _, _, _, _, _, _, _, _, _, _, _, rfl⟩
theorem law_ok (ns : List Int) (hn : ns.length ≤ 63) : ∃ st', call (lib own) 12 1001 [.rol (ns.map .int)] [] = .val (.bl true) st' := by
  have key : Wp (call (lib own) 12 1001 [.rol (ns.map .int)] []) fun v _ => v = .bl true := by
    refine Wp_call (fd := f_law_k39) rfl rfl ?_
    rw [allocs_idp (by simp [noLsts, noLst])]
    simp only [f_law_k39, List.map_cons, List.map_nil, List.cons_append, List.nil_append, List.reduceReplicate, Nat.reduceSub]
    walk_at "q"
    refine z_for (e_rng ?_)
    walk_at "q"
    refine ⟨_, _, rfl, rfl, ?_, ?_⟩
    · simp only [List.length_map]
      split <;> omega
    refine floop_inv (P := fun env _ => Inv1 (.rol (ns.map .int)) env) (fun _ _ _ => rfl) (fun x hx env st hI => ?_) ⟨_, _, _, _, _, _, _, _, _, _, _, _, _, _, _, rfl⟩ ?_
    · obtain ⟨k, e, h0, h1⟩ := range_mem hx
      refine round_ok e h0 ?_ hI
      simp only [List.length_map] at h1
      split at h1 <;> omega
    · rintro env st ⟨e1, e2, e3, e4, e5, e6, e7, e8, e9, e10, e11, e12, e13, e14, e15, rfl⟩
      walk_at "q"
      refine hand_ok.mono ?_
      rintro _ _ rfl
      exact gcv_blT
  obtain ⟨v, st', e, rfl⟩ := key
  exact ⟨st', e⟩
end QR.K39

theorem PySem.Challenge.cw_quorumrules_k39_whole_counts_of_groups_holds : PySem.Challenge.rw_quorumrules_k39_whole_counts_of_groups.Holds :=
  holds_k39 QR.K39.law_ok
