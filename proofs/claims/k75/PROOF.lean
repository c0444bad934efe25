import PyProof.Rows.All
import Wide.All
import OpenK.AllK
import Wide.FinOn
import KE.SortData
import HandS.ForMost
import HandS.ForExc
import HandS.Walk
import HandS.Defaults
import HandS.Lambda
import HandS.Wide
import HandS.TupAny
import HandS.Deep
import HandS.Style
import KE.LtData
import HandS.Conv
import HandS.TupLen
import HandS.RaiseMore
import HandS.IsInst
import HandS.Codes
import HandS.Text
import HandS.SetFor
import HandS.NoneIn
import HandS.Zip
import KE.GoesNew
import HandS.Iter
import HandS.Comp
import HandS.WordsExc
import HandS.ExcOwn
import HandS.FStr
import HandS.DictComp
import HandS.Small
import KE.GoesEnum
import PyProof.EnumMake
import HandS.HotCalls
import HandS.ExcIs
import HandS.HeadEnd
import HandS.Head2
import HandS.HeadHook4
import HandS.EndTab
import HandS.More
import PyProof.ExcBaseAll.ValueError
import KE.KUnpackStar
import HandS.TupSets
import HandS.SetBool
import KE.KeyNested
import PyProof.StrLawsRepr
import PySem.Challenge.RW_onewhere_k75_texts_read
set_option Elab.async false
section
/-! Core: a small core language over plain data, its evaluator. No Python model in sight. -/
set_option linter.all false
namespace PZ
abbrev Tx := List Nat
/-- plain data; ref: an object of the store; fn: a def or class of the text; scr: the script; kt: a tuple that may be a dict's key -/
inductive D where
  | non | bl (b : Bool) | int (i : Int) | str (s : Tx)
  | tup (l : List D) | lst (l : List D) | kt (l : List D) | scr (l : List Int) | ref (n : Nat) | fn (n : Nat) | exv (c : Nat)
  deriving Inhabited

mutual
def D.deq : D → D → Bool
  | .non, .non => true
  | .bl a, .bl b => a == b
  | .int a, .int b => a == b
  | .str a, .str b => a == b
  | .tup a, .tup b => D.deqs a b
  | .lst a, .lst b => D.deqs a b
  | .kt a, .kt b => D.deqs a b
  | .scr a, .scr b => a == b
  | .ref a, .ref b => a == b
  | .fn a, .fn b => a == b
  | .exv a, .exv b => a == b
  | _, _ => false
def D.deqs : List D → List D → Bool
  | [], [] => true
  | x :: xs, y :: ys => D.deq x y && D.deqs xs ys
  | _, _ => false
end
mutual
theorem D.deq_eq : ∀ {a b : D}, D.deq a b = true → a = b
  | .non, b, h => by cases b <;> simp_all [D.deq]
  | .bl _, b, h => by cases b <;> simp_all [D.deq]
  | .int _, b, h => by cases b <;> simp_all [D.deq]
  | .str _, b, h => by cases b <;> simp_all [D.deq]
  | .tup l, b, h => by
    cases b <;> simp only [D.deq, Bool.false_eq_true] at h
    rw [D.deqs_eq h]
  | .lst l, b, h => by
    cases b <;> simp only [D.deq, Bool.false_eq_true] at h
    rw [D.deqs_eq h]
  | .kt l, b, h => by
    cases b <;> simp only [D.deq, Bool.false_eq_true] at h
    rw [D.deqs_eq h]
  | .scr _, b, h => by cases b <;> simp_all [D.deq]
  | .ref _, b, h => by cases b <;> simp_all [D.deq]
  | .fn _, b, h => by cases b <;> simp_all [D.deq]
  | .exv _, b, h => by cases b <;> simp_all [D.deq]
theorem D.deqs_eq : ∀ {a b : List D}, D.deqs a b = true → a = b
  | [], b, h => by cases b <;> simp_all [D.deqs]
  | x :: xs, b, h => by
    cases b with
    | nil => simp [D.deqs] at h
    | cons y ys =>
      simp only [D.deqs, Bool.and_eq_true] at h
      rw [D.deq_eq h.1, D.deqs_eq h.2]
end
mutual
theorem D.deq_refl : ∀ a : D, D.deq a a = true
  | .non => rfl
  | .bl _ => by simp [D.deq]
  | .int _ => by simp [D.deq]
  | .str _ => by simp [D.deq]
  | .tup l => by simp only [D.deq]; exact D.deqs_refl l
  | .lst l => by simp only [D.deq]; exact D.deqs_refl l
  | .kt l => by simp only [D.deq]; exact D.deqs_refl l
  | .scr _ => by simp [D.deq]
  | .ref _ => by simp [D.deq]
  | .fn _ => by simp [D.deq]
  | .exv _ => by simp [D.deq]
theorem D.deqs_refl : ∀ a : List D, D.deqs a a = true
  | [] => rfl
  | x :: xs => by simp only [D.deqs, D.deq_refl x, D.deqs_refl xs, Bool.and_self]
end
theorem D.deq_iff {a b : D} : D.deq a b = true ↔ a = b := ⟨D.deq_eq, fun e => by rw [e]; exact D.deq_refl b⟩
instance : DecidableEq D := fun a b => decidable_of_iff (D.deq a b = true) D.deq_iff

/-! ### what Python's == says of data -/
def b2i (b : Bool) : Int := if b then 1 else 0
mutual
def eqD : D → D → Bool
  | .non, .non => true
  | .bl a, .bl b => a == b
  | .bl a, .int j => b2i a == j
  | .int i, .bl b => i == b2i b
  | .int i, .int j => i == j
  | .str x, .str y => x == y
  | .lst xs, .lst ys => eqDs xs ys
  | .tup xs, .tup ys => eqDs xs ys
  | .kt xs, .kt ys => eqDs xs ys
  | .kt xs, .tup ys => eqDs xs ys
  | .tup xs, .kt ys => eqDs xs ys
  | _, _ => false
def eqDs : List D → List D → Bool
  | [], [] => true
  | x :: xs, y :: ys => eqD x y && eqDs xs ys
  | _, _ => false
end
mutual
/-- data alone: no object of the store, no def -/
def D.pure : D → Bool
  | .tup l => D.pures l
  | .lst l => D.pures l
  | .kt l => D.pures l
  | .ref _ => false
  | .fn _ => false
  | .exv _ => false
  | .scr _ => false
  | _ => true
def D.pures : List D → Bool
  | [] => true
  | x :: xs => D.pure x && D.pures xs
end
mutual
def D.dep : D → Nat
  | .tup l => D.deps l + 1
  | .lst l => D.deps l + 1
  | .kt l => D.deps l + 1
  | _ => 0
def D.deps : List D → Nat
  | [] => 0
  | x :: xs => max (D.dep x) (D.deps xs)
end
mutual
/-- no object of the store from n on -/
def D.upto (n : Nat) : D → Bool
  | .tup l => D.uptos n l
  | .lst l => D.uptos n l
  | .kt l => D.uptos n l
  | .ref k => decide (k < n)
  | _ => true
def D.uptos (n : Nat) : List D → Bool
  | [] => true
  | x :: xs => D.upto n x && D.uptos n xs
end

/-! ### the store, results -/
inductive MO where
  | lst (l : List D)
  /-- a dict; t: its keys are tuples; lk: a loop walks it -/
  | dic (t lk : Bool) (kvs : List (D × D))
  /-- an instance of the c-th class -/
  | ins (c : Nat) (fs : List (Nat × D))
  deriving Inhabited
abbrev Sto := List MO
inductive R (α : Type) where
  | ok (a : α) (s : Sto)
  | exc (c : Nat) (s : Sto)
  | bad
abbrev M (α : Type) := Sto → R α
def M.ret {α : Type} (a : α) : M α := fun s => .ok a s
def R.bind {α β : Type} (r : R α) (k : α → M β) : R β := match r with
  | .ok a s => k a s
  | .exc c s => .exc c s
  | .bad => .bad
def M.bind {α β : Type} (m : M α) (k : α → M β) : M β := fun s => (m s).bind k
def M.bad {α : Type} : M α := fun _ => .bad
def M.opt {α : Type} (o : Option α) : M α := fun s => match o with | some a => .ok a s | none => .bad
instance : Monad M where
  pure := M.ret
  bind := M.bind
/-- in a comprehension nothing may be raised -/
def R.calm {α : Type} : R α → R α
  | .exc _ _ => .bad
  | r => r
theorem R.bind_ok {α β : Type} (a : α) (s : Sto) (k : α → M β) : (R.ok a s).bind k = k a s := rfl
theorem R.bind_exc {α β : Type} (c : Nat) (s : Sto) (k : α → M β) : (R.exc c s : R α).bind k = .exc c s := rfl
theorem R.bind_bad {α β : Type} (k : α → M β) : (R.bad : R α).bind k = .bad := rfl

def MO.upto (n : Nat) : MO → Bool
  | .lst l => D.uptos n l
  | .dic _ _ kvs => kvs.all fun kv => kv.2.upto n
  | .ins _ fs => fs.all fun kv => kv.2.upto n

/-- a list of the store stands for its items -/
def rd (s : Sto) (d : D) : D := match d with
  | .ref n => match s[n]? with
    | some (.lst l) => .lst l
    | _ => .ref n
  | d => d

mutual
/-- as the library's data -/
def D.toP : D → PySem.PyData
  | .non => .none
  | .bl b => .bool b
  | .int i => .int i
  | .str s => .str ⟨s.toArray⟩
  | .tup l => .tuple (D.toPs l)
  | .lst l => .list (D.toPs l)
  | .kt l => .tuple (D.toPs l)
  | _ => .none
def D.toPs : List D → List PySem.PyData
  | [] => []
  | x :: xs => D.toP x :: D.toPs xs
end

/-! ### operators -/
inductive Op where
  | add | sub | mul | fdiv | mod | pow | shl | shr | band
  | eq | ne | lt | le | gt | ge | isin | notin | isN | isNN | ix
  deriving DecidableEq
/-- a place in n, of any sign -/
def ixN (n : Nat) (i : Int) : Option Nat := if 0 ≤ i then (if i < n then some i.toNat else none) else if -(n : Int) ≤ i then some (i + n).toNat else none
def atI {α : Type} (xs : List α) (i : Int) : Option α := (ixN xs.length i).bind fun j => xs[j]?
def mulOk (i j : Int) : Bool := decide (i.natAbs.log2 + j.natAbs.log2 < 1000000)
def divOk (j : Int) : Bool := decide (j ≠ 0) && decide (j.natAbs.log2 < 9000)
def powOk (i j : Int) : Bool := decide (0 ≤ j) && decide (j ≤ 1000) && decide (i.natAbs < 2 ^ 64)
def shlOk (i j : Int) : Bool := decide (0 ≤ j) && decide (j ≤ 1000) && decide (i.natAbs < 2 ^ 64)
def shallow (a b : D) : Bool := (a.pure && b.pure) && (decide (a.dep ≤ 60) && decide (b.dep ≤ 60))
def strLt : Tx → Tx → Bool := fun a b => decide (a < b)
/-- lists and texts may have so many places -/
def line : Nat := 16000000
def pfx (s l : Tx) : Bool := l.take s.length == s
def intsOf : List D → Option (List Int)
  | [] => some []
  | .int i :: r => (intsOf r).map (i :: ·)
  | _ :: _ => none
/-- one sign in a text, an item in a list or tuple -/
def inD (a : D) : D → Option Bool
  | .str z => match a with
    | .str [c] => some (decide (c ∈ z))
    | _ => none
  | .lst l => if shallow a (.lst l) then some (l.any fun z => eqD z a) else none
  | .tup l => if shallow a (.tup l) then some (l.any fun z => eqD z a) else none
  | _ => none
def opD : Op → D → D → Option D
  | .add, .int i, .int j => some (.int (i + j))
  | .add, .str a, .str b => if a.length + b.length ≤ line then some (.str (a ++ b)) else none
  | .add, .tup a, .tup b => if a.length + b.length ≤ line then some (.tup (a ++ b)) else none
  | .add, .tup a, .kt b => if a ≠ [] ∧ b ≠ [] ∧ a.length + b.length ≤ line then some (.tup (a ++ b)) else none
  | .add, .lst a, .lst b => if a.length + b.length ≤ line then some (.lst (a ++ b)) else none
  | .sub, .int i, .int j => some (.int (i - j))
  | .mul, .int i, .int j => if mulOk i j then some (.int (i * j)) else none
  | .mul, .str a, .int j => if -1000 ≤ j ∧ j ≤ 1000 ∧ a.length ≤ 1000 then some (.str (List.replicate j.toNat a).flatten) else none
  | .mul, .lst a, .int j => if -1000 ≤ j ∧ j ≤ 1000 ∧ a.length ≤ 1000 then some (.lst (List.replicate j.toNat a).flatten) else none
  | .fdiv, .int i, .int j => if divOk j then some (.int (i.fdiv j)) else none
  | .mod, .int i, .int j => if j ≠ 0 then some (.int (i.fmod j)) else none
  | .pow, .int i, .int j => if powOk i j then some (.int (i ^ j.toNat)) else none
  | .shl, .int i, .int j => if shlOk i j then some (.int (i * 2 ^ j.toNat)) else none
  | .shr, .int i, .int j => if 0 ≤ j then some (.int (i / 2 ^ j.toNat)) else none
  | .band, .int i, .int j => if 0 ≤ i ∧ j = 1 then some (.int (i % 2)) else none
  | .eq, a, b => if shallow a b then some (.bl (eqD a b)) else none
  | .ne, a, b => if shallow a b then some (.bl (!eqD a b)) else none
  | .lt, .int i, .int j => some (.bl (decide (i < j)))
  | .lt, .str i, .str j => some (.bl (strLt i j))
  | .lt, .tup i, .tup j => if shallow (.tup i) (.tup j) && PySem.W.alike (D.tup i).toP (D.tup j).toP then some (.bl (PySem.W.dataLt (D.tup i).toP (D.tup j).toP)) else none
  | .le, .int i, .int j => some (.bl (decide (i ≤ j)))
  | .gt, .int i, .int j => some (.bl (decide (j < i)))
  | .ge, .int i, .int j => some (.bl (decide (j ≤ i)))
  | .isin, a, b => (inD a b).map .bl
  | .notin, a, b => (inD a b).map fun k => .bl (!k)
  | .isN, a, .non => some (.bl (decide (a = .non)))
  | .isNN, a, .non => some (.bl (!decide (a = .non)))
  | .isN, .bl a, .bl b => some (.bl (decide (a = b)))
  | .isNN, .bl a, .bl b => some (.bl (!decide (a = b)))
  | .ix, .tup l, .int i => atI l i
  | .ix, .lst l, .int i => atI l i
  | .ix, .scr l, .int i => (atI l i).map .int
  | .ix, .str l, .int i => if l.length ≤ line then (atI l i).map fun c => .str [c] else none
  | _, _, _ => none

/-! ### dicts: pairs by their keys -/
def kget (kvs : List (D × D)) (k : D) : Option D := (kvs.find? fun kv => decide (kv.1 = k)).map (·.2)
def kput (kvs : List (D × D)) (k v : D) : List (D × D) :=
  if (kvs.any fun kv => decide (kv.1 = k)) = true then kvs.map (fun kv => if kv.1 = k then (kv.1, v) else kv) else kvs ++ [(k, v)]
def kdrop (kvs : List (D × D)) (k : D) : List (D × D) := kvs.filter fun kv => decide (kv.1 ≠ k)
/-- a key of a dict: an int, a text; of one with tuple keys: a tuple of these -/
def keyFlat : D → Bool
  | .int _ => true
  | .str _ => true
  | _ => false
def keyOk : Bool → D → Bool
  | false, d => keyFlat d
  | true, .kt l => l.all keyFlat
  | true, _ => false

def opM (o : Op) (a b : D) : M D := fun s =>
  match o, a, b with
  | .isin, k, .ref n => match s[n]? with
    | some (.dic t _ kvs) => if keyOk t k then .ok (.bl (kget kvs k).isSome) s else .bad
    | some (.lst l) => M.opt (opD o (rd s k) (.lst l)) s
    | _ => .bad
  | .notin, k, .ref n => match s[n]? with
    | some (.dic t _ kvs) => if keyOk t k then .ok (.bl (!(kget kvs k).isSome)) s else .bad
    | some (.lst l) => M.opt (opD o (rd s k) (.lst l)) s
    | _ => .bad
  | .ix, .ref n, k => match s[n]? with
    | some (.dic t _ kvs) => if keyOk t k then M.opt (kget kvs k) s else .bad
    | some (.lst l) => M.opt (opD o (.lst l) k) s
    | _ => .bad
  | _, _, _ => M.opt (opD o (rd s a) (rd s b)) s

def isBl : D → Option Bool
  | .bl b => some b
  | _ => none
def M.bl (m : M D) : M Bool := m.bind fun d => M.opt (isBl d)

/-! ### texts -/
def joinT (s : Tx) : List Tx → Tx
  | [] => []
  | [p] => p
  | p :: q :: r => p ++ (s ++ joinT s (q :: r))
/-- cut at each s (not empty) from the left; k signs are still to be passed over -/
def splT (S : Tx) : Nat → Tx → Tx → List Tx
  | _, acc, [] => [acc]
  | 0, acc, c :: r => if pfx S (c :: r) = true then acc :: splT S (S.length - 1) [] r else splT S 0 (acc ++ [c]) r
  | k + 1, acc, _ :: r => splT S k acc r
def parT (S : Tx) : Tx → Tx → Option (Tx × Tx)
  | _, [] => none
  | acc, c :: r => if pfx S (c :: r) = true then some (acc, (c :: r).drop S.length) else parT S (acc ++ [c]) r
def natT (n : Nat) : Tx := (Nat.toDigits 10 n).map Char.toNat
def intT (i : Int) : Tx := if i < 0 then 45 :: natT i.natAbs else natT i.natAbs
def digT (l : Tx) : Nat := l.foldl (fun acc c => acc * 10 + (c - 48)) 0
def isDig (c : Nat) : Bool := decide (48 ≤ c) && decide (c ≤ 57)
def strsOf : List D → Option (List Tx)
  | [] => some []
  | .str s :: r => (strsOf r).map (s :: ·)
  | _ :: _ => none
def blsOf : List D → Option (List Bool)
  | [] => some []
  | .bl b :: r => (blsOf r).map (b :: ·)
  | _ :: _ => none
def sIx (n d : Nat) : Option Int → Nat
  | none => d
  | some v => if v < 0 then (v + (n : Int)).toNat else min v.toNat n
def cutL {α : Type} (xs : List α) (lo hi : Option Int) : List α := (xs.drop (sIx xs.length 0 lo)).take (sIx xs.length xs.length hi - sIx xs.length 0 lo)

/-! ### built-ins by values -/
inductive Bi where
  | len | abs | list | tuple | sorted | max2 | min2 | max1 | min1 | all | any | str | int | repr
  | isI | isB | isS | isT | sortedD | sortedSet | lenSet | divmod
  deriving DecidableEq
/-- sorted, as the library has it: by the rows of signs -/
def sortD (l : List D) : List D := l.mergeSort (PySem.W.dataLe false D.toP)
def isTup1 : D → Bool
  | .tup (_ :: _) => true
  | _ => false
def isAtom : D → Bool
  | .int _ => true
  | .str _ => true
  | _ => false
/-- may be sorted: alike in all places, texts or ints, or tuples -/
def sortable (l : List D) : Bool := (l.all fun a => l.all fun b => PySem.W.alike a.toP b.toP) && ((l.all isTup1 || l.all isAtom) && l.all fun a => shallow a a)
/-- each once, the first one stays -/
def onceD (l : List D) : List D := l.foldl (fun acc x => if acc.contains x then acc else acc ++ [x]) []
/-- the text of a value: the library's own shown -/
def reprT (d : D) : Tx := (PySem.PyData.shown d.toP).cps.toList
mutual
/-- a number, a tuple of such: as a set's item -/
def nkD : D → Bool
  | .int _ => true
  | .tup l => nkDs l
  | _ => false
def nkDs : List D → Bool
  | [] => true
  | x :: xs => nkD x && nkDs xs
end
def biD : Bi → List D → Option D
  | .len, [.tup l] => some (.int l.length)
  | .len, [.lst l] => some (.int l.length)
  | .len, [.scr l] => some (.int l.length)
  | .len, [.str l] => if l.length ≤ line then some (.int l.length) else none
  | .lenSet, [.lst l] => if l.length ≤ 17 ∧ (l.all fun d => isTup1 d && nkD d && decide (d.dep ≤ 7)) = true then some (.int (onceD l).length) else none
  | .abs, [.int i] => some (.int (if i < 0 then -i else i))
  | .list, [.tup l] => some (.lst l)
  | .list, [.lst l] => some (.lst l)
  | .tuple, [.tup l] => some (.tup l)
  | .tuple, [.lst l] => some (.tup l)
  | .sorted, [.lst l] => if sortable l then some (.lst (sortD l)) else none
  | .max2, [.int i, .int j] => some (.int (if j > i then j else i))
  | .min2, [.int i, .int j] => some (.int (if j < i then j else i))
  | .divmod, [.int i, .int j] => if 0 < j ∧ j < 1073741824 then some (.tup [.int (i / j), .int (i % j)]) else none
  | .all, [.lst l] => (blsOf l).map fun bs => .bl (bs.all id)
  | .any, [.lst l] => (blsOf l).map fun bs => .bl (bs.any id)
  | .str, [.str s] => some (.str s)
  | .str, [.int i] => if i.natAbs.log2 < 1000 then some (.str (intT i)) else none
  | .int, [.bl b] => some (.int (b2i b))
  | .int, [.str s] => if s ≠ [] ∧ s.all isDig = true ∧ s.length ≤ 600 then some (.int (digT s)) else none
  | .repr, [d] => if shallow d d && d.toP.showable && decide ((reprT d).length ≤ line) && (reprT d).all (· < 0x110000) then some (.str (reprT d)) else none
  | .isI, [d] => match d with
    | .int _ | .bl _ => some (.bl true)
    | .fn _ | .scr _ | .ref _ | .exv _ => none
    | _ => some (.bl false)
  | .isB, [d] => match d with
    | .bl _ => some (.bl true)
    | .fn _ | .scr _ | .ref _ | .exv _ => none
    | _ => some (.bl false)
  | .isS, [d] => match d with
    | .str _ => some (.bl true)
    | .fn _ | .scr _ | .ref _ | .exv _ => none
    | _ => some (.bl false)
  | .isT, [d] => match d with
    | .tup _ | .kt _ => some (.bl true)
    | .fn _ | .scr _ | .ref _ | .exv _ => none
    | _ => some (.bl false)
  | _, _ => none
/-- of an object of the store -/
def biR (b : Bi) (n : Nat) : M D := fun s => match b, s[n]? with
  | .len, some (.dic false _ kvs) => .ok (.int kvs.length) s
  | .len, some (.dic true false kvs) => .ok (.int kvs.length) s
  | .sortedD, some (.dic false false kvs) => M.opt (biD .sorted [.lst (kvs.map (·.1))]) s
  | .list, some (.dic false false kvs) => .ok (.lst (kvs.map (·.1))) s
  | .isI, some (.dic false false _) => .ok (.bl false) s
  | .isB, some (.dic false false _) => .ok (.bl false) s
  | .isS, some (.dic false false _) => .ok (.bl false) s
  | .isT, some (.dic false false _) => .ok (.bl false) s
  | b, _ => M.opt (biD b [rd s (.ref n)]) s
def isBi : Bi → Bool
  | .isI | .isB | .isS | .isT => true
  | _ => false
def biM (b : Bi) (ds : List D) : M D := fun s => match ds with
  | [d] => match d with
    | .ref n => biR b n s
    | d => M.opt (biD b [rd s d]) s
  | ds => M.opt (biD b (ds.map (rd s))) s

/-! ### methods of built-in types -/
inductive Me where
  | append | extend | pop0 | pop1 | index | count | get1 | get2 | update | setdefault
  | join | partition | split | startswith | dpop | sindex
  deriving DecidableEq
def firstIx (p : D → Bool) : List D → Option Nat
  | [] => none
  | x :: xs => if p x then some 0 else (firstIx p xs).map (· + 1)
def meM (m : Me) (o : D) (ds : List D) : M D := fun s =>
  match m, o, ds with
  | .append, .ref n, [x] => match s[n]? with
    | some (.lst l) => if l.length < line then .ok .non (s.set n (.lst (l ++ [x]))) else .bad
    | _ => .bad
  | .extend, .ref n, [x] => match s[n]?, rd s x with
    | some (.lst l), .lst k => if x ≠ .ref n ∧ l.length + k.length < line then .ok .non (s.set n (.lst (l ++ k))) else .bad
    | _, _ => .bad
  | .pop0, .ref n, [] => match s[n]? with
    | some (.lst l) => match l.getLast? with
      | some y => .ok y (s.set n (.lst l.dropLast))
      | none => .bad
    | _ => .bad
  | .pop1, .ref n, [.int i] => match s[n]? with
    | some (.lst l) => match ixN l.length i with
      | some k => match l[k]? with
        | some y => .ok y (s.set n (.lst (l.eraseIdx k)))
        | none => .bad
      | none => .bad
    | _ => .bad
  | .dpop, .ref n, [k] => match s[n]? with
    | some (.dic t false kvs) => if keyOk t k then match kget kvs k with
        | some y => .ok y (s.set n (.dic t false (kdrop kvs k)))
        | none => .bad
      else .bad
    | _ => .bad
  | .index, o, [x] => match rd s o with
    | .lst l => if shallow x (.lst l) then match firstIx (fun z => eqD z x) l with
        | some j => .ok (.int j) s
        | none => .bad
      else .bad
    | _ => .bad
  | .sindex, .str l, [.str [c]] => match l.findIdx? (· == c) with
    | some j => .ok (.int j) s
    | none => .bad
  | .count, o, [.bl b] => match rd s o with
    | .lst l => match blsOf l with
      | some bs => .ok (.int (bs.count b)) s
      | none => .bad
    | _ => .bad
  | .get1, .ref n, [k] => match s[n]? with
    | some (.dic t _ kvs) => if keyOk t k then .ok ((kget kvs k).getD .non) s else .bad
    | _ => .bad
  | .get2, .ref n, [k, x] => match s[n]? with
    | some (.dic t _ kvs) => if keyOk t k then .ok ((kget kvs k).getD x) s else .bad
    | _ => .bad
  | .join, .str z, [x] => match rd s x with
    | .lst l => match strsOf l with
      | some ts => if (ts.map (·.length)).sum + ts.length * z.length ≤ line then .ok (.str (joinT z ts)) s else .bad
      | none => .bad
    | .tup l => match strsOf l with
      | some ts => if (ts.map (·.length)).sum + ts.length * z.length ≤ line then .ok (.str (joinT z ts)) s else .bad
      | none => .bad
    | _ => .bad
  | .partition, .str z, [.str p] => if p = [] ∨ line < z.length then .bad else match parT p [] z with
    | some (a, b) => .ok (.tup [.str a, .str p, .str b]) s
    | none => .ok (.tup [.str z, .str [], .str []]) s
  | .split, .str z, [.str p] => if p ≠ [] ∧ p.all (· < 256) = true ∧ z.length < line then .ok (.lst ((splT p 0 [] z).map .str)) s else .bad
  | .startswith, .str z, [.str p] => .ok (.bl (pfx p z)) s
  | _, _, _ => .bad

/-- may the method be looked for -/
def meTy (m : Me) (o : D) : M Unit := fun s =>
  match m, o with
  | .append, .ref n => match s[n]? with | some (.lst _) => .ok () s | _ => .bad
  | .extend, .ref n => match s[n]? with | some (.lst _) => .ok () s | _ => .bad
  | .pop0, .ref n => match s[n]? with | some (.lst _) => .ok () s | _ => .bad
  | .pop1, .ref n => match s[n]? with | some (.lst _) => .ok () s | _ => .bad
  | .index, o => match rd s o with | .lst _ => .ok () s | _ => .bad
  | .sindex, .str _ => .ok () s
  | .count, o => match rd s o with | .lst _ => .ok () s | _ => .bad
  | .join, .str _ => .ok () s
  | .partition, .str _ => .ok () s
  | .split, .str _ => .ok () s
  | .startswith, .str _ => .ok () s
  | .get1, .ref n => match s[n]? with | some (.dic _ false _) => .ok () s | _ => .bad
  | .get2, .ref n => match s[n]? with | some (.dic _ false _) => .ok () s | _ => .bad
  | .update, .ref n => match s[n]? with | some (.dic _ false _) => .ok () s | _ => .bad
  | .setdefault, .ref n => match s[n]? with | some (.dic _ false _) => .ok () s | _ => .bad
  | .dpop, .ref n => match s[n]? with | some (.dic _ false _) => .ok () s | _ => .bad
  | _, _ => .bad

/-! ### the language -/
mutual
inductive Tg where
  | v (i : Nat)
  | t (l : Tgs)
  /-- first, *rest -/
  | hd (i j : Nat)
inductive Tgs where
  | nil | cons (t : Tg) (r : Tgs)
end
abbrev Env := List (Option D)
def unp : D → Option (List D)
  | .tup l => some l
  | .kt l => some l
  | .lst l => some l
  | _ => none
mutual
def bindT : Tg → D → Env → Option Env
  | .v i, d, ρ => if i < ρ.length then some (ρ.set i (some d)) else none
  | .t l, d, ρ => match unp d with
    | some ds => bindTs l ds ρ
    | none => none
  | .hd i j, d, ρ => match unp d with
    | some (x :: xs) => if i < ρ.length ∧ j < ρ.length then some ((ρ.set i (some x)).set j (some (.lst xs))) else none
    | _ => none
def bindTs : Tgs → List D → Env → Option Env
  | .nil, [], ρ => some ρ
  | .cons t r, d :: ds, ρ => match bindT t d ρ with
    | some ρ' => bindTs r ds ρ'
    | none => none
  | _, _, _ => none
end
mutual
def Tg.slots : Tg → List Nat
  | .v i => [i]
  | .t l => l.slots
  | .hd i j => [i, j]
def Tgs.slots : Tgs → List Nat
  | .nil => []
  | .cons t r => t.slots ++ r.slots
end
mutual
inductive CE where
  | c (d : D) | g (n : Nat) | v (i : Nat)
  | op (o : Op) (a b : CE)
  | neg (a : CE) | not (a : CE) | and (a b : CE) | or (a b : CE) | orT (a b : CE) | ite (t a b : CE)
  | ch (o o2 : Op) (a b c : CE)
  | tup (es : CEs) | lst (es : CEs) | ktup (es : CEs)
  /-- a list just made, laid into the store -/
  | new (e : CE)
  | dict (t : Bool) (ks vs : CEs)
  | bi (b : Bi) (es : CEs)
  | me (m : Me) (o : CE) (es : CEs)
  | sl (e lo hi : CE) | slLo (e lo : CE) | slHi (e hi : CE) | rev (e : CE)
  | fstr (es : CEs)
  | call (f : Nat) (es : CEs)
  | callv (e : CE) (es : CEs)
  | gin (neg : Bool) (n : Nat) (e : CE) | gget (n : Nat) (e : CE) | ggetD (n : Nat) (e d : CE)
  | at (o : CE) (k : Nat)
  | ownm (c f : Nat) (o : CE) (es : CEs)
  | make (c f : Nat) (es : CEs)
  | comp (e : CE) (tg : Tg) (it : IT) (cnd : CE)
  | comp2 (e : CE) (tg : Tg) (it : IT) (cnd : CE) (tg2 : Tg) (it2 : IT) (cnd2 : CE)
  | dcomp (t : Bool) (k e : CE) (tg : Tg) (it : IT) (cnd : CE)
  | dcomp2 (t : Bool) (k e : CE) (tg : Tg) (it : IT) (cnd : CE) (tg2 : Tg) (it2 : IT) (cnd2 : CE)
  | lzip (es : CEs)
  | said (f : Nat) (e : CE) | th
  /-- is it an exception of the k-th class (none: a ValueError) -/
  | isx (k : Option Nat) (e : CE)
inductive CEs where
  | nil | cons (e : CE) (es : CEs)
inductive IT where
  | seq (e : CE) | rng1 (a : CE) | rng2 (a b : CE) | rng3 (a b c : CE) | zip (es : CEs) | enum (e : CE) | items (e : CE) | vals (e : CE) | keys (e : CE)
end
def CEs.app : CEs → List D → CEs
  | .nil, l => l.foldr (fun d r => .cons (.c d) r) .nil
  | .cons e es, l => .cons e (es.app l)
structure Glo where
  fn : Nat → List D → M D
  gl : Nat → D
  dct : Nat → List (Tx × D)
  sd : Nat → M D → M D
  th : M D

/-- all own classes stand straight under the class 0 -/
def isxB (k : Option Nat) (c : Nat) : Bool := match k with
  | none => true
  | some k => k == c || k == 0
/-- the slots of a block's own names forgotten -/
def wipeE (ρ : Env) (is : List Nat) : Env := is.foldr (fun i ρ => ρ.set i none) ρ
/-- what a text, a list, a tuple gives, one by one -/
def seqOf : D → Option (List D)
  | .tup l => some l
  | .lst l => some l
  | .str s => some (s.map fun c => .str [c])
  | .scr l => some (l.map .int)
  | _ => none
def seqsOf : List D → Option (List (List D))
  | [] => some []
  | d :: r => match seqOf d, seqsOf r with
    | some l, some ls => some (l :: ls)
    | _, _ => none
def zip2L : List D → List D → List D
  | x :: xs, y :: ys => .tup [x, y] :: zip2L xs ys
  | _, _ => []
def zip3L : List D → List D → List D → List D
  | x :: xs, y :: ys, z :: zs => .tup [x, y, z] :: zip3L xs ys zs
  | _, _, _ => []
def zipL : List (List D) → Option (List D)
  | [a, b] => some (zip2L a b)
  | [a, b, c] => some (zip3L a b c)
  | _ => none
def enumL (l : List D) : Nat → List D
  | n => match l with
    | [] => []
    | x :: xs => .tup [.int n, x] :: enumL xs (n + 1)
def rngL (lo : Int) : Nat → List D
  | 0 => []
  | n + 1 => .int lo :: rngL (lo + 1) n
def rngC (lo c : Int) : Nat → List D
  | 0 => []
  | n + 1 => .int lo :: rngC (lo + c) c n
def small62 (i : Int) : Bool := decide (-(2 ^ 62) ≤ i) && decide (i < 2 ^ 62)
def rngN (i j c : Int) : Nat := (PySem.Builtin.Range.rangeSize i j c).toNat
/-- what is walked: the items, the lists of the store that must stay meanwhile, the dict that is locked -/
structure Wk where
  its : List D
  at_ : List (Nat × List D)
  lk : Option Nat
def Wk.ok (w : Wk) (s : Sto) : Bool := (w.at_.all fun p => match s[p.1]? with
    | some (.lst k) => decide (k = p.2)
    | _ => false) && match w.lk with
  | none => true
  | some n => match s[n]? with
    | some (.dic _ true _) => true
    | _ => false
/-- a comprehension's loop -/
def compL (f : D → M (Option D)) (w : Wk) : List D → List D → M (List D)
  | [], acc => fun s => if w.ok s then .ok acc s else .bad
  | x :: xs, acc => fun s => if w.ok s then (f x s).calm.bind (fun o => match o with
      | some y => if acc.length < line then compL f w xs (acc ++ [y]) else M.bad
      | none => compL f w xs acc) else .bad
/-- the same of lists, laid one behind another -/
def compLL (f : List D → D → M (List D)) (w : Wk) : List D → List D → M (List D)
  | [], acc => fun s => if w.ok s then .ok acc s else .bad
  | x :: xs, acc => fun s => if w.ok s then (f acc x s).calm.bind (fun acc' => compLL f w xs acc') else .bad
/-- a dict comprehension's loop -/
def dcompL (t : Bool) (f : D → M (Option (D × D))) (w : Wk) : List D → List (D × D) → M (List (D × D))
  | [], acc => fun s => if w.ok s then .ok acc s else .bad
  | x :: xs, acc => fun s => if w.ok s then (f x s).calm.bind (fun o => match o with
      | some (k, y) => if keyOk t k = true ∧ acc.length < line then dcompL t f w xs (kput acc k y) else M.bad
      | none => dcompL t f w xs acc) else .bad
def dcompLL (f : List (D × D) → D → M (List (D × D))) (w : Wk) : List D → List (D × D) → M (List (D × D))
  | [], acc => fun s => if w.ok s then .ok acc s else .bad
  | x :: xs, acc => fun s => if w.ok s then (f acc x s).calm.bind (fun acc' => dcompLL f w xs acc') else .bad
/-- the walk's end: a dict that was walked is free again -/
def unlk (w : Wk) (s : Sto) : Sto := match w.lk with
  | some n => match s[n]? with
    | some (.dic t _ kvs) => s.set n (.dic t false kvs)
    | _ => s
  | none => s
/-- no dict is walked -/
def M.nolk {α : Type} (w : Wk) (m : M α) : M α := fun s => if w.lk = none then m s else .bad
/-- a part of a formatted text -/
def pieceT : D → Option Tx
  | .str s => some s
  | .int i => if i.natAbs.log2 < 1000 then some (intT i) else none
  | _ => none
def sliceD (d : D) (lo hi : Option Int) : Option D := match d with
  | .tup l => some (.tup (cutL l lo hi))
  | .lst l => some (.lst (cutL l lo hi))
  | .str l => if l.length ≤ line then some (.str (cutL l lo hi)) else none
  | .scr l => some (.lst ((cutL l lo hi).map .int))
  | _ => none
def revD : D → Option D
  | .lst l => some (.lst l.reverse)
  | _ => none
def intD : D → Option Int
  | .int i => some i
  | _ => none
def txD : D → Option Tx
  | .str s => some s
  | _ => none
def truD : D → Option Bool
  | .str s => some (!s.isEmpty)
  | .bl b => some b
  | _ => none
def pairUp : List D → List D → List (D × D)
  | k :: ks, v :: vs => (k, v) :: pairUp ks vs
  | _, _ => []
def mergeKv (kvs more : List (D × D)) : List (D × D) := more.foldl (fun acc kv => kput acc kv.1 kv.2) kvs
def atF (fs : List (Nat × D)) (k : Nat) : Option D := (fs.find? fun kv => kv.1 == k).map (·.2)
def putFl (fs : List (Nat × D)) (k : Nat) (v : D) : List (Nat × D) := match fs with
  | [] => [(k, v)]
  | p :: r => if p.1 == k then (k, v) :: r else p :: putFl r k v

mutual
def ev (G : Glo) : CE → Env → M D
  | .c d, _ => M.ret d
  | .g n, _ => M.ret (G.gl n)
  | .v i, ρ => M.opt (ρ[i]?).join
  | .op o a b, ρ => (ev G a ρ).bind fun x => (ev G b ρ).bind fun y => opM o x y
  | .neg a, ρ => (ev G a ρ).bind fun x => M.opt ((intD x).map fun i => .int (-i))
  | .not a, ρ => (ev G a ρ).bl.bind fun b => M.ret (.bl !b)
  | .and a b, ρ => (ev G a ρ).bl.bind fun k => match k with
    | true => ev G b ρ
    | false => M.ret (.bl false)
  | .or a b, ρ => (ev G a ρ).bl.bind fun k => match k with
    | true => M.ret (.bl true)
    | false => ev G b ρ
  | .orT a b, ρ => (ev G a ρ).bind fun x => match truD x with
    | some true => M.ret x
    | some false => ev G b ρ
    | none => M.bad
  | .ite t a b, ρ => (ev G t ρ).bl.bind fun k => match k with
    | true => ev G a ρ
    | false => ev G b ρ
  | .ch o o2 a b c, ρ => (ev G a ρ).bind fun x => (ev G b ρ).bind fun y => (opM o x y).bl.bind fun k => match k with
    | true => (ev G c ρ).bind fun z => opM o2 y z
    | false => M.ret (.bl false)
  | .tup es, ρ => (evs G es ρ).bind fun xs => M.ret (.tup xs)
  | .lst es, ρ => (evs G es ρ).bind fun xs => M.ret (.lst xs)
  | .ktup es, ρ => (evs G es ρ).bind fun xs => M.ret (.kt xs)
  | .new e, ρ => (ev G e ρ).bind fun x => match x with
    | .lst l => fun s => .ok (.ref s.length) (s ++ [.lst l])
    | _ => M.bad
  | .dict t ks vs, ρ => (evs G ks ρ).bind fun xs => (evs G vs ρ).bind fun ys => fun s =>
      if xs.all (keyOk t) = true then .ok (.ref s.length) (s ++ [.dic t false (mergeKv [] (pairUp xs ys))]) else .bad
  | .bi b es, ρ => (evs G es ρ).bind fun xs => biM b xs
  | .me m o es, ρ => (ev G o ρ).bind fun x => (meTy m x).bind fun _ => (evs G es ρ).bind fun xs => meM m x xs
  | .sl e lo hi, ρ => (ev G e ρ).bind fun x => (ev G lo ρ).bind fun i => (M.opt (intD i)).bind fun i => (ev G hi ρ).bind fun j => (M.opt (intD j)).bind fun j => fun s => M.opt (sliceD (rd s x) (some i) (some j)) s
  | .slLo e lo, ρ => (ev G e ρ).bind fun x => (ev G lo ρ).bind fun i => (M.opt (intD i)).bind fun i => fun s => M.opt (sliceD (rd s x) (some i) none) s
  | .slHi e hi, ρ => (ev G e ρ).bind fun x => (ev G hi ρ).bind fun j => (M.opt (intD j)).bind fun j => fun s => M.opt (sliceD (rd s x) none (some j)) s
  | .rev e, ρ => (ev G e ρ).bind fun x => fun s => M.opt (revD (rd s x)) s
  | .fstr es, ρ => (evj G es [] ρ).bind fun t => M.ret (.str t)
  | .call f es, ρ => (evs G es ρ).bind fun xs => G.fn f xs
  | .callv e es, ρ => (ev G e ρ).bind fun x => (evs G es ρ).bind fun xs => match x with
    | .fn f => G.fn f xs
    | _ => M.bad
  | .gin neg n e, ρ => (ev G e ρ).bind fun x => M.opt ((txD x).map fun t => .bl (if neg then !((G.dct n).lookup t).isSome else ((G.dct n).lookup t).isSome))
  | .gget n e, ρ => (ev G e ρ).bind fun x => M.opt ((txD x).bind fun t => (G.dct n).lookup t)
  | .ggetD n e d, ρ => (ev G e ρ).bind fun x => (ev G d ρ).bind fun y => M.opt ((txD x).map fun t => ((G.dct n).lookup t).getD y)
  | .at o k, ρ => (ev G o ρ).bind fun x => fun s => match x with
    | .ref n => match s[n]? with
      | some (.ins _ fs) => M.opt (atF fs k) s
      | _ => .bad
    | _ => .bad
  | .ownm c f o es, ρ => (ev G o ρ).bind fun x => (evs G es ρ).bind fun xs => fun s => match x with
    | .ref n => match s[n]? with
      | some (.ins c' _) => if c' = c then G.fn f (x :: xs) s else .bad
      | _ => .bad
    | _ => .bad
  | .make c f es, ρ => (evs G es ρ).bind fun xs => fun s => (G.fn f (.ref s.length :: xs) (s ++ [.ins c []])).bind fun r => match r with
    | .non => M.ret (.ref s.length)
    | _ => M.bad
  | .comp e tg it cnd, ρ => (evi G it ρ).bind fun w => M.nolk w ((compL (fun x s => match bindT tg x (wipeE ρ tg.slots) with
      | some ρ' => ((ev G cnd ρ').bl.bind fun k => match k with
        | true => (ev G e ρ').bind fun y => M.ret (some y)
        | false => M.ret none) s
      | none => .bad) w w.its []).bind fun l => M.ret (.lst l))
  | .comp2 e tg it cnd tg2 it2 cnd2, ρ => (evi G it ρ).bind fun w => M.nolk w ((compLL (fun acc x s => match bindT tg x (wipeE (wipeE ρ tg2.slots) tg.slots) with
      | some ρ' => ((ev G cnd ρ').bl.bind fun k => match k with
        | true => (evi G it2 ρ').bind fun w2 => M.nolk w2 (compL (fun x2 s => match bindT tg2 x2 (wipeE ρ' tg2.slots) with
          | some ρ2 => ((ev G cnd2 ρ2).bl.bind fun k => match k with
            | true => (ev G e ρ2).bind fun y => M.ret (some y)
            | false => M.ret none) s
          | none => .bad) w2 w2.its acc)
        | false => M.ret acc) s
      | none => .bad) w w.its []).bind fun l => M.ret (.lst l))
  | .dcomp t k e tg it cnd, ρ => (evi G it ρ).bind fun w => M.nolk w ((dcompL t (fun x s => match bindT tg x (wipeE ρ tg.slots) with
      | some ρ' => ((ev G cnd ρ').bl.bind fun b => match b with
        | true => (ev G k ρ').bind fun kx => (ev G e ρ').bind fun y => M.ret (some (kx, y))
        | false => M.ret none) s
      | none => .bad) w w.its []).bind fun l => fun s => .ok (.ref s.length) (s ++ [.dic t false l]))
  | .dcomp2 t k e tg it cnd tg2 it2 cnd2, ρ => (evi G it ρ).bind fun w => M.nolk w ((dcompLL (fun acc x s => match bindT tg x (wipeE (wipeE ρ tg2.slots) tg.slots) with
      | some ρ' => ((ev G cnd ρ').bl.bind fun b => match b with
        | true => (evi G it2 ρ').bind fun w2 => M.nolk w2 (dcompL t (fun x2 s => match bindT tg2 x2 (wipeE ρ' tg2.slots) with
          | some ρ2 => ((ev G cnd2 ρ2).bl.bind fun b => match b with
            | true => (ev G k ρ2).bind fun kx => (ev G e ρ2).bind fun y => M.ret (some (kx, y))
            | false => M.ret none) s
          | none => .bad) w2 w2.its acc)
        | false => M.ret acc) s
      | none => .bad) w w.its []).bind fun l => fun s => .ok (.ref s.length) (s ++ [.dic t false l]))
  | .lzip es, ρ => (evs G es ρ).bind fun xs => fun s => match seqsOf (xs.map (rd s)) with
    | some ls => M.opt ((zipL ls).map .lst) s
    | none => .bad
  | .said f e, ρ => G.sd f (ev G e ρ)
  | .th, _ => G.th
  | .isx k e, ρ => (ev G e ρ).bind fun x => match x with
    | .exv c => M.ret (.bl (isxB k c))
    | _ => M.bad
def evs (G : Glo) : CEs → Env → M (List D)
  | .nil, _ => M.ret []
  | .cons e es, ρ => (ev G e ρ).bind fun x => (evs G es ρ).bind fun xs => M.ret (x :: xs)
/-- the parts of a formatted text, one behind the other -/
def evj (G : Glo) : CEs → Tx → Env → M Tx
  | .nil, acc, _ => M.ret acc
  | .cons e es, acc, ρ => (ev G e ρ).bind fun x => (M.opt (pieceT x)).bind fun t => if acc.length + t.length ≤ line then evj G es (acc ++ t) ρ else M.bad
/-- what is walked -/
def evi (G : Glo) : IT → Env → M Wk
  | .seq e, ρ => (ev G e ρ).bind fun x => fun s => match x with
    | .ref n => match s[n]? with
      | some (.lst l) => .ok ⟨l, [(n, l)], none⟩ s
      | _ => .bad
    | x => M.opt ((seqOf x).map fun l => ⟨l, [], none⟩) s
  | .keys e, ρ => (ev G e ρ).bind fun x => fun s => match x with
    | .ref n => match s[n]? with
      | some (.dic t false kvs) => .ok ⟨kvs.map (·.1), [], some n⟩ (s.set n (.dic t true kvs))
      | _ => .bad
    | _ => .bad
  | .rng1 a, ρ => (ev G a ρ).bind fun x => M.opt (match x with
    | .int j => if small62 j then some ⟨rngL 0 j.toNat, [], none⟩ else none
    | _ => none)
  | .rng2 a b, ρ => (ev G a ρ).bind fun x => (ev G b ρ).bind fun y => M.opt (match x, y with
    | .int i, .int j => if small62 i && small62 j then some ⟨rngL i (j - i).toNat, [], none⟩ else none
    | _, _ => none)
  | .rng3 a b c, ρ => (ev G a ρ).bind fun x => (ev G b ρ).bind fun y => (ev G c ρ).bind fun z => M.opt (match x, y, z with
    | .int i, .int j, .int k => if PySem.Builtin.Range.small i j k && (decide (k ≠ 0) && decide (k.natAbs < 1000)) then some ⟨rngC i k (rngN i j k), [], none⟩ else none
    | _, _, _ => none)
  | .zip es, ρ => (evs G es ρ).bind fun xs => M.opt ((seqsOf xs).bind fun ls => (zipL ls).map fun l => ⟨l, [], none⟩)
  | .enum e, ρ => (ev G e ρ).bind fun x => M.opt ((seqOf x).map fun l => ⟨enumL l 0, [], none⟩)
  | .items e, ρ => (ev G e ρ).bind fun x => fun s => match x with
    | .ref n => match s[n]? with
      | some (.dic t false kvs) => .ok ⟨kvs.map fun kv => .tup [kv.1, kv.2], [], some n⟩ (s.set n (.dic t true kvs))
      | _ => .bad
    | _ => .bad
  | .vals e, ρ => (ev G e ρ).bind fun x => fun s => match x with
    | .ref n => match s[n]? with
      | some (.dic t false kvs) => .ok ⟨kvs.map (·.2), [], some n⟩ (s.set n (.dic t true kvs))
      | _ => .bad
    | _ => .bad
end

/-! ### statements -/
mutual
inductive CS where
  | asg (tg : Tg) (e : CE)
  | ex (e : CE) | ret (e : CE) | retN
  | ite (c : CE) (a b : CSs)
  | loop (tg : Tg) (it : IT) (b : CSs)
  | whl (c : CE) (b : CSs)
  | rse (c : Nat)
  | seti (o i e : CE)
  | setL (o i e : CE)
  | setD (o i e : CE)
  | seta (o : CE) (k : Nat) (e : CE)
  | tr (b : CSs) (k : Nat) (n : List Nat) (h : CSs)
  | cont | pass
inductive CSs where
  | nil | cons (s : CS) (r : CSs)
end
inductive RS where
  | nx (ρ : Env) (s : Sto)
  | rt (d : D) (s : Sto)
  | ct (ρ : Env) (s : Sto)
  | exc (c : Nat) (ρ : Env) (s : Sto)
  | bad
def RS.of {α : Type} (r : R α) (ρ : Env) (k : α → Sto → RS) : RS := match r with
  | .ok a s => k a s
  | .exc c s => .exc c ρ s
  | .bad => .bad
def RS.then (r : RS) (k : Env → Sto → RS) : RS := match r with
  | .nx ρ s => k ρ s
  | r => r
/-- where nothing may be raised -/
def RS.calm : RS → RS
  | .exc _ _ _ => .bad
  | r => r
/-- behind a loop's turn -/
def RS.turn (r : RS) (k : Env → Sto → RS) : RS := match r with
  | .nx ρ s => k ρ s
  | .ct ρ s => k ρ s
  | r => r
def forL (f : D → Env → Sto → RS) (w : Wk) : List D → Env → Sto → RS
  | [], ρ, s => if w.ok s then .nx ρ s else .bad
  | x :: xs, ρ, s => if w.ok s then (f x ρ s).turn (forL f w xs) else .bad
def whlL (c : Env → M Bool) (b : Env → Sto → RS) : Nat → Env → Sto → RS
  | 0, _, _ => .bad
  | n + 1, ρ, s => RS.of (c ρ s) ρ fun k s => match k with
    | true => (b ρ s).turn (whlL c b n)
    | false => .nx ρ s
/-- a while's turns, at most -/
def turns : Nat := 1000000
def setM (o i x : D) : M Unit := fun s => match o with
  | .ref n => match s[n]? with
    | some (.lst l) => match i with
      | .int k => match ixN l.length k with
        | some j => .ok () (s.set n (.lst (l.set j x)))
        | none => .bad
      | _ => .bad
    | some (.dic t false kvs) => if keyOk t i = true ∧ kvs.length < line then .ok () (s.set n (.dic t false (kput kvs i x))) else .bad
    | _ => .bad
  | _ => .bad
def setLM (o i x : D) : M Unit := fun s => match o with
  | .ref n => match s[n]? with
    | some (.lst l) => match i with
      | .int k => match ixN l.length k with
        | some j => .ok () (s.set n (.lst (l.set j x)))
        | none => .bad
      | _ => .bad
    | _ => .bad
  | _ => .bad
def setDM (o i x : D) : M Unit := fun s => match o with
  | .ref n => match s[n]? with
    | some (.dic t false kvs) => if keyOk t i = true ∧ kvs.length < line then .ok () (s.set n (.dic t false (kput kvs i x))) else .bad
    | _ => .bad
  | _ => .bad
def setF (o : D) (k : Nat) (x : D) : M Unit := fun s => match o with
  | .ref n => match s[n]? with
    | some (.ins c fs) => if fs.length < 100 then .ok () (s.set n (.ins c (putFl fs k x))) else .bad
    | _ => .bad
  | _ => .bad
mutual
def evS (G : Glo) : CS → Env → Sto → RS
  | .asg tg e, ρ, s => RS.of (ev G e ρ s) ρ fun x s => match bindT tg x ρ with
    | some ρ' => .nx ρ' s
    | none => .bad
  | .ex e, ρ, s => RS.of (ev G e ρ s) ρ fun _ s => .nx ρ s
  | .ret e, ρ, s => RS.of (ev G e ρ s) ρ fun x s => .rt x s
  | .retN, _, s => .rt .non s
  | .ite c a b, ρ, s => RS.of ((ev G c ρ).bl s) ρ fun k s => match k with
    | true => evSs G a ρ s
    | false => evSs G b ρ s
  | .loop tg it b, ρ, s => RS.of (evi G it ρ s) ρ fun w s => if w.lk = none then forL (fun x ρ s => match bindT tg x ρ with
    | some ρ' => evSs G b ρ' s
    | none => .bad) w w.its ρ s else .bad
  | .whl c b, ρ, s => whlL (fun ρ => (ev G c ρ).bl) (fun ρ s => evSs G b ρ s) turns ρ s
  | .rse c, ρ, s => .exc c ρ s
  | .seti o i e, ρ, s => RS.of (((ev G e ρ).bind fun x => (ev G o ρ).bind fun y => (ev G i ρ).bind fun z => setM y z x) s) ρ fun _ s => .nx ρ s
  | .setL o i e, ρ, s => RS.of (((ev G e ρ).bind fun x => (ev G o ρ).bind fun y => (ev G i ρ).bind fun z => setLM y z x) s) ρ fun _ s => .nx ρ s
  | .setD o i e, ρ, s => RS.of (((ev G e ρ).bind fun x => (ev G o ρ).bind fun y => (ev G i ρ).bind fun z => setDM y z x) s) ρ fun _ s => .nx ρ s
  | .seta o k e, ρ, s => RS.of (((ev G e ρ).bind fun x => (ev G o ρ).bind fun y => setF y k x) s) ρ fun _ s => .nx ρ s
  | .tr b k n h, ρ, s => match evSs G b ρ s with
    | .exc c ρ' s' => if c ∈ n then (if isxB (some k) c = true then (evSs G h ρ' s').calm else .exc c ρ' s') else .bad
    | r => r
  | .cont, ρ, s => .ct ρ s
  | .pass, ρ, s => .nx ρ s
def evSs (G : Glo) : CSs → Env → Sto → RS
  | .nil, ρ, s => .nx ρ s
  | .cons st r, ρ, s => (evS G st ρ s).then (evSs G r)
end

/-! ### defs -/
/-- what a def made and left behind is forgotten, where nothing speaks of it -/
def trunc (n : Nat) (d : D) (s : Sto) : R D :=
  if s.length = n then .ok d s
  else if (s.take n).all (MO.upto n) = true then
    if d.upto n = true then .ok d (s.take n)
    else match d with
      | .ref k => match s[k]? with
        | some (.lst l) => if D.uptos n l = true then .ok (.lst l) (s.take n) else .ok d s
        | _ => .ok d s
      | _ => .ok d s
  else .ok d s
def truncE (n : Nat) (c : Nat) (s : Sto) : R D :=
  if s.length = n then .exc c s else if (s.take n).all (MO.upto n) = true then .exc c (s.take n) else .exc c s
def finS (k : Bool) (n : Nat) : RS → R D
  | .nx _ s => if k then .ok .non s else trunc n .non s
  | .rt d s => if k then .ok d s else trunc n d s
  | .ct _ _ => .bad
  | .exc c _ s => if k then .exc c s else truncE n c s
  | .bad => .bad
structure Def where
  /-- how many names it has, the parameters first -/
  nn : Nat
  /-- how many parameters, the defaults that fill up -/
  np : Nat
  /-- what it made stays in the store -/
  keep : Bool
  body : CSs
def env0 (nn : Nat) (ds : List D) : Env := ds.map some ++ List.replicate (nn - ds.length) none
def evDef (G : Glo) (d : Def) (ds : List D) : M D := fun s =>
  if ds.length = d.np then finS d.keep s.length (evSs G d.body (env0 d.nn ds) s) else .bad
/-- what a def makes of the lambda that it calls: a list with what it gives, its repr, itself; of an exception what the def w makes of it, None; n: the classes -/
inductive Sk where
  | lst (w : Nat) (n : List Nat) | rep (w : Nat) (n : List Nat) | non (n : List Nat)
def hotM (G : Glo) (w : Nat) (n : List Nat) (c : Nat) : M D := fun s => if c ∈ n then match G.fn w [.exv c] [] with
  | .ok (.str t) _ => .ok (.str t) s
  | _ => .bad else .bad
def sdM (G : Glo) (k : Sk) (m : M D) : M D := fun s => match k with
  | .lst w n => match m s with
    | .ok a s' => .ok (.lst [a]) s'
    | .exc c s' => hotM G w n c s'
    | .bad => .bad
  | .rep w n => match m s with
    | .ok a s' => biM .repr [a] s'
    | .exc c s' => hotM G w n c s'
    | .bad => .bad
  | .non n => match m s with
    | .ok a s' => .ok a s'
    | .exc c s' => if c ∈ n then .ok .non s' else .bad
    | .bad => .bad
/-- a program: its defs by number, its constants, what its lambdas' callers are -/
structure Prg where
  defs : Nat → Option Def
  gl : Nat → D
  dct : Nat → List (Tx × D)
  sk : Nat → Option Sk
/-- nothing is known -/
def gBad (P : Prg) : Glo := ⟨fun _ _ => M.bad, P.gl, P.dct, fun _ _ => M.bad, M.bad⟩
def sdOf (P : Prg) (G0 : Glo) (i : Nat) (m : M D) : M D := match P.sk i with
  | some z => sdM G0 z m
  | none => M.bad
/-- .. with so many levels of calls -/
def glo (P : Prg) : Nat → Glo
  | 0 => ⟨fun _ _ => M.bad, P.gl, P.dct, sdOf P (gBad P), M.bad⟩
  | k + 1 => ⟨fun i ds => match P.defs i with
      | some d => evDef (glo P k) d ds
      | none => M.bad, P.gl, P.dct, sdOf P (glo P k), M.bad⟩
/-- a level less -/
def gloP (P : Prg) : Nat → Glo
  | 0 => gBad P
  | k + 1 => glo P k
theorem glo_sd {P : Prg} {k i : Nat} {z : Sk} (h : P.sk i = some z) : (glo P k).sd i = sdM (gloP P k) z := by
  cases k <;> (funext m; show sdOf P _ i m = _; unfold sdOf; rw [h]; rfl)
theorem glo_dct {P : Prg} {k n : Nat} : (glo P k).dct n = P.dct n := by cases k <;> rfl
theorem glo_gl {P : Prg} {k n : Nat} : (glo P k).gl n = P.gl n := by cases k <;> rfl
end PZ
end
section
/-! Rep: what the abstract heap shows of data and of a store. -/
set_option linter.all false
set_option maxRecDepth 100000
set_option Elab.async false
namespace PZ
open PySem PySem.Spec PyProof.Rows L2

/-- what stands fixed in a law: the written part, where the defs and classes stand, the names of attributes, the tables of code objects -/
structure Wl where
  K : PySem.W.Frag
  fad : Nat → Addr
  cad : Nat → Addr
  att : Nat → Str
  T : List (Addr × Str)
  /-- the exception that a suite holds, its class -/
  hx : Option (Addr × Nat)

/-- where the store's objects stand, and lists that no value means (a comprehension's own while it grows) -/
structure Gh where
  l : List Addr
  h : List Addr
instance : Membership Addr Gh := ⟨fun g a => a ∈ g.l ∨ a ∈ g.h⟩
theorem Gh.mem {m : Gh} {n : Nat} {a : Addr} (h : m.l[n]? = some a) : a ∈ m.l := List.mem_of_getElem? h
theorem Gh.memG {m : Gh} {n : Nat} {a : Addr} (h : m.l[n]? = some a) : a ∈ m := .inl (List.mem_of_getElem? h)
def Gh.push (m : Gh) (p : Addr) : Gh := ⟨m.l ++ [p], m.h⟩
def Gh.hide (m : Gh) (p : Addr) : Gh := ⟨m.l, p :: m.h⟩
def Gh.show_ (m : Gh) (p : Addr) : Gh := ⟨m.l, m.h.filter (· ≠ p)⟩
theorem Gh.mem_push {m : Gh} {p a : Addr} : a ∈ m.push p ↔ a ∈ m ∨ a = p := by
  show (a ∈ m.l ++ [p] ∨ a ∈ m.h) ↔ (a ∈ m.l ∨ a ∈ m.h) ∨ a = p
  simp only [List.mem_append, List.mem_singleton]
  grind
theorem Gh.mem_hide {m : Gh} {p a : Addr} : a ∈ m.hide p ↔ a ∈ m ∨ a = p := by
  show (a ∈ m.l ∨ a ∈ p :: m.h) ↔ (a ∈ m.l ∨ a ∈ m.h) ∨ a = p
  simp only [List.mem_cons]
  grind
theorem Gh.mem_show {m : Gh} {p a : Addr} (h : a ∈ m.show_ p) : a ∈ m := by
  rcases h with h | h
  · exact .inl h
  · exact .inr (List.mem_filter.mp h).1
def TupAt (K : PySem.W.Frag) (m : Gh) (H : Hp) (a : Addr) (xs : List V) : Prop :=
  (a ∉ m ∧ Rd H a (.tup xs)) ∨ ∃ (o : Obj) (its : Array Value) (n : Nat), K.lookup a = some o ∧ o.cls = .type "tuple" ∧ o.data = .seq its n ∧ its.size ≤ sizeLine ∧ Vals xs its.toList
/-- where the script stands -/
def ScrAt (K : PySem.W.Frag) (m : Gh) (H : Hp) (a : Addr) (ns : List Int) : Prop :=
  (a ∉ m ∧ ∃ o : Obj, H a = some (.frz o (.lst (ns.map V.int)))) ∨ ∃ (o : Obj) (its : Array Value) (n : Nat), K.lookup a = some o ∧ o.cls = .type "list" ∧ o.dict = none ∧ o.data = .seq its n ∧ its.size ≤ sizeLine ∧ Vals (ns.map V.int) its.toList
theorem ScrAt.sq {K : PySem.W.Frag} {m : Gh} {H : Hp} {a : Addr} {ns : List Int} (h : ScrAt K m H a ns) : SqL K H a (ns.map V.int) := by
  rcases h with ⟨_, o, h⟩ | h
  · exact .inl (.inr ⟨o, h⟩)
  · exact .inr h
theorem TupAt.sq {K : PySem.W.Frag} {m : Gh} {H : Hp} {a : Addr} {xs : List V} (h : TupAt K m H a xs) : SqT K H a xs := by
  rcases h with h | h
  · exact .inl h.2
  · exact .inr h

mutual
inductive Rep (W : Wl) (m : Gh) (H : Hp) : V → D → Prop
  | non : Rep W m H .non .non
  | bl (b : Bool) : Rep W m H (.bl b) (.bl b)
  | int (i : Int) : Rep W m H (.int i) (.int i)
  | str {x : Str} {s : Tx} : x.cps.toList = s → x.cps.all (· < 0x110000) = true → Rep W m H (.str x) (.str s)
  | tup {a : Addr} {xs : List V} {ds : List D} : TupAt W.K m H a xs → Reps W m H xs ds → Rep W m H (.ref a) (.tup ds)
  | lst {a : Addr} {xs : List V} {ds : List D} : a ∉ m → H a = some (.lst xs) → Reps W m H xs ds → Rep W m H (.ref a) (.lst ds)
  | kt {a : Addr} {xs : List V} {ds : List D} : a ∉ m → H a = some (.tup xs) → Reps W m H xs ds → Rep W m H (.ref a) (.kt ds)
  | scr {a : Addr} {ns : List Int} : ScrAt W.K m H a ns → Rep W m H (.ref a) (.scr ns)
  | ref {n : Nat} {a : Addr} : m.l[n]? = some a → Rep W m H (.ref a) (.ref n)
  | fn {n : Nat} : Rep W m H (.ref (W.fad n)) (.fn n)
  | exv {a : Addr} {c : Nat} : W.hx = some (a, c) → Rep W m H (.ref a) (.exv c)
inductive Reps (W : Wl) (m : Gh) (H : Hp) : List V → List D → Prop
  | nil : Reps W m H [] []
  | cons {v : V} {vs : List V} {d : D} {ds : List D} : Rep W m H v d → Reps W m H vs ds → Reps W m H (v :: vs) (d :: ds)
end

/-- nothing but a table stood there -/
def New (H : Hp) (a : Addr) : Prop := ∀ o, H a = some o → ∃ ps, o = .tbl ps
theorem New.none {H : Hp} {a : Addr} (h : H a = .none) : New H a := fun o e => by rw [h] at e; cases e
theorem New.not {H : Hp} {a : Addr} {o : HO} (h : New H a) (e : H a = some o) (n : ∀ ps, o ≠ .tbl ps) : False := let ⟨ps, q⟩ := h o e; n ps q
/-- from the one state to the other one -/
structure Ext (m : Gh) (H : Hp) (m' : Gh) (H' : Hp) : Prop where
  pre : ∃ k, m'.l = m.l ++ k
  hid : ∀ a ∈ m.h, a ∈ m'.h
  keepL : ∀ a o, H a = some o → a ∉ m.l → (∀ ps, o ≠ .tbl ps) → H' a = some o
  there : ∀ a o, H a = some o → (∀ ps, o ≠ .tbl ps) → ∃ o', H' a = some o' ∧ ∀ ps, o' ≠ .tbl ps
  freshL : ∀ a ∈ m'.l, a ∈ m.l ∨ New H a
  freshH : ∀ a ∈ m'.h, a ∈ m.h ∨ New H a
section
variable {W : Wl} {m m' m1 m2 : Gh} {H H' H1 H2 : Hp}
theorem Ext.refl (m : Gh) (H : Hp) : Ext m H m H := ⟨⟨[], by simp⟩, fun _ h => h, fun _ _ e _ _ => e, fun _ o e n => ⟨o, e, n⟩, fun _ h => .inl h, fun _ h => .inl h⟩
theorem Ext.keep (x : Ext m H m' H') : ∀ a o, H a = some o → a ∉ m → (∀ ps, o ≠ .tbl ps) → H' a = some o := fun a o e h n => x.keepL a o e (fun z => h (.inl z)) n
theorem Ext.fresh (x : Ext m H m' H') : ∀ a ∈ m', a ∈ m ∨ New H a := fun a h => by
  rcases h with h | h
  · rcases x.freshL a h with h | h
    · exact .inl (.inl h)
    · exact .inr h
  · rcases x.freshH a h with h | h
    · exact .inl (.inr h)
    · exact .inr h
theorem Ext.out (x : Ext m H m' H') {a : Addr} {o : HO} (e : H a = some o) (h : a ∉ m) (n : ∀ ps, o ≠ .tbl ps := by exact fun _ q => nomatch q) : a ∉ m' := fun z => by
  rcases x.fresh a z with z | z
  · exact h z
  · exact z.not e n
theorem New.back (x : Ext m H m' H') {a : Addr} (h : New H' a) : New H a := fun o e => by
  rcases Classical.em (∃ ps, o = .tbl ps) with z | z
  · exact z
  · obtain ⟨o', e', n'⟩ := x.there a o e fun ps q => z ⟨ps, q⟩
    exact (h.not e' n').elim
theorem Ext.trans (x : Ext m H m1 H1) (y : Ext m1 H1 m2 H2) : Ext m H m2 H2 where
  pre := by
    obtain ⟨k, ek⟩ := x.pre
    obtain ⟨l, el⟩ := y.pre
    exact ⟨k ++ l, by rw [el, ek, List.append_assoc]⟩
  hid := fun a h => y.hid a (x.hid a h)
  keepL := fun a o e h n => y.keepL a o (x.keepL a o e h n) (fun z => by
    rcases x.freshL a z with z | z
    · exact h z
    · exact z.not e n) n
  there := fun a o e n => let ⟨o', e', n'⟩ := x.there a o e n; y.there a o' e' n'
  freshL := fun a h => by
    rcases y.freshL a h with h | h
    · exact x.freshL a h
    · exact .inr (h.back x)
  freshH := fun a h => by
    rcases y.freshH a h with h | h
    · exact x.freshH a h
    · exact .inr (h.back x)
theorem Ext.get (x : Ext m H m' H') {n : Nat} {a : Addr} (h : m.l[n]? = some a) : m'.l[n]? = some a := by
  obtain ⟨k, e⟩ := x.pre
  rw [e, List.getElem?_append_left (List.getElem?_eq_some_iff.mp h).1]
  exact h
theorem ScrAt.ext {K : PySem.W.Frag} {a : Addr} {ns : List Int} (h : ScrAt K m H a ns) (x : Ext m H m' H') : ScrAt K m' H' a ns := by
  rcases h with ⟨h, o, e⟩ | h
  · exact .inl ⟨x.out e h, o, x.keep _ _ e h fun _ q => nomatch q⟩
  · exact .inr h
theorem TupAt.ext {K : PySem.W.Frag} {a : Addr} {xs : List V} (h : TupAt K m H a xs) (x : Ext m H m' H') : TupAt K m' H' a xs := by
  rcases h with ⟨h1, h2 | ⟨o, h2⟩⟩ | h
  · exact .inl ⟨x.out h2 h1, .inl (x.keep _ _ h2 h1 fun _ q => nomatch q)⟩
  · exact .inl ⟨x.out h2 h1, .inr ⟨o, x.keep _ _ h2 h1 fun _ q => nomatch q⟩⟩
  · exact .inr h
mutual
theorem Rep.ext (x : Ext m H m' H') : ∀ {v : V} {d : D}, Rep W m H v d → Rep W m' H' v d
  | _, _, .non => .non
  | _, _, .bl b => .bl b
  | _, _, .int i => .int i
  | _, _, .str e h => .str e h
  | _, _, .tup h r => .tup (h.ext x) (Reps.ext x r)
  | _, _, .lst h e r => .lst (x.out e h) (x.keep _ _ e h fun _ q => nomatch q) (Reps.ext x r)
  | _, _, .kt h e r => .kt (x.out e h) (x.keep _ _ e h fun _ q => nomatch q) (Reps.ext x r)
  | _, _, .scr h => .scr (h.ext x)
  | _, _, .ref h => .ref (x.get h)
  | _, _, .fn => .fn
  | _, _, .exv h => .exv h
theorem Reps.ext (x : Ext m H m' H') : ∀ {vs : List V} {ds : List D}, Reps W m H vs ds → Reps W m' H' vs ds
  | _, _, .nil => .nil
  | _, _, .cons r t => .cons (Rep.ext x r) (Reps.ext x t)
end
theorem Reps.length : ∀ {vs : List V} {ds : List D}, Reps W m H vs ds → vs.length = ds.length
  | _, _, .nil => rfl
  | _, _, .cons _ t => by simp [Reps.length t]
theorem Reps.get : ∀ {vs : List V} {ds : List D} {i : Nat} {d : D}, Reps W m H vs ds → ds[i]? = some d → ∃ v, vs[i]? = some v ∧ Rep W m H v d
  | _, _, _, _, .nil, e => by simp at e
  | _, _, 0, _, .cons r _, e => by simp at e; subst e; exact ⟨_, rfl, r⟩
  | _, _, i + 1, _, .cons _ t, e => by
    obtain ⟨v, h1, h2⟩ := Reps.get (i := i) t (by simpa using e)
    exact ⟨v, by simpa using h1, h2⟩
theorem Reps.getV : ∀ {vs : List V} {ds : List D} {i : Nat} {v : V}, Reps W m H vs ds → vs[i]? = some v → ∃ d, ds[i]? = some d ∧ Rep W m H v d
  | _, _, _, _, .nil, e => by simp at e
  | _, _, 0, _, .cons r _, e => by simp at e; subst e; exact ⟨_, rfl, r⟩
  | _, _, i + 1, _, .cons _ t, e => by
    obtain ⟨v, h1, h2⟩ := Reps.getV (i := i) t (by simpa using e)
    exact ⟨v, by simpa using h1, h2⟩
theorem Reps.append : ∀ {vs ws : List V} {ds es : List D}, Reps W m H vs ds → Reps W m H ws es → Reps W m H (vs ++ ws) (ds ++ es)
  | _, _, _, _, .nil, s => s
  | _, _, _, _, .cons r t, s => .cons r (Reps.append t s)
theorem Reps.take : ∀ {vs : List V} {ds : List D} (n : Nat), Reps W m H vs ds → Reps W m H (vs.take n) (ds.take n)
  | _, _, 0, _ => .nil
  | _, _, _ + 1, .nil => .nil
  | _, _, n + 1, .cons r t => .cons r (Reps.take n t)
theorem Reps.drop : ∀ {vs : List V} {ds : List D} (n : Nat), Reps W m H vs ds → Reps W m H (vs.drop n) (ds.drop n)
  | _, _, 0, r => r
  | _, _, _ + 1, .nil => .nil
  | _, _, n + 1, .cons _ t => Reps.drop n t
theorem Reps.reverse {vs : List V} {ds : List D} (r : Reps W m H vs ds) : Reps W m H vs.reverse ds.reverse := by
  induction vs generalizing ds with
  | nil => cases r; exact .nil
  | cons v vs ih =>
    cases r with
    | cons r t =>
      simp only [List.reverse_cons]
      exact (ih t).append (.cons r .nil)
theorem Reps.set {v : V} {d : D} (r : Rep W m H v d) : ∀ {vs : List V} {ds : List D} (i : Nat), Reps W m H vs ds → Reps W m H (vs.set i v) (ds.set i d)
  | _, _, _, .nil => .nil
  | _, _, 0, .cons _ t => .cons r t
  | _, _, i + 1, .cons q t => .cons q (Reps.set r i t)
theorem Reps.eraseIdx : ∀ {vs : List V} {ds : List D} (i : Nat), Reps W m H vs ds → Reps W m H (vs.eraseIdx i) (ds.eraseIdx i)
  | _, _, _, .nil => .nil
  | _, _, 0, .cons _ t => t
  | _, _, i + 1, .cons q t => .cons q (Reps.eraseIdx i t)
theorem Reps.dropLast {vs : List V} {ds : List D} (r : Reps W m H vs ds) : Reps W m H vs.dropLast ds.dropLast := by
  rw [List.dropLast_eq_take, List.dropLast_eq_take, r.length]
  exact r.take _
theorem Reps.rep {vs : List V} {ds : List D} (r : Reps W m H vs ds) : ∀ n : Nat, Reps W m H (List.replicate n vs).flatten (List.replicate n ds).flatten
  | 0 => .nil
  | n + 1 => by
    rw [List.replicate_succ, List.replicate_succ, List.flatten_cons, List.flatten_cons]
    exact r.append (Reps.rep r n)

/-! ### the store -/
def KeyR : Key → D → Prop
  | .inl i, .int j => i = j
  | .inr x, .str s => x.cps.toList = s ∧ x.cps.all (· < 0x110000) = true
  | _, _ => False
abbrev KeyRs : List Key → List D → Prop := Paired KeyR
def RepO (W : Wl) (m : Gh) (H : Hp) (a : Addr) : MO → Prop
  | .lst l => ∃ xs, H a = some (.lst xs) ∧ Reps W m H xs l
  | .dic false lk kvs => ∃ ks : List (Key × V), (if lk = true then ∃ o, H a = some (.frz o (.dK ks)) else H a = some (.dK ks)) ∧ Paired (fun p q => KeyR p.1 q.1 ∧ Rep W m H p.2 q.2) ks kvs
  | .dic true lk kvs => ∃ ks : List (List Key × V), (if lk = true then ∃ o, H a = some (.frz o (.dT ks)) else H a = some (.dT ks)) ∧ Paired (fun p q => (∃ l, q.1 = .kt l ∧ KeyRs p.1 l) ∧ Rep W m H p.2 q.2) ks kvs
  | .ins c fs => ∃ dx fl, H a = some (.ins (W.cad c) dx fl) ∧ Paired (fun p q => p.1 = W.att q.1 ∧ Rep W m H p.2 q.2) fl fs
/-- what stands at an object of the store is no table and no other thing -/
def plainO : HO → Bool
  | .lst _ => true
  | .dK _ => true
  | .dT _ => true
  | .frz _ _ => true
  | .ins _ _ _ => true
  | .tup _ => true
  | .own _ => true
  | _ => false
structure RepS (W : Wl) (m : Gh) (H : Hp) (S : Sto) : Prop where
  len : m.l.length = S.length
  nd : m.l.Nodup
  hid : ∀ a ∈ m.h, a ∉ m.l ∧ ∃ u, H a = some u ∧ plainO u = true
  obj : ∀ (n : Nat) a o, m.l[n]? = some a → S[n]? = some o → RepO W m H a o
  tab : LamX.Tabs W.T H
theorem pimp {α β : Type} {F G : α → β → Prop} (f : ∀ a b, F a b → G a b) : ∀ {l₁ : List α} {l₂ : List β}, Paired F l₁ l₂ → Paired G l₁ l₂
  | _, _, .nil => .nil
  | _, _, .cons r t => .cons (f _ _ r) (pimp f t)
theorem RepO.ext {a : Addr} {o : MO} (r : RepO W m H a o) (x : Ext m H m' H') (e : H' a = H a) : RepO W m' H' a o := by
  cases o with
  | lst l => obtain ⟨xs, h, q⟩ := r; exact ⟨xs, e.trans h, q.ext x⟩
  | dic t lk kvs =>
    cases t with
    | false => obtain ⟨ks, h, q⟩ := r; exact ⟨ks, by rw [e]; exact h, pimp (fun _ _ z => ⟨z.1, z.2.ext x⟩) q⟩
    | true => obtain ⟨ks, h, q⟩ := r; exact ⟨ks, by rw [e]; exact h, pimp (fun _ _ z => ⟨z.1, z.2.ext x⟩) q⟩
  | ins c fs => obtain ⟨dx, fl, h, q⟩ := r; exact ⟨dx, fl, e.trans h, pimp (fun _ _ z => ⟨z.1, z.2.ext x⟩) q⟩
theorem RepO.some {a : Addr} {o : MO} (r : RepO W m H a o) : ∃ u, H a = some u ∧ plainO u = true := by
  cases o with
  | lst l => obtain ⟨xs, h, q⟩ := r; exact ⟨_, h, rfl⟩
  | dic t lk kvs =>
    cases t <;> obtain ⟨ks, h, q⟩ := r <;> cases lk
    · exact ⟨_, h, rfl⟩
    · obtain ⟨o, h⟩ := h; exact ⟨_, h, rfl⟩
    · exact ⟨_, h, rfl⟩
    · obtain ⟨o, h⟩ := h; exact ⟨_, h, rfl⟩
  | ins c fs => obtain ⟨dx, fl, h, q⟩ := r; exact ⟨_, h, rfl⟩
theorem RepS.at {S : Sto} (r : RepS W m H S) {n : Nat} {a : Addr} (h : m.l[n]? = some a) : ∃ o, S[n]? = some o ∧ RepO W m H a o := by
  have hl : n < S.length := by rw [← r.len]; exact (List.getElem?_eq_some_iff.mp h).1
  exact ⟨_, List.getElem?_eq_getElem hl, r.obj n a _ h (List.getElem?_eq_getElem hl)⟩
theorem RepS.addr {S : Sto} (r : RepS W m H S) {n : Nat} {o : MO} (h : S[n]? = some o) : ∃ a, m.l[n]? = some a ∧ RepO W m H a o := by
  have hl : n < m.l.length := by rw [r.len]; exact (List.getElem?_eq_some_iff.mp h).1
  exact ⟨_, List.getElem?_eq_getElem hl, r.obj n _ o (List.getElem?_eq_getElem hl) h⟩
theorem RepS.mem {S : Sto} (r : RepS W m H S) {a : Addr} (h : a ∈ m) : ∃ u, H a = some u ∧ plainO u = true := by
  rcases h with h | h
  · obtain ⟨n, hn⟩ := List.getElem?_of_mem h
    obtain ⟨o, _, q⟩ := r.at hn
    exact q.some
  · exact (r.hid a h).2
theorem RepS.out {S : Sto} (r : RepS W m H S) {p : Addr} (h : H p = none) : p ∉ m := fun z => by
  obtain ⟨u, e, _⟩ := r.mem z
  rw [h] at e; cases e
theorem ext_new {p : Addr} {o : HO} (h : H p = none) : Ext m H m (upd H p o) :=
  ⟨⟨[], by simp⟩, fun _ h => h, fun a u e _ _ => by rw [upd_ne (ne_of_none e h)]; exact e, fun a u e n => ⟨u, by rw [upd_ne (ne_of_none e h)]; exact e, n⟩, fun _ z => .inl z, fun _ z => .inl z⟩
theorem ext_push {p : Addr} {o : HO} (h : H p = none) : Ext m H (m.push p) (upd H p o) :=
  ⟨⟨[p], rfl⟩, fun _ h => h, fun a u e _ _ => by rw [upd_ne (ne_of_none e h)]; exact e, fun a u e n => ⟨u, by rw [upd_ne (ne_of_none e h)]; exact e, n⟩, fun a z => by
    rcases List.mem_append.mp (show a ∈ m.l ++ [p] from z) with z | z
    · exact .inl z
    · exact .inr (List.mem_singleton.mp z ▸ .none h), fun _ z => .inl z⟩
theorem ext_hide {p : Addr} {o : HO} (h : H p = none) : Ext m H (m.hide p) (upd H p o) :=
  ⟨⟨[], by simp [Gh.hide]⟩, fun _ h => List.mem_cons_of_mem _ h, fun a u e _ _ => by rw [upd_ne (ne_of_none e h)]; exact e, fun a u e n => ⟨u, by rw [upd_ne (ne_of_none e h)]; exact e, n⟩, fun _ z => .inl z, fun a z => by
    rcases List.mem_cons.mp z with z | z
    · exact .inr (z ▸ .none h)
    · exact .inl z⟩
theorem ext_put {a : Addr} {o : HO} (h : a ∈ m.l) (ho : ∀ ps, o ≠ .tbl ps := by exact fun _ q => nomatch q) : Ext m H m (upd H a o) :=
  ⟨⟨[], by simp⟩, fun _ h => h, fun b u e hb _ => by rw [upd_ne (fun z : b = a => hb (by rw [z]; exact h))]; exact e, fun b u e n => by
    by_cases z : b = a
    · subst z; exact ⟨o, upd_same, ho⟩
    · exact ⟨u, by rw [upd_ne z]; exact e, n⟩, fun _ z => .inl z, fun _ z => .inl z⟩
theorem plain_not {o : HO} (h : plainO o = true) : ∀ ps, o ≠ .tbl ps := fun ps q => by subst q; cases h
theorem tabs_new {T : List (Addr × Str)} {p : Addr} {o : HO} (t : LamX.Tabs T H) (h : H p = none) : LamX.Tabs T (upd H p o) :=
  t.ext fun b u e => by rw [upd_ne (ne_of_none e h)]; exact e
theorem tabs_put {T : List (Addr × Str)} {a : Addr} {o u : HO} (t : LamX.Tabs T H) (h : H a = some u) (hp : plainO u = true) : LamX.Tabs T (upd H a o) := fun q hq => by
  obtain ⟨ps, e, k, f⟩ := t q hq
  refine ⟨ps, ?_, k, fun pos cv hcv => ?_⟩
  · rw [upd_ne]; exact e
    rintro rfl; rw [h] at e; cases e; cases hp
  · obtain ⟨c, e1, e2⟩ := f pos cv hcv
    refine ⟨c, e1, ?_⟩
    rw [upd_ne]; exact e2
    rintro rfl; rw [h] at e2; cases e2; cases hp
theorem RepS.new {S : Sto} (r : RepS W m H S) {p : Addr} {o : HO} (h : H p = none) : RepS W m (upd H p o) S :=
  ⟨r.len, r.nd, fun a ha => ⟨(r.hid a ha).1, let ⟨u, e, q⟩ := (r.hid a ha).2; ⟨u, by rw [upd_ne (ne_of_none e h)]; exact e, q⟩⟩, fun n a u h1 h2 => (r.obj n a u h1 h2).ext (ext_new h) (upd_ne fun z => r.out h (z ▸ Gh.memG h1)), tabs_new r.tab h⟩
theorem RepS.hide {S : Sto} (r : RepS W m H S) {p : Addr} {o : HO} (h : H p = none) (ho : plainO o = true) : RepS W (m.hide p) (upd H p o) S := by
  refine ⟨r.len, r.nd, fun a ha => ?_, fun n a u h1 h2 => (r.obj n a u h1 h2).ext (ext_hide h) (upd_ne fun z => r.out h (z ▸ Gh.memG h1)), tabs_new r.tab h⟩
  rcases List.mem_cons.mp ha with ha | ha
  · subst ha
    exact ⟨fun z => r.out h (.inl z), o, upd_same, ho⟩
  · obtain ⟨h1, u, e, q⟩ := r.hid a ha
    exact ⟨h1, u, by rw [upd_ne (ne_of_none e h)]; exact e, q⟩
theorem RepS.push {S : Sto} (r : RepS W m H S) {p : Addr} {o : HO} {u : MO} (h : H p = none) (q : RepO W (m.push p) (upd H p o) p u) : RepS W (m.push p) (upd H p o) (S ++ [u]) := by
  refine ⟨by simp [Gh.push, r.len], ?_, fun a ha => ?_, fun n a v h1 h2 => ?_, tabs_new r.tab h⟩
  · show (m.l ++ [p]).Nodup
    rw [List.nodup_append]
    exact ⟨r.nd, by simp, fun x hx y hy => by rw [List.mem_singleton] at hy; rintro rfl; exact r.out h (hy ▸ .inl hx)⟩
  · obtain ⟨h1, u, e, q⟩ := r.hid a ha
    refine ⟨fun z => ?_, u, by rw [upd_ne (ne_of_none e h)]; exact e, q⟩
    rcases List.mem_append.mp z with z | z
    · exact h1 z
    · rw [List.mem_singleton] at z
      subst z; rw [h] at e; cases e
  · replace h1 : (m.l ++ [p])[n]? = some a := h1
    by_cases hn : n < m.l.length
    · rw [List.getElem?_append_left hn] at h1
      rw [List.getElem?_append_left (by rw [← r.len]; exact hn)] at h2
      exact (r.obj n a v h1 h2).ext (ext_push h) (upd_ne fun z => r.out h (z ▸ Gh.memG h1))
    · have e : n = m.l.length := by
        have := (List.getElem?_eq_some_iff.mp h1).1
        simp at this; omega
      subst e
      rw [List.getElem?_append_right (Nat.le_refl _), Nat.sub_self] at h1
      rw [r.len, List.getElem?_append_right (Nat.le_refl _), Nat.sub_self] at h2
      simp at h1 h2
      subst h1 h2
      exact q
theorem RepS.put {S : Sto} (r : RepS W m H S) {n : Nat} {a : Addr} {o : HO} {u : MO} (h : m.l[n]? = some a) (q : RepO W m (upd H a o) a u) : RepS W m (upd H a o) (S.set n u) := by
  have hm : a ∈ m := Gh.memG h
  obtain ⟨w, hw, hp⟩ := r.mem hm
  refine ⟨by simp [r.len], r.nd, fun b hb => ?_, fun k b v h1 h2 => ?_, tabs_put r.tab hw hp⟩
  · obtain ⟨g1, u, e, q⟩ := r.hid b hb
    exact ⟨g1, u, by rw [upd_ne (fun z : b = a => g1 (by rw [z]; exact List.mem_of_getElem? h))]; exact e, q⟩
  by_cases hk : k = n
  · subst hk
    rw [h] at h1; cases h1
    rw [List.getElem?_set_self (by rw [← r.len]; exact (List.getElem?_eq_some_iff.mp h).1)] at h2
    cases h2; exact q
  · rw [List.getElem?_set_ne (Ne.symm hk)] at h2
    refine (r.obj k b v h1 h2).ext (ext_put (Gh.mem h) (let ⟨u', e', z'⟩ := q.some; plain_not (by rw [upd_same] at e'; cases e'; exact z'))) (upd_ne fun z => hk ?_)
    subst z
    obtain ⟨i1, e1⟩ := List.getElem?_eq_some_iff.mp h1
    obtain ⟨i2, e2⟩ := List.getElem?_eq_some_iff.mp h
    exact (List.getElem_inj r.nd).mp (e1.trans e2.symm)

/-! ### the frame -/
structure RepE (W : Wl) (m : Gh) (H : Hp) (σ : L2.St) (ρ : PZ.Env) : Prop where
  len : σ.length = ρ.length
  get : ∀ (i : Nat) d, ρ[i]? = some (some d) → ∃ v, σ[i]? = some (some v) ∧ Rep W m H v d
theorem RepE.ext {σ : L2.St} {ρ : PZ.Env} (r : RepE W m H σ ρ) (x : Ext m H m' H') : RepE W m' H' σ ρ :=
  ⟨r.len, fun i d e => let ⟨v, h, q⟩ := r.get i d e; ⟨v, h, q.ext x⟩⟩
theorem RepE.set {σ : L2.St} {ρ : PZ.Env} (r : RepE W m H σ ρ) {i : Nat} {v : V} {d : D} (q : Rep W m H v d) : RepE W m H (σ.set i (some v)) (ρ.set i (some d)) := by
  refine ⟨by simp [r.len], fun j d' e => ?_⟩
  by_cases hj : j = i
  · subst hj
    by_cases hl : j < ρ.length
    · rw [List.getElem?_set_self hl] at e
      cases e
      exact ⟨v, by rw [List.getElem?_set_self (by rw [r.len]; exact hl)], q⟩
    · rw [List.getElem?_eq_none (by simp; omega)] at e; cases e
  · rw [List.getElem?_set_ne (Ne.symm hj)] at e
    obtain ⟨w, h, z⟩ := r.get j d' e
    exact ⟨w, by rw [List.getElem?_set_ne (Ne.symm hj)]; exact h, z⟩
theorem RepE.setN {σ : L2.St} {ρ : PZ.Env} (r : RepE W m H σ ρ) (i : Nat) : RepE W m H (σ.set i none) (ρ.set i none) := by
  refine ⟨by simp [r.len], fun j d' e => ?_⟩
  by_cases hj : j = i
  · subst hj
    by_cases hl : j < ρ.length
    · rw [List.getElem?_set_self hl] at e; cases e
    · rw [List.getElem?_eq_none (by simp; omega)] at e; cases e
  · rw [List.getElem?_set_ne (Ne.symm hj)] at e
    obtain ⟨w, h, z⟩ := r.get j d' e
    exact ⟨w, by rw [List.getElem?_set_ne (Ne.symm hj)]; exact h, z⟩
theorem RepE.wipe {σ : L2.St} {ρ : PZ.Env} (r : RepE W m H σ ρ) : ∀ is : List Nat, RepE W m H (L2.wipe σ is) (wipeE ρ is)
  | [] => r
  | i :: is => (RepE.wipe r is).setN i
theorem RepE.start {N : List Str} {vs : List V} {ds : List D} (r : Reps W m H vs ds) : RepE W m H (L2.start N vs) (env0 N.length ds) := by
  refine ⟨by simp [L2.start, env0, r.length], fun i d e => ?_⟩
  unfold env0 at e
  by_cases hi : i < ds.length
  · rw [List.getElem?_append_left (by simpa using hi), List.getElem?_map] at e
    cases z : ds[i]? with
    | none => rw [z] at e; cases e
    | some d' =>
      rw [z] at e
      have e' : d' = d := Option.some.inj (Option.some.inj e)
      subst e'
      obtain ⟨v, hv, q⟩ := r.get z
      refine ⟨v, ?_, q⟩
      unfold L2.start
      rw [List.getElem?_append_left (by simp [r.length]; exact hi), List.getElem?_map, hv]
      rfl
  · rw [List.getElem?_append_right (by simpa using Nat.le_of_not_lt hi)] at e
    rw [List.getElem?_replicate] at e
    split at e <;> cases e
end
end PZ
end
section
/-! Sound1: readings by the evaluator, the operators. -/
set_option linter.all false
set_option maxRecDepth 100000
set_option maxHeartbeats 4000000
set_option Elab.async false
namespace PZ
open PySem PySem.Spec PyProof.Rows L2
section
variable {W : Wl} {m m' m1 m2 : Gh} {H H' H1 H2 : Hp} {S S' : Sto} {α β : Type}
/-- what is wanted behind a step of the evaluator that may raise -/
def PostA (W : Wl) (Wx : WX) (σ : L2.St) (m : Gh) (H : Hp) (r : R α) (K : Gh → Hp → α → Sto → Prop) : Prop := match r with
  | .ok a S' => ∀ m' H', Ext m H m' H' → RepS W m' H' S' → K m' H' a S'
  | .exc c S' => ∀ m' H', Ext m H m' H' → RepS W m' H' S' → Wx (.ref (W.cad c)) none σ H'
  | .bad => False
/-- .. that raises nothing -/
def PostN (W : Wl) (m : Gh) (H : Hp) (r : R α) (K : Gh → Hp → α → Sto → Prop) : Prop := match r with
  | .ok a S' => ∀ m' H', Ext m H m' H' → RepS W m' H' S' → K m' H' a S'
  | _ => False
theorem PostA.ext {Wx : WX} {σ : L2.St} {r : R α} {K : Gh → Hp → α → Sto → Prop} (p : PostA W Wx σ m H r K) (x : Ext m H m' H') : PostA W Wx σ m' H' r K := by
  cases r with
  | ok a s => exact fun m2 H2 y => p m2 H2 (x.trans y)
  | exc c s => exact fun m2 H2 y => p m2 H2 (x.trans y)
  | bad => exact p
theorem PostN.ext {r : R α} {K : Gh → Hp → α → Sto → Prop} (p : PostN W m H r K) (x : Ext m H m' H') : PostN W m' H' r K := by
  cases r with
  | ok a s => exact fun m2 H2 y => p m2 H2 (x.trans y)
  | exc c s => exact p
  | bad => exact p
theorem PostA.mono {Wx : WX} {σ : L2.St} {r : R α} {K K' : Gh → Hp → α → Sto → Prop} (p : PostA W Wx σ m H r K) (h : ∀ m' H' a S', r = .ok a S' → Ext m H m' H' → RepS W m' H' S' → K m' H' a S' → K' m' H' a S') : PostA W Wx σ m H r K' := by
  cases r with
  | ok a s => exact fun m2 H2 y z => h m2 H2 a s rfl y z (p m2 H2 y z)
  | exc c s => exact p
  | bad => exact p
abbrev KV1 (W : Wl) (Q : VK) : Gh → Hp → D → Sto → Prop := fun m' H' d _ => ∀ v, Rep W m' H' v d → Q v H'
abbrev KVs (W : Wl) (Q : List V → Hp → Prop) : Gh → Hp → List D → Sto → Prop := fun m' H' ds _ => ∀ vs, Reps W m' H' vs ds → Q vs H'
abbrev KB1 (Q : Bool → Hp → Prop) : Gh → Hp → Bool → Sto → Prop := fun _ H' b _ => Q b H'
/-- the readings -/
def tM (W : Wl) (Wx : WX) (f : PZ.Env → M D) : TE := fun σ H Q => ∃ m ρ S, RepE W m H σ ρ ∧ RepS W m H S ∧ PostA W Wx σ m H (f ρ S) (KV1 W Q)
def tT (W : Wl) (Wx : WX) (f : PZ.Env → M Bool) : TT := fun σ H Q => ∃ m ρ S, RepE W m H σ ρ ∧ RepS W m H S ∧ PostA W Wx σ m H (f ρ S) (KB1 Q)
def tL (W : Wl) (Wx : WX) (f : PZ.Env → M (List D)) : TA := fun σ H Q => ∃ m ρ S, RepE W m H σ ρ ∧ RepS W m H S ∧ PostA W Wx σ m H (f ρ S) (KVs W Q)
/-- one step, then the rest -/
theorem tM_bind {Wx : WX} {σ : L2.St} {ρ : PZ.Env} {f : PZ.Env → M D} {g : D → M β} {K : Gh → Hp → β → Sto → Prop} {Q : VK} (re : RepE W m H σ ρ) (rs : RepS W m H S) (p : PostA W Wx σ m H ((f ρ S).bind g) K)
    (h : ∀ m1 H1 d S1 v, Ext m H m1 H1 → RepE W m1 H1 σ ρ → RepS W m1 H1 S1 → Rep W m1 H1 v d → PostA W Wx σ m1 H1 (g d S1) K → Q v H1) : tM W Wx f σ H Q := by
  refine ⟨m, ρ, S, re, rs, ?_⟩
  cases e : f ρ S with
  | ok a s =>
    rw [e] at p
    exact fun m1 H1 x r1 v rv => h m1 H1 a s v x (re.ext x) r1 rv (PostA.ext p x)
  | exc c s =>
    rw [e] at p
    exact fun m1 H1 x r1 => p m1 H1 x r1
  | bad => rw [e] at p; exact p
theorem tT_bind {Wx : WX} {σ : L2.St} {ρ : PZ.Env} {f : PZ.Env → M Bool} {g : Bool → M β} {K : Gh → Hp → β → Sto → Prop} {Q : Bool → Hp → Prop} (re : RepE W m H σ ρ) (rs : RepS W m H S) (p : PostA W Wx σ m H ((f ρ S).bind g) K)
    (h : ∀ m1 H1 d S1, Ext m H m1 H1 → RepE W m1 H1 σ ρ → RepS W m1 H1 S1 → PostA W Wx σ m1 H1 (g d S1) K → Q d H1) : tT W Wx f σ H Q := by
  refine ⟨m, ρ, S, re, rs, ?_⟩
  cases e : f ρ S with
  | ok a s =>
    rw [e] at p
    exact fun m1 H1 x r1 => h m1 H1 a s x (re.ext x) r1 (PostA.ext p x)
  | exc c s =>
    rw [e] at p
    exact fun m1 H1 x r1 => p m1 H1 x r1
  | bad => rw [e] at p; exact p
theorem tL_bind {Wx : WX} {σ : L2.St} {ρ : PZ.Env} {f : PZ.Env → M (List D)} {g : List D → M β} {K : Gh → Hp → β → Sto → Prop} {Q : List V → Hp → Prop} (re : RepE W m H σ ρ) (rs : RepS W m H S) (p : PostA W Wx σ m H ((f ρ S).bind g) K)
    (h : ∀ m1 H1 d S1 v, Ext m H m1 H1 → RepE W m1 H1 σ ρ → RepS W m1 H1 S1 → Reps W m1 H1 v d → PostA W Wx σ m1 H1 (g d S1) K → Q v H1) : tL W Wx f σ H Q := by
  refine ⟨m, ρ, S, re, rs, ?_⟩
  cases e : f ρ S with
  | ok a s =>
    rw [e] at p
    exact fun m1 H1 x r1 v rv => h m1 H1 a s v x (re.ext x) r1 rv (PostA.ext p x)
  | exc c s =>
    rw [e] at p
    exact fun m1 H1 x r1 => p m1 H1 x r1
  | bad => rw [e] at p; exact p
theorem PostA.ret {Wx : WX} {σ : L2.St} {a : α} {K : Gh → Hp → α → Sto → Prop} (rs : RepS W m H S) (p : PostA W Wx σ m H ((M.ret a : M α) S) K) : K m H a S := p m H (Ext.refl m H) rs
theorem PE.imp {X : Cx} {e : Expr} {t t' : TE} (h : PE X e t) (i : ∀ σ H Q, t' σ H Q → t σ H Q) : PE X e t' := ⟨fun pins s σ H Q I q => h.run pins s σ H Q I (i σ H Q q)⟩
theorem PT.imp {X : Cx} {e : Expr} {t t' : TT} (h : PT X e t) (i : ∀ σ H Q, t' σ H Q → t σ H Q) : PT X e t' := ⟨fun pins s σ H Q I q => h.run pins s σ H Q I (i σ H Q q)⟩
theorem PA.imp {X : Cx} {e : List Expr} {t t' : TA} (h : PA X e t) (i : ∀ σ H Q, t' σ H Q → t σ H Q) : PA X e t' := ⟨fun pos pins s σ H Q I q => h.run pos pins s σ H Q I (i σ H Q q)⟩
theorem PS.imp {X : Cx} {e : Stmt} {t t' : TS} (h : PS X e t) (i : ∀ D σ H, t' D σ H → t D σ H) : PS X e t' := ⟨fun pins s σ H D I q => h.run pins s σ H D I (i D σ H q)⟩
theorem PSs.imp {X : Cx} {e : List Stmt} {t t' : TS} (h : PSs X e t) (i : ∀ D σ H, t' D σ H → t D σ H) : PSs X e t' := ⟨fun pins s σ H D I q => h.run pins s σ H D I (i D σ H q)⟩
theorem OpR.imp {X : Cx} {f : Value → Value → Sem Value} {r r' : R2} (h : OpR X f r) (i : ∀ x y H Q, r' x y H Q → r x y H Q) : OpR X f r' := fun pins s σ H x y v u Q I rx ry q => h pins s σ H x y v u Q I rx ry (i x y H Q q)

/-! ### what a value reads as -/
/-- a list may be one of the store -/
def Val (W : Wl) (m : Gh) (H : Hp) (v : V) : D → Prop
  | .lst l => ∃ a xs, v = .ref a ∧ H a = some (.lst xs) ∧ Reps W m H xs l
  | d => Rep W m H v d
theorem Rep.val {v : V} {d : D} (r : Rep W m H v d) : Val W m H v d := by
  cases r with
  | lst h e q => exact ⟨_, _, rfl, e, q⟩
  | non => exact .non
  | bl b => exact .bl b
  | int i => exact .int i
  | str e h => exact .str e h
  | tup h q => exact .tup h q
  | kt h e q => exact .kt h e q
  | scr h => exact .scr h
  | ref h => exact .ref h
  | fn => exact .fn
  | exv h => exact .exv h
theorem Rep.rd {v : V} {d : D} (rs : RepS W m H S) (r : Rep W m H v d) : Val W m H v (PZ.rd S d) := by
  cases r with
  | ref h =>
    rename_i n a
    obtain ⟨o, ho, q⟩ := rs.at h
    unfold PZ.rd
    simp only [ho]
    cases o with
    | lst l => obtain ⟨xs, e, z⟩ := q; exact ⟨a, xs, rfl, e, z⟩
    | dic t k l => exact .ref h
    | ins c l => exact .ref h
  | lst h e q => exact Rep.val (.lst h e q)
  | non => exact .non
  | bl b => exact .bl b
  | int i => exact .int i
  | str e h => exact .str e h
  | tup h q => exact .tup h q
  | kt h e q => exact .kt h e q
  | scr h => exact .scr h
  | fn => exact .fn
  | exv h => exact .exv h
theorem Val.int {v : V} {i : Int} (h : Val W m H v (.int i)) : v = .int i := by cases (show Rep W m H v (.int i) from h); rfl
theorem Val.bl {v : V} {i : Bool} (h : Val W m H v (.bl i)) : v = .bl i := by cases (show Rep W m H v (.bl i) from h); rfl
theorem Val.non {v : V} (h : Val W m H v .non) : v = .non := by cases (show Rep W m H v .non from h); rfl
theorem Val.str {v : V} {s : Tx} (h : Val W m H v (.str s)) : ∃ x : Str, v = .str x ∧ x.cps.toList = s ∧ x.cps.all (· < 0x110000) = true := by
  cases (show Rep W m H v (.str s) from h) with
  | str e k => exact ⟨_, rfl, e, k⟩
theorem Val.tup {v : V} {l : List D} (h : Val W m H v (.tup l)) : ∃ a xs, v = .ref a ∧ TupAt W.K m H a xs ∧ Reps W m H xs l := by
  cases (show Rep W m H v (.tup l) from h) with
  | tup k r => exact ⟨_, _, rfl, k, r⟩
theorem Val.kt {v : V} {l : List D} (h : Val W m H v (.kt l)) : ∃ a xs, v = .ref a ∧ a ∉ m ∧ H a = some (.tup xs) ∧ Reps W m H xs l := by
  cases (show Rep W m H v (.kt l) from h) with
  | kt k e r => exact ⟨_, _, rfl, k, e, r⟩
theorem Val.lst {v : V} {l : List D} (h : Val W m H v (.lst l)) : ∃ a xs, v = .ref a ∧ H a = some (.lst xs) ∧ Reps W m H xs l := h

theorem Val.ofL {a : Addr} {xs : List V} {l : List D} (h : H a = some (.lst xs)) (q : Reps W m H xs l) : Val W m H (.ref a) (.lst l) := ⟨_, _, rfl, h, q⟩
/-- a text of codes -/
def T (s : Tx) : Str := ⟨s.toArray⟩
theorem T_tl (s : Tx) : (T s).cps.toList = s := by simp [T]
theorem T_eq {x : Str} {s : Tx} (h : x.cps.toList = s) : x = T s := by
  cases x with
  | mk c => subst h; simp [T]
theorem len_T {x : Str} {s : Tx} (h : x.cps.toList = s) : x.length = s.length := by
  rw [← h]; simp [Str.length]
theorem rep_T {s : Tx} (h : s.all (· < 0x110000) = true) : Rep W m H (.str (T s)) (.str s) := .str (T_tl s) (by rw [← Array.all_toList, T_tl]; exact h)
theorem all_T {x : Str} {s : Tx} (h : x.cps.toList = s) (a : x.cps.all (· < 0x110000) = true) : s.all (· < 0x110000) = true := by rw [← Array.all_toList, h] at a; exact a

/-! ### as the library's data -/
mutual
theorem Rep.dp : ∀ {v : V} {d : D}, Rep W m H v d → d.pure = true → Dp W.K H v d.toP
  | _, _, .non, _ => .non
  | _, _, .bl b, _ => .bl b
  | _, _, .int i, _ => .int i
  | _, _, .str e h, _ => by rw [T_eq e]; exact .str _
  | _, _, .tup h r, p => .tup h.sq (Reps.dp r p)
  | _, _, .lst _ e r, p => .lst (.of e) (Reps.dp r p)
  | _, _, .kt _ e r, p => .tup (.of e) (Reps.dp r p)
  | _, _, .scr _, p => nomatch p
  | _, _, .ref _, p => nomatch p
  | _, _, .fn, p => nomatch p
  | _, _, .exv _, p => nomatch p
theorem Reps.dp : ∀ {vs : List V} {ds : List D}, Reps W m H vs ds → D.pures ds = true → DpAll W.K H vs (D.toPs ds)
  | _, _, .nil, _ => .nil
  | _, _, .cons r t, p => by
    simp only [D.pures, Bool.and_eq_true] at p
    exact .cons (Rep.dp r p.1) (Reps.dp t p.2)
end
theorem Val.dp {v : V} {d : D} (h : Val W m H v d) (p : d.pure = true) : Dp W.K H v d.toP := by
  cases d with
  | lst l => obtain ⟨a, xs, rfl, e, r⟩ := h; exact .lst (.of e) (Reps.dp r p)
  | _ => exact Rep.dp h p
mutual
theorem Rep.lay : ∀ {v : V} {d : D}, Rep W m H v d → d.pure = true → d.toP.canLay0 = true
  | _, _, .non, _ => rfl
  | _, _, .bl b, _ => rfl
  | _, _, .int i, _ => rfl
  | _, _, .str e h, _ => by
    show PyData.strOk _ = true
    have := all_T e h
    unfold PyData.strOk
    rw [← Array.all_toList]
    simpa using this
  | _, _, .tup h r, p => Reps.lay r p
  | _, _, .lst _ e r, p => Reps.lay r p
  | _, _, .kt _ e r, p => Reps.lay r p
  | _, _, .scr _, p => nomatch p
  | _, _, .ref _, p => nomatch p
  | _, _, .fn, p => nomatch p
  | _, _, .exv _, p => nomatch p
theorem Reps.lay : ∀ {vs : List V} {ds : List D}, Reps W m H vs ds → D.pures ds = true → PyData.canLayAll0 (D.toPs ds) = true
  | _, _, .nil, _ => rfl
  | _, _, .cons r t, p => by
    simp only [D.pures, Bool.and_eq_true] at p
    simp only [D.toPs, PyData.canLayAll0, Rep.lay r p.1, Reps.lay t p.2, Bool.and_self]
end
theorem Val.lay {v : V} {d : D} (h : Val W m H v d) (p : d.pure = true) : d.toP.canLay0 = true := by
  cases d with
  | lst l => obtain ⟨a, xs, rfl, e, r⟩ := h; exact Reps.lay r p
  | _ => exact Rep.lay h p
mutual
theorem dep_toP : ∀ d : D, d.toP.depth ≤ d.dep
  | .non => Nat.le_refl _
  | .bl _ => Nat.le_refl _
  | .int _ => Nat.le_refl _
  | .str _ => Nat.le_refl _
  | .tup l => Nat.succ_le_succ (deps_toP l)
  | .lst l => Nat.succ_le_succ (deps_toP l)
  | .kt l => Nat.succ_le_succ (deps_toP l)
  | .scr _ => Nat.le_refl _
  | .ref _ => Nat.le_refl _
  | .fn _ => Nat.le_refl _
  | .exv _ => Nat.le_refl _
theorem deps_toP : ∀ l : List D, PyData.depthAll (D.toPs l) ≤ D.deps l
  | [] => Nat.le_refl _
  | x :: xs => by
    have h1 := dep_toP x
    have h2 := deps_toP xs
    simp only [D.toPs, PyData.depthAll, D.deps]
    omega
end
theorem Val.shaped {v : V} {d : D} (h : Val W m H v d) (p : d.pure = true) (hd : d.dep ≤ 60) : SeqAt.shaped d.toP = true := by
  have := dep_toP d
  unfold SeqAt.shaped
  rw [h.lay p, Bool.true_and]
  exact decide_eq_true (by omega)
theorem beq_arr (a b : Tx) : ((⟨a.toArray⟩ : Str) == ⟨b.toArray⟩) = (a == b) := by
  by_cases h : a = b
  · subst h; simp
  · have : ¬ (⟨a.toArray⟩ : Str) = ⟨b.toArray⟩ := fun e => h (by injection e with e; simpa using congrArg Array.toList e)
    rw [beq_eq_false_iff_ne.mpr this, beq_eq_false_iff_ne.mpr h]
mutual
theorem eqD_toP : ∀ {a b : D}, a.pure = true → b.pure = true → eqD a b = PyData.eqv a.toP b.toP
  | .non, b, _, pb => by cases b <;> first | rfl | exact (nomatch pb)
  | .bl x, b, _, pb => by cases b <;> first | rfl | exact (nomatch pb)
  | .int x, b, _, pb => by cases b <;> first | rfl | exact (nomatch pb)
  | .str x, b, _, pb => by
    cases b <;> first | rfl | (simp only [eqD, D.toP, PyData.eqv, beq_arr])
  | .tup x, b, pa, pb => by
    cases b <;> first | rfl | (simp only [eqD, D.toP, PyData.eqv]; exact eqDs_toP pa pb)
  | .lst x, b, pa, pb => by
    cases b <;> first | rfl | (simp only [eqD, D.toP, PyData.eqv]; exact eqDs_toP pa pb)
  | .kt x, b, pa, pb => by
    cases b <;> first | rfl | (simp only [eqD, D.toP, PyData.eqv]; exact eqDs_toP pa pb)
  | .scr _, _, pa, _ => nomatch pa
  | .ref _, _, pa, _ => nomatch pa
  | .fn _, _, pa, _ => nomatch pa
  | .exv _, _, pa, _ => nomatch pa
theorem eqDs_toP : ∀ {a b : List D}, D.pures a = true → D.pures b = true → eqDs a b = PyData.eqvAll (D.toPs a) (D.toPs b)
  | [], [], _, _ => rfl
  | [], _ :: _, _, _ => rfl
  | _ :: _, [], _, _ => rfl
  | x :: xs, y :: ys, pa, pb => by
    simp only [D.pures, Bool.and_eq_true] at pa pb
    simp only [eqDs, D.toPs, PyData.eqvAll, eqD_toP pa.1 pb.1, eqDs_toP pa.2 pb.2]
end
theorem shallow_pts {a b : D} (h : shallow a b = true) : (a.pure = true ∧ b.pure = true) ∧ a.dep ≤ 60 ∧ b.dep ≤ 60 := by
  unfold shallow at h
  simp only [Bool.and_eq_true, decide_eq_true_eq] at h
  exact h
end
end PZ
end
section
/-! Ops: the operators of the evaluator are the model's. -/
set_option linter.all false
set_option maxRecDepth 100000
set_option maxHeartbeats 4000000
set_option Elab.async false
namespace PZ
open PySem PySem.Spec PyProof.Rows L2
section
variable {W : Wl} {X : Cx} {m : Gh} {H : Hp} {S : Sto}
def rD (W : Wl) (f : D → D → M D) : R2 := fun x y H Q => ∃ m dx dy S, RepS W m H S ∧ Rep W m H x dx ∧ Rep W m H y dy ∧ PostN W m H (f dx dy S) (KV1 W Q)
/-- what an operator that only reads asks: the values it gets, and what comes out -/
def rP (W : Wl) (o : Op) : R2 := fun x y H Q => ∃ m a b S, RepS W m H S ∧ Val W m H x a ∧ Val W m H y b ∧ ∃ d, opD o a b = some d ∧ ∀ m' H' v, Ext m H m' H' → RepS W m' H' S → Rep W m' H' v d → Q v H'
theorem rP_of {o : Op} (ho : ∀ a b S, opM o a b S = M.opt (opD o (rd S a) (rd S b)) S) {x y : V} {Q : VK} (h : rD W (opM o) x y H Q) : rP W o x y H Q := by
  obtain ⟨m, dx, dy, S, rs, r1, r2, p⟩ := h
  rw [ho] at p
  refine ⟨m, _, _, S, rs, r1.rd rs, r2.rd rs, ?_⟩
  cases e : opD o (rd S dx) (rd S dy) with
  | none => rw [e] at p; exact p.elim
  | some d => rw [e] at p; exact ⟨d, rfl, fun m' H' v x r rv => p m' H' x r v rv⟩
/-- the end where nothing is made -/
theorem fin0 {S : Sto} {d : D} {v : V} {Q : VK} (rs : RepS W m H S) (h : ∀ m' H' v, Ext m H m' H' → RepS W m' H' S → Rep W m' H' v d → Q v H') (r : Rep W m H v d) : Q v H := h m H v (Ext.refl m H) rs r
theorem finT {S : Sto} {l : List D} {xs : List V} {Q : VK} {p : Addr} (rs : RepS W m H S) (h : ∀ m' H' v, Ext m H m' H' → RepS W m' H' S → Rep W m' H' v (.tup l) → Q v H') (hp : H p = none) (r : Reps W m H xs l) : Q (.ref p) (upd H p (.tup xs)) :=
  h m _ _ (ext_new hp) (rs.new hp) (.tup (.inl ⟨rs.out hp, .inl upd_same⟩) (r.ext (ext_new hp)))
theorem finL {S : Sto} {l : List D} {xs : List V} {Q : VK} {p : Addr} (rs : RepS W m H S) (h : ∀ m' H' v, Ext m H m' H' → RepS W m' H' S → Rep W m' H' v (.lst l) → Q v H') (hp : H p = none) (r : Reps W m H xs l) : Q (.ref p) (upd H p (.lst xs)) :=
  h m _ _ (ext_new hp) (rs.new hp) (.lst (rs.out hp) upd_same (r.ext (ext_new hp)))
theorem line_ok : line ≤ sizeLine := by decide

theorem opr_add (hK : X.K = W.K) : OpR X (binaryOp .Add) (rD W (opM .add)) := by
  intro pins s σ H x y v u Q I rx ry h
  obtain ⟨m, a, b, S, rs, v1, v2, d, e, k⟩ := rP_of (fun _ _ _ => rfl) h
  have hl := line_ok
  cases a <;> cases b <;> try (cases e; done)
  · rename_i i j
    cases e; cases v1.int; cases v2.int
    exact op_add pins s σ H _ _ v u Q I rx ry ⟨i, j, rfl, rfl, fin0 rs k (.int _)⟩
  · rename_i i j
    obtain ⟨x', rfl, e1, a1⟩ := v1.str
    obtain ⟨y', rfl, e2, a2⟩ := v2.str
    simp only [opD] at e
    split at e
    · rename_i hlen
      cases e
      refine op_add_str pins s σ H _ _ v u Q I rx ry ⟨x', y', rfl, rfl, by rw [len_T e1, len_T e2]; omega, fin0 rs k (.str ?_ ?_)⟩
      · show (x'.cps ++ y'.cps).toList = _; simp [e1, e2]
      · show (x'.cps ++ y'.cps).all _ = true
        rw [Array.all_append, a1, a2]; rfl
    · cases e
  · rename_i i j
    obtain ⟨p, xs, rfl, t1, q1⟩ := v1.tup
    obtain ⟨q, ys, rfl, t2, q2⟩ := v2.tup
    simp only [opD] at e
    split at e
    · rename_i hlen
      cases e
      have l1 := q1.length
      have l2 := q2.length
      refine op_catA pins s σ H _ _ v u Q I rx ry ⟨p, q, xs, ys, rfl, rfl, by rw [hK]; exact t1.sq, by rw [hK]; exact t2.sq, by omega, fun hx => ?_, fun hx hy => ?_, fun _ _ z hz => ?_⟩
      · subst hx
        have : i = [] := by cases i with | nil => rfl | cons _ _ => simp at l1
        subst this
        exact fin0 rs k (.tup t2 q2)
      · subst hy
        have : j = [] := by cases j with | nil => rfl | cons _ _ => simp at l2
        subst this
        rw [List.append_nil] at k
        exact fin0 rs k (.tup t1 q1)
      · exact finT rs k hz (q1.append q2)
    · cases e
  · rename_i i j
    obtain ⟨p, xs, rfl, t1, q1⟩ := v1.tup
    obtain ⟨q, ys, rfl, _, t2, q2⟩ := v2.kt
    simp only [opD] at e
    split at e
    · rename_i hlen
      cases e
      obtain ⟨ni, nj, hlen⟩ := hlen
      have l1 := q1.length
      have l2 := q2.length
      refine op_catA pins s σ H _ _ v u Q I rx ry ⟨p, q, xs, ys, rfl, rfl, by rw [hK]; exact t1.sq, .of t2, by omega, fun hx => ?_, fun hx hy => ?_, fun _ _ z hz => ?_⟩
      · subst hx
        exact absurd (by cases i with | nil => rfl | cons _ _ => simp at l1) ni
      · subst hy
        exact absurd (by cases j with | nil => rfl | cons _ _ => simp at l2) nj
      · exact finT rs k hz (q1.append q2)
    · cases e
  · rename_i i j
    obtain ⟨p, xs, rfl, t1, q1⟩ := v1.lst
    obtain ⟨q, ys, rfl, t2, q2⟩ := v2.lst
    simp only [opD] at e
    split at e
    · rename_i hlen
      cases e
      have l1 := q1.length
      have l2 := q2.length
      exact op_cat pins s σ H _ _ v u Q I rx ry ⟨p, q, xs, ys, rfl, rfl, t1, t2, by omega, fun z hz => finL rs k hz (q1.append q2)⟩
    · cases e
theorem opr_sub : OpR X (binaryOp .Sub) (rD W (opM .sub)) := by
  intro pins s σ H x y v u Q I rx ry h
  obtain ⟨m, a, b, S, rs, v1, v2, d, e, k⟩ := rP_of (fun _ _ _ => rfl) h
  cases a <;> cases b <;> try (cases e; done)
  cases e; cases v1.int; cases v2.int
  exact op_sub pins s σ H _ _ v u Q I rx ry ⟨_, _, rfl, rfl, fin0 rs k (.int _)⟩
theorem log_zero {i : Int} : i.natAbs.log2 < 1000000 → True := fun _ => trivial
theorem foldl_cat (c : Array Nat) : ∀ (n : Nat) (acc : Array Nat), (List.replicate n c).foldl (· ++ ·) acc = acc ++ ((List.replicate n c.toList).flatten).toArray
  | 0, acc => by simp
  | n + 1, acc => by
    rw [List.replicate_succ, List.foldl_cons, foldl_cat c n, List.replicate_succ, List.flatten_cons, Array.append_assoc]
    congr 1
    apply Array.toList_inj.mp
    simp
theorem op_mulT (z : Str) (i : Int) (h1 : -1000 ≤ i) (h2 : i ≤ 1000) (h3 : z.length ≤ 1000) : OpR X (binaryOp .Mult) (fun x y H Q => x = .str z ∧ y = .int i ∧ Q (.str ⟨(List.replicate i.toNat z.cps.toList).flatten.toArray⟩) H) := by
  intro pins s σ H x y v u Q I rx ry h
  obtain ⟨rfl, rfl, q⟩ := h
  obtain ⟨t, rfl⟩ := rx
  obtain ⟨t', rfl⟩ := ry
  have hf : ∀ (tk : Tok) k, Q (.str ⟨(List.replicate i.toNat z.cps.toList).flatten.toArray⟩) H → EP X pins σ Q (.str ⟨(List.replicate i.toNat z.cps.toList).flatten.toArray⟩ tk) { s with toks := k } := fun tk k q => ⟨.str _, H, I.tok _, ⟨_, rfl⟩, q⟩
  refine PySem.P.mul_str ?_ ?_ ?_ ?_
  · rw [Bool.or_eq_false_iff]
    exact ⟨decide_eq_false (by omega), decide_eq_false (by omega)⟩
  · intro hi _ hz
    have e1 : (2 ^ 63 - 1 : Int) / i ≥ 1000 := Int.le_ediv_of_mul_le (by omega) (by omega)
    omega
  · intro hi _
    unfold Builtin.Str.tooLong
    refine decide_eq_false ?_
    have : z.length * i.toNat ≤ 1000 * 1000 := Nat.mul_le_mul h3 (by omega)
    have e2 := PySem.sizeLine_eq
    omega
  · by_cases c1 : i < 1
    · rw [if_pos c1]
      have e : i.toNat = 0 := by omega
      have hq := hf s.toks (s.toks + 1) q
      rw [e] at hq
      exact ⟨by decide, hq⟩
    · rw [if_neg c1]
      by_cases c2 : (i == 1 || z.length == 0) = true
      · rw [if_pos c2]
        rw [Bool.or_eq_true, beq_iff_eq, beq_iff_eq] at c2
        have e : (⟨(List.replicate i.toNat z.cps.toList).flatten.toArray⟩ : Str) = z := by
          rcases c2 with rfl | c2
          · show (⟨(List.replicate 1 z.cps.toList).flatten.toArray⟩ : Str) = z
            simp
          · have : z.cps.toList = [] := by
              have : z.cps.size = 0 := c2
              rw [← List.length_eq_zero_iff]; simpa using this
            cases z with
            | mk c => simp at this; subst this; simp
        rw [e] at q
        exact ⟨.str z, H, I, ⟨_, rfl⟩, q⟩
      · rw [if_neg c2]
        have e : (List.replicate i.toNat z.cps).foldl (· ++ ·) #[] = ((List.replicate i.toNat z.cps.toList).flatten).toArray := by rw [foldl_cat]; simp
        rw [e]
        refine ⟨?_, hf _ _ q⟩
        show (((List.replicate i.toNat z.cps.toList).flatten).toArray).size ≤ _
        have : z.length * i.toNat ≤ 1000 * 1000 := Nat.mul_le_mul h3 (by omega)
        have e2 := PySem.sizeLine_eq
        have e3 : z.cps.toList.length = z.length := by simp [Str.length]
        simp only [List.size_toArray, List.length_flatten, List.map_replicate, List.sum_replicate_nat, e3]
        rw [Nat.mul_comm]
        omega
theorem opr_mul : OpR X (binaryOp .Mult) (rD W (opM .mul)) := by
  intro pins s σ H x y v u Q I rx ry h
  obtain ⟨m, a, b, S, rs, v1, v2, d, e, k⟩ := rP_of (fun _ _ _ => rfl) h
  cases a <;> cases b <;> try (cases e; done)
  · rename_i i j
    simp only [opD] at e
    split at e
    · rename_i ho
      cases e; cases v1.int; cases v2.int
      exact op_mulW pins s σ H _ _ v u Q I rx ry ⟨i, j, rfl, rfl, (by unfold mulOk at ho; exact (show i.natAbs.log2 + j.natAbs.log2 < 1000000 from of_decide_eq_true ho)), fin0 rs k (.int _)⟩
    · cases e
  · rename_i z j
    simp only [opD] at e
    split at e
    · rename_i ho
      cases e; cases v2.int
      obtain ⟨x', rfl, e1, a1⟩ := v1.str
      refine op_mulT x' j ho.1 ho.2.1 (by rw [len_T e1]; exact ho.2.2) pins s σ H _ _ v u Q I rx ry ⟨rfl, rfl, fin0 rs k (.str ?_ ?_)⟩
      · simp [e1]
      · have := all_T e1 a1
        rw [← Array.all_toList]
        simp only [e1, List.all_eq_true, List.mem_flatten, List.mem_replicate]
        rintro c ⟨l, ⟨_, rfl⟩, hc⟩
        exact List.all_eq_true.mp this c hc
    · cases e
  · rename_i z j
    simp only [opD] at e
    split at e
    · rename_i ho
      cases e; cases v2.int
      obtain ⟨p, xs, rfl, t1, q1⟩ := v1.lst
      have l1 := q1.length
      refine op_rep pins s σ H _ _ v u Q I rx ry ⟨p, j, xs, rfl, rfl, t1, by omega, by omega, ?_, fun z hz => finL rs k hz (q1.rep _)⟩
      have h1 : xs.length ≤ 1000 := by omega
      have h2 : j.toNat ≤ 1000 := by omega
      exact Nat.le_trans (Nat.mul_le_mul h1 h2) (by decide)
    · cases e
theorem opr_fdiv : OpR X (binaryOp .FloorDiv) (rD W (opM .fdiv)) := by
  intro pins s σ H x y v u Q I rx ry h
  obtain ⟨m, a, b, S, rs, v1, v2, d, e, k⟩ := rP_of (fun _ _ _ => rfl) h
  cases a <;> cases b <;> try (cases e; done)
  rename_i i j
  simp only [opD] at e
  split at e
  · rename_i ho
    cases e; cases v1.int; cases v2.int
    unfold divOk at ho
    simp only [Bool.and_eq_true, decide_eq_true_eq] at ho
    have R : OpR X (binaryOp .FloorDiv) (rI (fun _ j => j ≠ 0 ∧ j.natAbs.log2 < 9000) fun i j => .int (i.fdiv j)) := opI fun _ _ _ _ _ _ _ hc q => floordiv_int hc.1 q (.inl (PyProof.noPylong_of_log2 hc.2))
    exact R pins s σ H _ _ v u Q I rx ry ⟨i, j, rfl, rfl, ho, fin0 rs k (.int _)⟩
  · cases e
theorem opr_mod : OpR X (binaryOp .Mod) (rD W (opM .mod)) := by
  intro pins s σ H x y v u Q I rx ry h
  obtain ⟨m, a, b, S, rs, v1, v2, d, e, k⟩ := rP_of (fun _ _ _ => rfl) h
  cases a <;> cases b <;> try (cases e; done)
  rename_i i j
  simp only [opD] at e
  split at e
  · rename_i ho
    cases e; cases v1.int; cases v2.int
    exact op_modN pins s σ H _ _ v u Q I rx ry ⟨i, j, rfl, rfl, ho, fin0 rs k (.int _)⟩
  · cases e
theorem opr_pow : OpR X (binaryOp .Pow) (rD W (opM .pow)) := by
  intro pins s σ H x y v u Q I rx ry h
  obtain ⟨m, a, b, S, rs, v1, v2, d, e, k⟩ := rP_of (fun _ _ _ => rfl) h
  cases a <;> cases b <;> try (cases e; done)
  rename_i i j
  simp only [opD] at e
  split at e
  · rename_i ho
    cases e; cases v1.int; cases v2.int
    unfold powOk at ho
    simp only [Bool.and_eq_true, decide_eq_true_eq] at ho
    exact op_pow pins s σ H _ _ v u Q I rx ry ⟨i, j, rfl, rfl, ⟨ho.1.1, by omega, ho.2⟩, fin0 rs k (.int _)⟩
  · cases e
theorem opr_shl : OpR X (binaryOp .LShift) (rD W (opM .shl)) := by
  intro pins s σ H x y v u Q I rx ry h
  obtain ⟨m, a, b, S, rs, v1, v2, d, e, k⟩ := rP_of (fun _ _ _ => rfl) h
  cases a <;> cases b <;> try (cases e; done)
  rename_i i j
  simp only [opD] at e
  split at e
  · rename_i ho
    cases e; cases v1.int; cases v2.int
    unfold shlOk at ho
    simp only [Bool.and_eq_true, decide_eq_true_eq] at ho
    exact op_shl pins s σ H _ _ v u Q I rx ry ⟨i, j, rfl, rfl, ⟨ho.1.1, by omega, ho.2⟩, fin0 rs k (.int _)⟩
  · cases e
theorem opr_shr : OpR X (binaryOp .RShift) (rD W (opM .shr)) := by
  intro pins s σ H x y v u Q I rx ry h
  obtain ⟨m, a, b, S, rs, v1, v2, d, e, k⟩ := rP_of (fun _ _ _ => rfl) h
  cases a <;> cases b <;> try (cases e; done)
  rename_i i j
  simp only [opD] at e
  split at e
  · rename_i ho
    cases e; cases v1.int; cases v2.int
    exact op_shr pins s σ H _ _ v u Q I rx ry ⟨i, j, rfl, rfl, ho, fin0 rs k (.int _)⟩
  · cases e
theorem opr_band : OpR X (binaryOp .BitAnd) (rD W (opM .band)) := by
  intro pins s σ H x y v u Q I rx ry h
  obtain ⟨m, a, b, S, rs, v1, v2, d, e, k⟩ := rP_of (fun _ _ _ => rfl) h
  cases a <;> cases b <;> try (cases e; done)
  rename_i i j
  simp only [opD] at e
  split at e
  · rename_i ho
    cases e; cases v1.int; cases v2.int
    obtain ⟨h0, rfl⟩ := ho
    have e2 : Builtin.bitAnd i 1 = i % 2 := by
      unfold Builtin.bitAnd
      have e1 : decide (0 ≤ i) = true := decide_eq_true h0
      rw [e1]
      show (((i.toNat &&& (1 : Int).toNat : Nat)) : Int) = _
      have e3 : (1 : Int).toNat = 1 := rfl
      rw [e3, Nat.and_one_is_mod]
      omega
    refine op_and pins s σ H _ _ v u Q I rx ry ⟨i, 1, rfl, rfl, ?_⟩
    show Q (V.int (Builtin.bitAnd i 1)) H
    rw [e2]
    exact fin0 rs k (.int _)
  · cases e

/-! ### comparisons -/
theorem opr_eq (hK : X.K = W.K) (hu : X.A.units + 64 < cLine) : OpR X (compareOp .Eq) (rD W (opM .eq)) := by
  intro pins s σ H x y v u Q I rx ry h
  obtain ⟨m, a, b, S, rs, v1, v2, d, e, k⟩ := rP_of (fun _ _ _ => rfl) h
  simp only [opD] at e
  split at e
  · rename_i ho
    cases e
    obtain ⟨⟨p1, p2⟩, d1, d2⟩ := shallow_pts ho
    rw [eqD_toP p1 p2] at k
    exact op_eqD hu pins s σ H _ _ v u Q I rx ry ⟨_, _, by rw [hK]; exact v1.dp p1, by rw [hK]; exact v2.dp p2, v1.shaped p1 d1, v2.shaped p2 d2, fin0 rs k (.bl _)⟩
  · cases e
theorem opr_ne (hK : X.K = W.K) (hu : X.A.units + 64 < cLine) : OpR X (compareOp .NotEq) (rD W (opM .ne)) := by
  intro pins s σ H x y v u Q I rx ry h
  obtain ⟨m, a, b, S, rs, v1, v2, d, e, k⟩ := rP_of (fun _ _ _ => rfl) h
  simp only [opD] at e
  split at e
  · rename_i ho
    cases e
    obtain ⟨⟨p1, p2⟩, d1, d2⟩ := shallow_pts ho
    rw [eqD_toP p1 p2] at k
    exact op_neD hu pins s σ H _ _ v u Q I rx ry ⟨_, _, by rw [hK]; exact v1.dp p1, by rw [hK]; exact v2.dp p2, v1.shaped p1 d1, v2.shaped p2 d2, fin0 rs k (.bl _)⟩
  · cases e
theorem opr_le : OpR X (compareOp .LtE) (rD W (opM .le)) := by
  intro pins s σ H x y v u Q I rx ry h
  obtain ⟨m, a, b, S, rs, v1, v2, d, e, k⟩ := rP_of (fun _ _ _ => rfl) h
  cases a <;> cases b <;> try (cases e; done)
  cases e; cases v1.int; cases v2.int
  exact op_le pins s σ H _ _ v u Q I rx ry ⟨_, _, rfl, rfl, fin0 rs k (.bl _)⟩
theorem opr_gt : OpR X (compareOp .Gt) (rD W (opM .gt)) := by
  intro pins s σ H x y v u Q I rx ry h
  obtain ⟨m, a, b, S, rs, v1, v2, d, e, k⟩ := rP_of (fun _ _ _ => rfl) h
  cases a <;> cases b <;> try (cases e; done)
  cases e; cases v1.int; cases v2.int
  exact op_gt pins s σ H _ _ v u Q I rx ry ⟨_, _, rfl, rfl, fin0 rs k (.bl _)⟩
theorem opr_ge : OpR X (compareOp .GtE) (rD W (opM .ge)) := by
  intro pins s σ H x y v u Q I rx ry h
  obtain ⟨m, a, b, S, rs, v1, v2, d, e, k⟩ := rP_of (fun _ _ _ => rfl) h
  cases a <;> cases b <;> try (cases e; done)
  cases e; cases v1.int; cases v2.int
  exact op_ge pins s σ H _ _ v u Q I rx ry ⟨_, _, rfl, rfl, fin0 rs k (.bl _)⟩
theorem opr_lt (hK : X.K = W.K) (hu : X.A.units + 64 < cLine) : OpR X (compareOp .Lt) (rD W (opM .lt)) := by
  intro pins s σ H x y v u Q I rx ry h
  obtain ⟨m, a, b, S, rs, v1, v2, d, e, k⟩ := rP_of (fun _ _ _ => rfl) h
  cases a <;> cases b <;> try (cases e; done)
  · cases e; cases v1.int; cases v2.int
    exact op_lt pins s σ H _ _ v u Q I rx ry ⟨_, _, rfl, rfl, fin0 rs k (.bl _)⟩
  · cases e
    obtain ⟨x', rfl, e1, a1⟩ := v1.str
    obtain ⟨y', rfl, e2, a2⟩ := v2.str
    refine op_lt_str pins s σ H _ _ v u Q I rx ry ⟨x', y', rfl, rfl, ?_⟩
    rw [e1, e2]
    exact fin0 rs k (.bl _)
  · simp only [opD] at e
    split at e
    · rename_i ho
      cases e
      rw [Bool.and_eq_true] at ho
      obtain ⟨⟨p1, p2⟩, d1, d2⟩ := shallow_pts ho.1
      obtain ⟨as, r1⟩ := Dp.reads I _ x v (by rw [hK]; exact v1.dp p1) rx
      obtain ⟨bs, r2⟩ := Dp.reads I _ y u (by rw [hK]; exact v2.dp p2) ry
      have q := PySem.W.rcLt_alike _ _ X.A s v u as bs r1 r2 ho.2 (fun z => nomatch z) (by
        have := dep_toP (.tup ‹List D›)
        have h1 := Nat.min_le_left ((D.tup (by assumption)).toP.depth) ((D.tup (by assumption)).toP.depth)
        have z := v1.shaped p1 d1
        have z1 := SeqAt.depth_of_shaped z
        exact Nat.lt_of_le_of_lt (Nat.add_le_add_left (Nat.le_trans (Nat.min_le_left _ _) z1) _) hu)
      exact q X.prog X.w X.xe _ ⟨.bl _, H, I, rfl, fin0 rs k (.bl _)⟩
    · cases e
theorem opr_isN : OpR X (compareOp .Is) (rD W (opM .isN)) := by
  intro pins s σ H x y v u Q I rx ry h
  obtain ⟨m, a, b, S, rs, v1, v2, d, e, k⟩ := rP_of (fun _ _ _ => rfl) h
  cases b <;> try (cases a <;> (cases e; done))
  · have e' : some (D.bl (decide (a = .non))) = some d := by cases a <;> exact e
    cases e'
    cases v2.non
    have z : decide (x = .non) = decide (a = D.non) := by
      cases a with
      | lst l => obtain ⟨p, xs, rfl, _⟩ := v1; simp
      | non => cases v1.non; simp
      | bl b => cases v1.bl; simp
      | int b => cases v1.int; simp
      | str b => obtain ⟨x', rfl, _⟩ := v1.str; simp
      | tup l => obtain ⟨p, xs, rfl, _⟩ := v1.tup; simp
      | kt l => cases (show Rep W m H x (.kt l) from v1); simp
      | scr l => cases (show Rep W m H x (.scr l) from v1); simp
      | ref l => cases (show Rep W m H x (.ref l) from v1); simp
      | fn l => cases (show Rep W m H x (.fn l) from v1); simp
      | exv l => cases (show Rep W m H x (.exv l) from v1); simp
    refine op_isN pins s σ H _ _ v u Q I rx ry ⟨rfl, ?_⟩
    rw [z]
    exact fin0 rs k (.bl _)
  · cases a <;> try (cases e; done)
    cases e; cases v1.bl; cases v2.bl
    exact op_isBl pins s σ H _ _ v u Q I rx ry ⟨_, _, rfl, rfl, fin0 rs k (.bl _)⟩
theorem opr_isNN : OpR X (compareOp .IsNot) (rD W (opM .isNN)) := by
  intro pins s σ H x y v u Q I rx ry h
  obtain ⟨m, a, b, S, rs, v1, v2, d, e, k⟩ := rP_of (fun _ _ _ => rfl) h
  cases b <;> try (cases a <;> (cases e; done))
  · have e' : some (D.bl (!decide (a = .non))) = some d := by cases a <;> exact e
    cases e'
    cases v2.non
    have z : decide (x = .non) = decide (a = D.non) := by
      cases a with
      | lst l => obtain ⟨p, xs, rfl, _⟩ := v1; simp
      | non => cases v1.non; simp
      | bl b => cases v1.bl; simp
      | int b => cases v1.int; simp
      | str b => obtain ⟨x', rfl, _⟩ := v1.str; simp
      | tup l => obtain ⟨p, xs, rfl, _⟩ := v1.tup; simp
      | kt l => cases (show Rep W m H x (.kt l) from v1); simp
      | scr l => cases (show Rep W m H x (.scr l) from v1); simp
      | ref l => cases (show Rep W m H x (.ref l) from v1); simp
      | fn l => cases (show Rep W m H x (.fn l) from v1); simp
      | exv l => cases (show Rep W m H x (.exv l) from v1); simp
    refine op_notN pins s σ H _ _ v u Q I rx ry ⟨rfl, ?_⟩
    rw [z]
    exact fin0 rs k (.bl _)
  · cases a <;> try (cases e; done)
    cases e; cases v1.bl; cases v2.bl
    exact op_notBl pins s σ H _ _ v u Q I rx ry ⟨_, _, rfl, rfl, fin0 rs k (.bl _)⟩

/-! ### in, not in, subscripts -/
theorem keyR_rep {v : V} {d : D} (r : Rep W m H v d) (h : keyFlat d = true) : ∃ k : Key, v = kV k ∧ KeyR k d := by
  cases r <;> try (cases h; done)
  · exact ⟨.inl _, rfl, rfl⟩
  · rename_i x z e a
    exact ⟨.inr x, rfl, e, a⟩
theorem keyRs_rep : ∀ {vs : List V} {ds : List D}, Reps W m H vs ds → ds.all keyFlat = true → ∃ ks : List Key, vs = ks.map kV ∧ KeyRs ks ds
  | _, _, .nil, _ => ⟨[], rfl, .nil⟩
  | _, _, .cons r t, h => by
    simp only [List.all_cons, Bool.and_eq_true] at h
    obtain ⟨k, e, q⟩ := keyR_rep r h.1
    obtain ⟨ks, e', q'⟩ := keyRs_rep t h.2
    exact ⟨k :: ks, by rw [e, e']; rfl, .cons q q'⟩
theorem keyR_inj {k k' : Key} {d d' : D} (r : KeyR k d) (r' : KeyR k' d') : k = k' ↔ d = d' := by
  cases k <;> cases d <;> try (cases r; done)
  · cases k' <;> cases d' <;> try (cases r'; done)
    · cases r; cases r'; simp
    · simp
  · cases k' <;> cases d' <;> try (cases r'; done)
    · simp
    · obtain ⟨e1, _⟩ := r
      obtain ⟨e2, _⟩ := r'
      rw [T_eq e1, T_eq e2]
      constructor
      · intro z; injection z with z; injection z with z; simp at z; rw [z]
      · intro z; injection z with z; rw [z]
theorem keyRs_inj : ∀ {k k' : List Key} {d d' : List D}, KeyRs k d → KeyRs k' d' → (k = k' ↔ d = d')
  | _, _, _, _, .nil, .nil => by simp
  | _, _, _, _, .nil, .cons _ _ => by simp
  | _, _, _, _, .cons _ _, .nil => by simp
  | _, _, _, _, .cons r t, .cons r' t' => by
    rw [List.cons.injEq, List.cons.injEq, keyR_inj r r', keyRs_inj t t']
/-- a look into a table of pairs, by the one relation of keys -/
theorem find_rel {κ : Type} [DecidableEq κ] {F : κ → D → Prop} (hF : ∀ k k' d d', F k d → F k' d' → (k = k' ↔ d = d')) {k : κ} {d : D} (hk : F k d) : ∀ {ks : List (κ × V)} {kvs : List (D × D)}, Paired (fun p q => F p.1 q.1 ∧ Rep W m H p.2 q.2) ks kvs →
    match valV ks k, kget kvs d with
    | some v, some e => Rep W m H v e
    | none, none => True
    | _, _ => False
  | _, _, .nil => by simp [valV, kget]
  | p :: ks, q :: kvs, .cons r t => by
    by_cases e : p.1 = k
    · have e' : q.1 = d := (hF _ _ _ _ r.1 hk).mp e
      have h1 : kget (q :: kvs) d = some q.2 := by simp [kget, e']
      rw [valV_pos e, h1]
      exact r.2
    · have e' : ¬ q.1 = d := fun z => e ((hF _ _ _ _ r.1 hk).mpr z)
      have h1 : kget (q :: kvs) d = kget kvs d := by simp [kget, e']
      rw [valV_neg e, h1]
      exact find_rel hF hk t
theorem rel_get {o : Option V} {o' : Option D} (h : match o, o' with
    | some v, some e => Rep W m H v e
    | none, none => True
    | _, _ => False) : o.isSome = o'.isSome ∧ (∀ e, o' = some e → ∃ v, o = some v ∧ Rep W m H v e) ∧ (o' = none → o = none) := by
  cases o <;> cases o' <;> simp_all
/-- what a dict of the store holds at a key -/
theorem dget_rep {t lk : Bool} {kvs : List (D × D)} {a : Addr} {y : V} {k : D} (r : RepO W m H a (.dic t lk kvs)) (ry : Rep W m H y k) (hk : keyOk t k = true) :
    ∃ o, DGet H a y o ∧ o.isSome = (kget kvs k).isSome ∧ (∀ e, kget kvs k = some e → ∃ v, o = some v ∧ Rep W m H v e) ∧ (kget kvs k = none → o = none) := by
  cases t with
  | false =>
    obtain ⟨ks, e, q⟩ := r
    obtain ⟨kk, rfl, kr⟩ := keyR_rep ry hk
    have z := rel_get (find_rel (fun _ _ _ _ => keyR_inj) kr q)
    have hr : Rd H a (.dK ks) := by
      cases lk with
      | true => exact .inr e
      | false => exact .inl e
    exact ⟨valV ks kk, .inl ⟨ks, kk, hr, rfl, rfl⟩, z⟩
  | true =>
    obtain ⟨ks, e, q⟩ := r
    cases k <;> try (cases hk; done)
    rename_i l
    cases ry with
    | kt h1 h2 h3 =>
      obtain ⟨kk, rfl, kr⟩ := keyRs_rep h3 hk
      have z := rel_get (find_rel (F := fun (k : List Key) d => ∃ l, d = .kt l ∧ KeyRs k l) (fun k k' d d' ⟨l1, e1, r1⟩ ⟨l2, e2, r2⟩ => by
        rw [keyRs_inj r1 r2, e1, e2]; simp) (⟨l, rfl, kr⟩ : ∃ l', D.kt l = .kt l' ∧ KeyRs kk l') q)
      have hr : Rd H a (.dT ks) := by
        cases lk with
        | true => exact .inr e
        | false => exact .inl e
      exact ⟨valV ks kk, .inr ⟨ks, kk, _, hr, rfl, h2, rfl⟩, z⟩
theorem any_toP {a : D} (p1 : a.pure = true) : ∀ l : List D, D.pures l = true → ((D.toPs l).any fun z => PyData.eqv z a.toP) = l.any fun z => eqD z a := by
  intro l
  induction l with
  | nil => intro _; rfl
  | cons z zs ih =>
    intro hp
    simp only [D.pures, Bool.and_eq_true] at hp
    simp only [D.toPs, List.any_cons, ih hp.2, eqD_toP hp.1 p1]
theorem inP {pins : List (Addr × Obj)} {s : Shared} {σ : L2.St} {x y : V} {v u : Value} {a b : D} {d : Bool} {Q : VK} (hK : X.K = W.K) (hu : X.A.units + 65 < cLine) (I : Inv X pins σ H s) (rx : RelV x v) (ry : RelV y u) (v1 : Val W m H x a) (v2 : Val W m H y b) (e : inD a b = some d) (k : Q (.bl d) H) :
    wpAny (model X.prog X.w) X.A (compareOp .In v u) (EP X pins σ Q) X.xe s := by
  cases b <;> try (cases e; done)
  · rename_i z
    cases a <;> try (cases e; done)
    rename_i c
    cases c with
    | nil => cases e
    | cons c r =>
      cases r with
      | cons _ _ => cases e
      | nil =>
        cases e
        obtain ⟨x', rfl, e1, a1⟩ := v1.str
        obtain ⟨y', rfl, e2, a2⟩ := v2.str
        have ex : x' = ⟨#[c]⟩ := T_eq e1
        subst ex
        refine op_in_sign pins s σ H _ _ v u Q I rx ry ⟨c, y', rfl, rfl, ?_⟩
        rw [e2]
        exact k
  · rename_i l
    simp only [inD] at e
    split at e
    · rename_i ho
      cases e
      obtain ⟨⟨p1, p2⟩, d1, d2⟩ := shallow_pts ho
      obtain ⟨as, r1⟩ := Dp.reads I _ y u (by rw [hK]; exact v2.dp p2) ry
      obtain ⟨bs, r2⟩ := Dp.reads I _ x v (by rw [hK]; exact v1.dp p1) rx
      have h1 := SeqAt.canLay_of_shaped (v2.shaped p2 d2)
      refine SeqAt.in_tuple_reads r1 r2 h1 (v1.lay p1) (room_in_shaped (v1.shaped p1 d1) hu) ⟨.bl _, H, I, rfl, ?_⟩
      rw [any_toP p1 l p2]
      exact k
    · cases e
  · rename_i l
    simp only [inD] at e
    split at e
    · rename_i ho
      cases e
      obtain ⟨⟨p1, p2⟩, d1, d2⟩ := shallow_pts ho
      obtain ⟨as, r1⟩ := Dp.reads I _ y u (by rw [hK]; exact v2.dp p2) ry
      obtain ⟨bs, r2⟩ := Dp.reads I _ x v (by rw [hK]; exact v1.dp p1) rx
      have h1 := SeqAt.canLay_of_shaped (v2.shaped p2 d2)
      refine SeqAt.in_list_reads r1 r2 h1 (v1.lay p1) (room_in_shaped (v1.shaped p1 d1) hu) ⟨.bl _, H, I, rfl, ?_⟩
      rw [any_toP p1 l p2]
      exact k
    · cases e
theorem notInP {pins : List (Addr × Obj)} {s : Shared} {σ : L2.St} {x y : V} {v u : Value} {a b : D} {d : Bool} {Q : VK} (hK : X.K = W.K) (hu : X.A.units + 65 < cLine) (I : Inv X pins σ H s) (rx : RelV x v) (ry : RelV y u) (v1 : Val W m H x a) (v2 : Val W m H y b) (e : inD a b = some d) (k : Q (.bl (!d)) H) :
    wpAny (model X.prog X.w) X.A (compareOp .NotIn v u) (EP X pins σ Q) X.xe s := by
  cases b <;> try (cases e; done)
  · rename_i z
    cases a <;> try (cases e; done)
    rename_i c
    cases c with
    | nil => cases e
    | cons c r =>
      cases r with
      | cons _ _ => cases e
      | nil =>
        cases e
        obtain ⟨x', rfl, e1, a1⟩ := v1.str
        obtain ⟨y', rfl, e2, a2⟩ := v2.str
        have ex : x' = ⟨#[c]⟩ := T_eq e1
        subst ex
        refine op_notIn_sign pins s σ H _ _ v u Q I rx ry ⟨c, y', rfl, rfl, ?_⟩
        rw [e2]
        exact k
  · rename_i l
    simp only [inD] at e
    split at e
    · rename_i ho
      cases e
      obtain ⟨⟨p1, p2⟩, d1, d2⟩ := shallow_pts ho
      obtain ⟨as, r1⟩ := Dp.reads I _ y u (by rw [hK]; exact v2.dp p2) ry
      obtain ⟨bs, r2⟩ := Dp.reads I _ x v (by rw [hK]; exact v1.dp p1) rx
      have h1 := SeqAt.canLay_of_shaped (v2.shaped p2 d2)
      refine SeqAt.notIn_tuple_reads r1 r2 h1 (v1.lay p1) (room_in_shaped (v1.shaped p1 d1) hu) ⟨.bl _, H, I, rfl, ?_⟩
      rw [any_toP p1 l p2]
      exact k
    · cases e
  · rename_i l
    simp only [inD] at e
    split at e
    · rename_i ho
      cases e
      obtain ⟨⟨p1, p2⟩, d1, d2⟩ := shallow_pts ho
      obtain ⟨as, r1⟩ := Dp.reads I _ y u (by rw [hK]; exact v2.dp p2) ry
      obtain ⟨bs, r2⟩ := Dp.reads I _ x v (by rw [hK]; exact v1.dp p1) rx
      have h1 := SeqAt.canLay_of_shaped (v2.shaped p2 d2)
      refine SeqAt.notIn_list_reads r1 r2 h1 (v1.lay p1) (room_in_shaped (v1.shaped p1 d1) hu) ⟨.bl _, H, I, rfl, ?_⟩
      rw [any_toP p1 l p2]
      exact k
    · cases e
theorem PostN.opt {o : Option D} {K : Gh → Hp → D → Sto → Prop} (rs : RepS W m H S) (p : PostN W m H (M.opt o S) K) : ∃ d, o = some d ∧ K m H d S := by
  cases o with
  | none => exact p.elim
  | some d => exact ⟨d, rfl, p m H (Ext.refl m H) rs⟩
theorem opr_in (hK : X.K = W.K) (hu : X.A.units + 65 < cLine) : OpR X (compareOp .In) (rD W (opM .isin)) := by
  intro pins s σ H x y v u Q I rx ry h
  obtain ⟨m, a, b, S, rs, r1, r2, p⟩ := h
  by_cases hb : ∃ n, b = .ref n
  · obtain ⟨n, rfl⟩ := hb
    cases r2 with
    | ref hn =>
      obtain ⟨o, ho, q⟩ := rs.at hn
      have e : opM .isin a (.ref n) S = (match S[n]? with
        | some (.dic t _ kvs) => if keyOk t a then .ok (.bl (kget kvs a).isSome) S else .bad
        | some (.lst l) => M.opt (opD .isin (rd S a) (.lst l)) S
        | _ => .bad) := rfl
      rw [e, ho] at p
      cases o with
      | ins c fs => exact p.elim
      | dic t lk kvs =>
        simp only at p
        split at p
        · rename_i hk
          obtain ⟨oo, g, e1, _, _⟩ := dget_rep q r1 hk
          cases ry
          refine d_in (A := X.A) (by omega) I g rx fun s' I' => ⟨.bl _, H, I', rfl, ?_⟩
          rw [e1]
          exact p m H (Ext.refl m H) rs _ (.bl _)
        · exact p.elim
      | lst l =>
        obtain ⟨d, e2, k⟩ := PostN.opt rs p
        have e3 : (inD (rd S a) (.lst l)).map D.bl = some d := e2
        cases e4 : inD (rd S a) (.lst l) with
        | none => rw [e4] at e3; cases e3
        | some z =>
          rw [e4] at e3; cases e3
          obtain ⟨xs, hx, qx⟩ := q
          exact inP hK hu I rx ry (r1.rd rs) (.ofL hx qx) e4 (k _ (.bl _))
  · have e : opM .isin a b S = M.opt (opD .isin (rd S a) (rd S b)) S := by
      cases b <;> first | rfl | exact absurd ⟨_, rfl⟩ hb
    rw [e] at p
    obtain ⟨d, e2, k⟩ := PostN.opt rs p
    have e3 : (inD (rd S a) (rd S b)).map D.bl = some d := e2
    cases e4 : inD (rd S a) (rd S b) with
    | none => rw [e4] at e3; cases e3
    | some z =>
      rw [e4] at e3; cases e3
      exact inP hK hu I rx ry (r1.rd rs) (r2.rd rs) e4 (k _ (.bl _))
theorem opr_notin (hK : X.K = W.K) (hu : X.A.units + 65 < cLine) : OpR X (compareOp .NotIn) (rD W (opM .notin)) := by
  intro pins s σ H x y v u Q I rx ry h
  obtain ⟨m, a, b, S, rs, r1, r2, p⟩ := h
  by_cases hb : ∃ n, b = .ref n
  · obtain ⟨n, rfl⟩ := hb
    cases r2 with
    | ref hn =>
      obtain ⟨o, ho, q⟩ := rs.at hn
      have e : opM .notin a (.ref n) S = (match S[n]? with
        | some (.dic t _ kvs) => if keyOk t a then .ok (.bl (!(kget kvs a).isSome)) S else .bad
        | some (.lst l) => M.opt (opD .notin (rd S a) (.lst l)) S
        | _ => .bad) := rfl
      rw [e, ho] at p
      cases o with
      | ins c fs => exact p.elim
      | dic t lk kvs =>
        simp only at p
        split at p
        · rename_i hk
          obtain ⟨oo, g, e1, _, _⟩ := dget_rep q r1 hk
          cases ry
          refine d_notIn (A := X.A) (by omega) I g rx fun s' I' => ⟨.bl _, H, I', rfl, ?_⟩
          rw [e1]
          exact p m H (Ext.refl m H) rs _ (.bl _)
        · exact p.elim
      | lst l =>
        obtain ⟨d, e2, k⟩ := PostN.opt rs p
        have e3 : (inD (rd S a) (.lst l)).map (fun k => D.bl (!k)) = some d := e2
        cases e4 : inD (rd S a) (.lst l) with
        | none => rw [e4] at e3; cases e3
        | some z =>
          rw [e4] at e3; cases e3
          obtain ⟨xs, hx, qx⟩ := q
          exact notInP hK hu I rx ry (r1.rd rs) (.ofL hx qx) e4 (k _ (.bl _))
  · have e : opM .notin a b S = M.opt (opD .notin (rd S a) (rd S b)) S := by
      cases b <;> first | rfl | exact absurd ⟨_, rfl⟩ hb
    rw [e] at p
    obtain ⟨d, e2, k⟩ := PostN.opt rs p
    have e3 : (inD (rd S a) (rd S b)).map (fun k => D.bl (!k)) = some d := e2
    cases e4 : inD (rd S a) (rd S b) with
    | none => rw [e4] at e3; cases e3
    | some z =>
      rw [e4] at e3; cases e3
      exact notInP hK hu I rx ry (r1.rd rs) (r2.rd rs) e4 (k _ (.bl _))
/-- x[i] of a text, a list, a tuple, the script -/
theorem atI_rel {ds : List D} {xs : List V} {i : Int} {d : D} (q : Reps W m H xs ds) (h : PZ.atI ds i = some d) : ∃ v, L2.atI xs i = some v ∧ Rep W m H v d := by
  unfold PZ.atI at h
  have e : L2.ixN xs.length i = PZ.ixN ds.length i := by rw [q.length]; rfl
  cases z : PZ.ixN ds.length i with
  | none => rw [z] at h; cases h
  | some j =>
    rw [z] at h
    obtain ⟨v, hv, r⟩ := q.get (show ds[j]? = some d from h)
    exact ⟨v, by unfold L2.atI; rw [e, z]; exact hv, r⟩
theorem ixr (hK : X.K = W.K) (hu : X.A.units + 65 < cLine) : IxR X (rD W (opM .ix)) := by
  intro value slice pins s σ H x y v u Q I rx ry h hs
  obtain ⟨m, a, b, S, rs, r1, r2, p⟩ := h
  have main : ∀ a' b' d, Val W m H x a' → Val W m H y b' → opD .ix a' b' = some d → (∀ v, Rep W m H v d → Q v H) → wpAny (model X.prog X.w) X.A (subscriptTail value slice v u) (EP X pins σ Q) X.xe s := by
    intro a' b' d v1 v2 e k
    cases a' <;> try (cases b' <;> (cases e; done))
    · rename_i z
      cases b' <;> try (cases e; done)
      rename_i i
      cases v2.int
      obtain ⟨x', rfl, e1, a1⟩ := v1.str
      simp only [opD] at e
      split at e
      · rename_i hz
        cases w : PZ.atI z i with
        | none => rw [w] at e; cases e
        | some c =>
          rw [w] at e; cases e
          refine ix_str value slice pins s σ H _ _ v u Q I rx ry ⟨x', i, c, rfl, rfl, by rw [len_T e1]; exact Nat.le_trans hz line_ok, ?_, ?_⟩ hs
          · rw [e1]; exact w
          · refine k _ (.str rfl ?_)
            have hm : c ∈ z := by
              unfold PZ.atI at w
              cases q : PZ.ixN z.length i with
              | none => rw [q] at w; cases w
              | some j => rw [q] at w; exact List.mem_of_getElem? (show z[j]? = some c from w)
            have := List.all_eq_true.mp (all_T e1 a1) c hm
            simpa using this
      · cases e
    · rename_i l
      cases b' <;> try (cases e; done)
      cases v2.int
      obtain ⟨p', xs, rfl, t1, q1⟩ := v1.tup
      obtain ⟨w, hw, rw'⟩ := atI_rel q1 e
      exact ix_tup value slice pins s σ H _ _ v u Q I rx ry ⟨p', xs, _, w, rfl, rfl, by rw [hK]; exact t1.sq, hw, k w rw'⟩ hs
    · rename_i l
      cases b' <;> try (cases e; done)
      cases v2.int
      obtain ⟨p', xs, rfl, t1, q1⟩ := v1.lst
      obtain ⟨w, hw, rw'⟩ := atI_rel q1 e
      exact ix_list value slice pins s σ H _ _ v u Q I rx ry ⟨p', xs, _, w, rfl, rfl, .of t1, hw, k w rw'⟩ hs
    · rename_i l
      cases b' <;> try (cases e; done)
      rename_i i
      cases v2.int
      cases (show Rep W m H x (.scr l) from v1) with
      | scr h1 =>
        have e' : (PZ.atI l i).map D.int = some d := e
        cases w : PZ.atI l i with
        | none => rw [w] at e'; cases e'
        | some c =>
          rw [w] at e'; cases e'
          refine ix_list value slice pins s σ H _ _ v u Q I rx ry ⟨_, l.map V.int, i, .int c, rfl, rfl, (by rw [hK]; exact h1.sq), ?_, k _ (.int _)⟩ hs
          unfold PZ.atI at w
          unfold L2.atI
          rw [List.length_map]
          have e2 : L2.ixN l.length i = PZ.ixN l.length i := rfl
          rw [e2]
          cases q : PZ.ixN l.length i with
          | none => rw [q] at w; cases w
          | some j =>
            rw [q] at w
            show (l.map V.int)[j]? = _
            rw [List.getElem?_map, show l[j]? = some c from w]; rfl
  by_cases hb : ∃ n, a = .ref n
  · obtain ⟨n, rfl⟩ := hb
    cases r1 with
    | ref hn =>
      obtain ⟨o, ho, q⟩ := rs.at hn
      have e : opM .ix (.ref n) b S = (match S[n]? with
        | some (.dic t _ kvs) => if keyOk t b then M.opt (kget kvs b) S else .bad
        | some (.lst l) => M.opt (opD .ix (.lst l) b) S
        | _ => .bad) := by cases b <;> rfl
      rw [e, ho] at p
      cases o with
      | ins c fs => exact p.elim
      | dic t lk kvs =>
        simp only at p
        split at p
        · rename_i hk
          obtain ⟨d, e2, k⟩ := PostN.opt rs p
          obtain ⟨oo, g, _, e1, _⟩ := dget_rep q r2 hk
          obtain ⟨w, rfl, rw'⟩ := e1 d e2
          have hd : s.TypeIs v "dict" := by cases rx; exact dict_typeIs I g
          cases rx
          refine tail_any hd PySem.F.slot_dict_getitem.lookup (d_getItem (by omega) I g ry fun w' s' I' r' => ⟨w, H, I', r', k w rw'⟩) hs
        · exact p.elim
      | lst l =>
        obtain ⟨d, e2, k⟩ := PostN.opt rs p
        obtain ⟨xs, hx, qx⟩ := q
        have hb' : ∃ i, b = .int i := by cases b <;> first | exact ⟨_, rfl⟩ | cases e2
        obtain ⟨i, rfl⟩ := hb'
        exact main (.lst l) (.int i) d (.ofL hx qx) r2.val e2 k
  · have e : opM .ix a b S = M.opt (opD .ix (rd S a) (rd S b)) S := by
      cases a <;> first | (cases b <;> rfl) | exact absurd ⟨_, rfl⟩ hb
    rw [e] at p
    obtain ⟨d, e2, k⟩ := PostN.opt rs p
    exact main _ _ d (r1.rd rs) (r2.rd rs) e2 k
end
end PZ
end
section
/-! Fn: what a def promises (told where no repr runs), its call, its body. -/
set_option linter.all false
set_option maxRecDepth 100000
set_option maxHeartbeats 4000000
set_option Elab.async false
namespace PZ
open PySem PySem.Spec PyProof.Rows L2
/-- as L2.FnOk; gr: told where no repr runs around -/
structure FnG (gr : Bool) (P : Program) (w : World) (K : PySem.W.Frag) (mg : Str → Option Value) (base : Heap) (k : Nat) (f : Addr) (fd : FuncData) (ps : List Str) (sp : Sp) : Prop where
  len : ∀ vs H Q E, sp vs H Q E → vs.length = ps.length
  go : ∀ (A : Around) (out : List PySem.Env) (s : Shared) (H : Hp) (as : Args) (us : List Value) (vs : List V) (Q : VK) (E : XK),
    Room k A → (gr = true → A.guards = some []) → Env0 P w K mg base A out s H → BindsTo s fd as (ps.zip us) → Vals vs us → sp vs H Q E →
    codeAny (model P w) A (.call (.ref f) as) (CR (L2.CX P w) out P w H s Q E) s
section
variable {gr : Bool} {X : Cx} {k : Nat} {f C : Addr} {fd : FuncData} {ps : List Str} {sp : Sp} {E : WX} {x mt : Str} {p pos apos : Pos} {e o : Expr} {es : List Expr} {ta : TE} {t : TA} {dvs : List V} {ds : List Value}
theorem FnG.mono {P : Program} {w : World} {K : PySem.W.Frag} {mg : Str → Option Value} {base : Heap} {j : Nat} (F : FnG gr P w K mg base j f fd ps sp) (h : j ≤ k) : FnG gr P w K mg base k f fd ps sp :=
  ⟨F.len, fun A out s H as us vs Q E' r g e0 b v q => F.go A out s H as us vs Q E' (r.mono h) g e0 b v q⟩
/-- the call at values -/
theorem goG {pns : List (Addr × Obj)} {σ : L2.St} {H : Hp} {s : Shared} {Q : VK} {us : List Value} {vs : List V} (F : FnG gr X.prog X.w X.K X.mg X.base k f fd ps sp) (hr : Room k X.A) (hg : gr = true → X.A.guards = some [])
    (hb : Binds X.K fd ps ds) (hd : Vals dvs ds) (tk : Takes X E) (I : Inv X pns σ H s) (r : Vals vs us) (h : sp (vs ++ dvs) H Q fun c d H' => E c d σ H') :
    wpAny (model X.prog X.w) X.A (call (.ref f) us) (EP X pns σ Q) X.xe s := by
  have r' := r.append hd
  have hl : (us ++ ds).length = ps.length := r'.length.symm.trans (F.len _ _ _ _ h)
  have c := F.go X.A X.stack s H ⟨us, []⟩ (us ++ ds) _ Q _ hr hg I.env0 (hb s us I.kIn hl) r' h
  refine wpAny_call (codeAny_mono c fun res s' q => ?_)
  match res, q with
  | .error ex, q => exact tk ex s' (XE.of_call I (fun _ _ _ z => z) q)
  | .ok (.ret u), q => exact I.after q
/-- f(e, ..) -/
def tCl (sp : Sp) (dvs : List V) (E : WX) (t : TA) : TE := fun σ H Q => t σ H fun vs H1 => sp (vs ++ dvs) H1 Q fun c d H' => E c d σ H'
theorem pe_clG (F : FnG gr X.prog X.w X.K X.mg X.base k f fd ps sp) (hr : Room k X.A) (hgd : gr = true → X.A.guards = some []) (hg : Gl X x) (hm : X.mg x = some (.ref f)) (hk : PySem.W.keepIn X.K (.ref f) = true)
    (hb : Binds X.K fd ps ds) (hd : Vals dvs ds) (tk : Takes X E) (ha : PA X (e :: es) t) (hdb : (x == ("__debug__" : Str)) = false)
    (he : starEach (e :: es) X.env = (false, eval e X.env) :: starEach es X.env) (hpl : (backTo pos (starEach es X.env)).any (·.1) = false) :
    PE X (.Call (.Name x p) (e :: es) [] pos) (tCl sp dvs E t) := by
  constructor
  intro pns s σ H Q J q
  apply wpAny_Call_Name_kw
  refine ld_glob J hg hm ?_ hdb
  refine PySem.W.callWith_K (h₀ := X.base) J.ok.mod.kin hk (thn (ha.run pos pns s σ H _ J q) ?_) he hpl
  rintro us s1 ⟨vs, H1, J1, rv, q1⟩
  exact ⟨J1.kIn, goG F hr hgd hb hd tk J1 rv q1⟩
theorem pe_clG0 (F : FnG gr X.prog X.w X.K X.mg X.base k f fd ps sp) (hr : Room k X.A) (hgd : gr = true → X.A.guards = some []) (hg : Gl X x) (hm : X.mg x = some (.ref f)) (hk : PySem.W.keepIn X.K (.ref f) = true)
    (hb : Binds X.K fd ps ds) (hd : Vals dvs ds) (tk : Takes X E) (hdb : (x == ("__debug__" : Str)) = false) : PE X (.Call (.Name x p) [] [] pos) (tCl sp dvs E tNil) := by
  constructor
  intro pns s σ H Q J q
  apply wpAny_Call_Name_kw
  refine ld_glob J hg hm ?_ hdb
  exact PySem.W.callWith_K0 J.kIn hk (goG (us := []) F hr hgd hb hd tk J .nil q)
/-- o.m(e, ..) of an own instance -/
def tMt (C : Addr) (mt : Str) (sp : Sp) (dvs : List V) (E : WX) (ta : TE) (t : TA) : TE := fun σ H Q => ta σ H fun x H1 => ∃ a dx fs, x = .ref a ∧ H1 a = some (.ins C dx fs) ∧ fs.lookup mt = none ∧
  t σ H1 fun vs H2 => sp (x :: (vs ++ dvs)) H2 Q fun c d H' => E c d σ H'
theorem pe_mtG {pl : Sem Bool} (he : PE X o ta) (c : Cls X.K C) (hm : Meth X.K C mt f) (F : FnG gr X.prog X.w X.K X.mg X.base k f fd ps sp) (hr : Room k X.A) (hgd : gr = true → X.A.guards = some [])
    (hb : Binds X.K fd ps ds) (hd : Vals dvs ds) (tk : Takes X E) (ha : PA X (e :: es) t)
    (hst : starEach (e :: es) X.env = (false, eval e X.env) :: starEach es X.env) (hpl : (backTo pos (starEach es X.env)).any (·.1) = false)
    (ht : eval (.Call (.Attribute o mt apos) (e :: es) [] pos) X.env = (eval o X.env >>= fun ov => standAt apos.atName >>= fun _ => holding [ov] (getMethod ov mt pl) >>= fun z => callWith pos z.1 z.2 (backTo pos (starEach (e :: es) X.env)) (backToKw pos (keywordEach [] X.env)))) :
    PE X (.Call (.Attribute o mt apos) (e :: es) [] pos) (tMt C mt sp dvs E ta t) := by
  constructor
  intro pns s σ H Q J q
  refine PySem.W.methodCall_KW (pl := pl) (thn (he.run pns s σ H _ J q) ?_) ht
  rintro u s1 ⟨y, H1, J1, ry, a, dx, fs, ey, ea, l, q1⟩
  subst ey
  obtain rfl : u = Value.ref a := ry
  refine getmeth_ok J1 ea c hm l ?_
  refine PySem.W.callWith_K (first := [.ref a]) (h₀ := X.base) J1.ok.mod.kin hm.kp (thn (ha.run pos pns s1 σ H1 _ J1 q1) ?_) hst hpl
  rintro us s2 ⟨vs, H2, J2, rv, q2⟩
  exact ⟨J2.kIn, goG (us := .ref a :: us) (vs := .ref a :: vs) F hr hgd hb hd tk J2 (.cons rfl rv) q2⟩
theorem pe_mtG0 {pl : Sem Bool} (he : PE X o ta) (c : Cls X.K C) (hm : Meth X.K C mt f) (F : FnG gr X.prog X.w X.K X.mg X.base k f fd ps sp) (hr : Room k X.A) (hgd : gr = true → X.A.guards = some [])
    (hb : Binds X.K fd ps ds) (hd : Vals dvs ds) (tk : Takes X E)
    (ht : eval (.Call (.Attribute o mt apos) [] [] pos) X.env = (eval o X.env >>= fun ov => standAt apos.atName >>= fun _ => holding [ov] (getMethod ov mt pl) >>= fun z => callWith pos z.1 z.2 (backTo pos (starEach [] X.env)) (backToKw pos (keywordEach [] X.env)))) :
    PE X (.Call (.Attribute o mt apos) [] [] pos) (tMt C mt sp dvs E ta tNil) := by
  constructor
  intro pns s σ H Q J q
  refine PySem.W.methodCall_KW (pl := pl) (thn (he.run pns s σ H _ J q) ?_) ht
  rintro u s1 ⟨y, H1, J1, ry, a, dx, fs, ey, ea, l, q1⟩
  subst ey
  obtain rfl : u = Value.ref a := ry
  refine getmeth_ok J1 ea c hm l ?_
  exact PySem.W.callWith_K0 (first := [.ref a]) J1.kIn hm.kp (goG (us := [.ref a]) (vs := [.ref a]) F hr hgd hb hd tk J1 (.cons rfl .nil) q1)
/-- the def's code object -/
structure CdOf (K : PySem.W.Frag) (f : Addr) (qual : Str) (cdv : Value) : Prop where
  hc : PySem.W.codeIn K cdv qual = true
  ex : ∃ oc od fd osl, K.lookup f = some ⟨oc, od, .func fd, osl⟩ ∧ fd.code = cdv
/-- a def's body keeps its promise -/
theorem bodyG {P : Program} {w : World} {K : PySem.W.Frag} {mg : Str → Option Value} {base : Heap} {qual : Str} {params : Arguments} {body : List Stmt} {scope : Scope} {kws : List (Str × V)} {N : List Str}
    (F : FunD K x qual params body scope dvs kws f fd) (S : FnScope N ps scope) (len : ∀ vs H Q E, sp vs H Q E → vs.length = ps.length)
    (hbody : ∀ (cdv : Value) (A : Around) (out : List PySem.Env) (s : Shared) (H : Hp) (vs : List V) (Q : VK) (E : XK), Room k (A.deeper (envOfC qual scope s.heap.objs.size f cdv)) → (gr = true → A.guards = some []) → CdOf K f qual cdv → sp vs H Q E →
      ∃ t, PSs (cxOf (L2.CX P w) P w K mg base N qual scope f cdv A out s H E) body t ∧ t { nx := fun _ H' => Q .non H', rt := Q } (start N vs) H) :
    FnG gr P w K mg base (k + 1) f fd ps sp := by
  obtain ⟨oc, od, dV, kV, doc, pm, an, cdv, ct, osl, rfl, lk, hcd, hd, hk⟩ := F.ex
  exact ⟨len, fun A out s H as us vs Q E' r g e0 b v q => LamX.run_ofS lk hcd S r e0 b v (len _ _ _ _ q) fun r' => hbody cdv A out s H vs Q E' r' g ⟨hcd, _, _, _, _, lk, rfl⟩ q⟩
end
end PZ
end
section
/-! Bis: built-in functions of the evaluator are the model's. -/
set_option linter.all false
set_option maxRecDepth 100000
set_option maxHeartbeats 4000000
set_option Elab.async false
namespace PZ
open PySem PySem.Spec PyProof.Rows L2
section
variable {W : Wl} {X : Cx} {m : Gh} {H : Hp} {S : Sto}
def rB (W : Wl) (f : List D → M D) : List V → Hp → VK → Prop := fun vs H Q => ∃ m ds S, RepS W m H S ∧ Reps W m H vs ds ∧ PostN W m H (f ds S) (KV1 W Q)
abbrev Fin (W : Wl) (m : Gh) (H : Hp) (S : Sto) (d : D) (Q : VK) : Prop := ∀ m' H' v, Ext m H m' H' → RepS W m' H' S → Rep W m' H' v d → Q v H'
theorem optEnd {o : Option D} {Q : VK} (p : PostN W m H (M.opt o S) (KV1 W Q)) : ∃ d, o = some d ∧ Fin W m H S d Q := by
  cases o with
  | none => exact p.elim
  | some d => exact ⟨d, rfl, fun m' H' v x r rv => p m' H' x r v rv⟩
theorem biOpt {b : Bi} {vs : List V} {ds : List D} {Q : VK} (rs : RepS W m H S) (e : biM b ds S = M.opt (biD b (ds.map (rd S))) S) (p : PostN W m H (biM b ds S) (KV1 W Q)) : ∃ d, biD b (ds.map (rd S)) = some d ∧ Fin W m H S d Q := by
  rw [e] at p
  cases z : biD b (ds.map (rd S)) with
  | none => rw [z] at p; exact p.elim
  | some d => rw [z] at p; exact ⟨d, rfl, fun m' H' v x r rv => p m' H' x r v rv⟩
theorem Reps.one {vs : List V} {d : D} (r : Reps W m H vs [d]) : ∃ v, vs = [v] ∧ Rep W m H v d := by
  cases r with
  | cons r t => cases t; exact ⟨_, rfl, r⟩
theorem Rep.refV {v : V} {n : Nat} (r : Rep W m H v (.ref n)) : ∃ a, v = .ref a ∧ m.l[n]? = some a := by
  cases r with
  | ref h => exact ⟨_, rfl, h⟩
theorem Reps.two {vs : List V} {d e : D} (r : Reps W m H vs [d, e]) : ∃ v w, vs = [v, w] ∧ Rep W m H v d ∧ Rep W m H w e := by
  cases r with
  | cons r t => cases t with
    | cons r' t => cases t; exact ⟨_, _, rfl, r, r'⟩

theorem cb_len (hK : X.K = W.K) : CallR X (.builtin "len") (rB W (biM .len)) := by
  intro pns s σ H vs us Q I rv h
  obtain ⟨m, ds, S, rs, r, p⟩ := h
  have main : ∀ v d d', vs = [v] → Val W m H v d → biD .len [d] = some d' → Fin W m H S d' Q → wpAny (model X.prog X.w) X.A (call (.builtin "len") us) (EP X pns σ Q) X.xe s := by
    rintro v d d' rfl vd e k
    cases d <;> try (cases e; done)
    · rename_i z
      simp only [biD] at e
      split at e
      · rename_i hz
        cases e
        obtain ⟨x, rfl, e1, _⟩ := vd.str
        refine call_len_str pns s σ H _ us Q I rv ⟨x, rfl, by rw [len_T e1]; exact Nat.le_trans hz line_ok, ?_⟩
        rw [len_T e1]
        exact fin0 rs k (.int _)
      · cases e
    · cases e
      obtain ⟨a, xs, rfl, t, q⟩ := vd.tup
      refine call_len_seq pns s σ H _ us Q I rv ⟨a, xs, rfl, .inr (by rw [hK]; exact t.sq), ?_⟩
      rw [q.length]
      exact fin0 rs k (.int _)
    · cases e
      obtain ⟨a, xs, rfl, t, q⟩ := vd.lst
      refine call_len_seq pns s σ H _ us Q I rv ⟨a, xs, rfl, .inl (.of t), ?_⟩
      rw [q.length]
      exact fin0 rs k (.int _)
    · cases e
      cases (show Rep W m H v (.scr _) from vd) with
      | scr h1 =>
        refine call_len_seq pns s σ H _ us Q I rv ⟨_, _, rfl, .inl (by rw [hK]; exact h1.sq), ?_⟩
        rw [List.length_map]
        exact fin0 rs k (.int _)
  match ds, r, p with
  | [], _, p => exact p.elim
  | a :: b :: l, r, p =>
    obtain ⟨d', e2, k⟩ := optEnd (show PostN W m H (M.opt (biD .len (rd S a :: rd S b :: l.map (rd S))) S) (KV1 W Q) from p)
    exact absurd e2 (by cases rd S a <;> exact fun z => nomatch z)
  | [d], r, p =>
    obtain ⟨v, rfl, r1⟩ := Reps.one r
    by_cases hd : ∃ n, d = .ref n
    · obtain ⟨n, rfl⟩ := hd
      obtain ⟨a, rfl, hn⟩ := r1.refV
      · obtain ⟨o, ho, q⟩ := rs.at hn
        have e : biM .len [.ref n] S = (match Bi.len, S[n]? with
          | .len, some (.dic false _ kvs) => .ok (.int kvs.length) S
          | .len, some (.dic true false kvs) => .ok (.int kvs.length) S
          | .sortedD, some (.dic false false kvs) => M.opt (biD .sorted [.lst (kvs.map (·.1))]) S
          | .list, some (.dic false false kvs) => .ok (.lst (kvs.map (·.1))) S
          | .isI, some (.dic false false _) => .ok (.bl false) S
          | .isB, some (.dic false false _) => .ok (.bl false) S
          | .isS, some (.dic false false _) => .ok (.bl false) S
          | .isT, some (.dic false false _) => .ok (.bl false) S
          | b, _ => M.opt (biD b [rd S (.ref n)]) S) := rfl
        rw [e, ho] at p
        have hrd := Rep.rd rs (.ref hn : Rep W m H (.ref a) (.ref n))
        match o, q, p with
        | .ins c fs, _, p =>
          obtain ⟨d', e2, k⟩ := optEnd p
          exact main _ _ _ rfl hrd e2 k
        | .lst l, q, p =>
          obtain ⟨d', e2, k⟩ := optEnd p
          exact main _ _ _ rfl hrd e2 k
        | .dic false lk kvs, q, p =>
          obtain ⟨ks, hx, qx⟩ := q
          have hr : Rd H a (.dK ks) := by
            cases lk with
            | true => exact .inr hx
            | false => exact .inl hx
          have hl : ks.length = kvs.length := Paired.length qx
          cases rv with
          | cons r1 t1 =>
            cases t1; cases r1
            refine d_len I hr fun t s' I' => ⟨.int _, H, I', ⟨_, rfl⟩, ?_⟩
            rw [hl]
            exact p m H (Ext.refl m H) rs _ (.int _)
        | .dic true false kvs, q, p =>
          obtain ⟨ks, hx, qx⟩ := q
          have hl : ks.length = kvs.length := Paired.length qx
          refine call_len_dT pns s σ H _ us Q I rv ⟨_, ks, rfl, hx, ?_⟩
          rw [hl]
          exact p m H (Ext.refl m H) rs _ (.int _)
        | .dic true true kvs, q, p =>
          obtain ⟨d', e2, k⟩ := optEnd p
          exact main _ _ _ rfl hrd e2 k
    · have e : biM .len [d] S = M.opt (biD .len [rd S d]) S := by
        cases d <;> first | rfl | exact absurd ⟨_, rfl⟩ hd
      obtain ⟨d', e2, k⟩ := biOpt (vs := []) rs e p
      exact main _ _ _ rfl (r1.rd rs) e2 k
/-- where no dict is asked for -/
theorem biE {b : Bi} (h1 : b ≠ .len) (h2 : b ≠ .sortedD) (h3 : b ≠ .list) (ds : List D) (h4 : isBi b = true → ∀ n kvs, ds = [.ref n] → S[n]? ≠ some (.dic false false kvs) := by intro z; cases z) : biM b ds S = M.opt (biD b (ds.map (rd S))) S := by
  match ds, h4 with
  | [], _ => rfl
  | _ :: _ :: _, _ => rfl
  | [d], h4 =>
    cases d <;> try rfl
    rename_i n
    show biR b n S = _
    have h5 := fun z => fun kvs => h4 z n kvs rfl
    unfold biR
    cases b <;> first
      | rfl
      | contradiction
      | (have h6 := h5 rfl
         cases z : S[n]? with
         | none => simp only [rd, z, List.map_cons, List.map_nil]
         | some o =>
           cases o with
           | lst l => simp only [rd, z, List.map_cons, List.map_nil]
           | ins c fs => simp only [rd, z, List.map_cons, List.map_nil]
           | dic t lk kvs =>
             cases t <;> cases lk <;> first
               | exact absurd z (h6 kvs)
               | simp only [rd, z, List.map_cons, List.map_nil])
theorem one_of {b : Bi} {vs : List V} {ds : List D} {d' : D} (rs : RepS W m H S) (r : Reps W m H vs ds) (h : biD b (ds.map (rd S)) = some d') (h1 : ∀ a c l, biD b (a :: c :: l) = none) (h0 : biD b [] = none) : ∃ v d, vs = [v] ∧ Val W m H v d ∧ biD b [d] = some d' := by
  match ds, r, h with
  | [], _, h => rw [List.map_nil, h0] at h; cases h
  | _ :: _ :: _, _, h => rw [List.map_cons, List.map_cons, h1] at h; cases h
  | [d], r, h =>
    obtain ⟨v, rfl, r1⟩ := Reps.one r
    exact ⟨v, _, rfl, r1.rd rs, h⟩
theorem cb_abs : CallR X (.builtin "abs") (rB W (biM .abs)) := by
  intro pns s σ H vs us Q I rv h
  obtain ⟨m, ds, S, rs, r, p⟩ := h
  obtain ⟨d', e, k⟩ := biOpt (vs := vs) rs (biE (by decide) (by decide) (by decide) _) p
  obtain ⟨v, d, rfl, vd, e⟩ := one_of rs r e (fun a b l => by cases a <;> rfl) rfl
  cases d <;> try (cases e; done)
  cases e; cases vd.int
  exact call_abs pns s σ H _ us Q I rv ⟨_, rfl, fin0 rs k (.int _)⟩
theorem two_of {b : Bi} {vs : List V} {ds : List D} {d' : D} (rs : RepS W m H S) (r : Reps W m H vs ds) (h : biD b (ds.map (rd S)) = some d') (h1 : ∀ a, biD b [a] = none) (h0 : biD b [] = none) (h3 : ∀ a c d l, biD b (a :: c :: d :: l) = none) : ∃ v w d e, vs = [v, w] ∧ Val W m H v d ∧ Val W m H w e ∧ biD b [d, e] = some d' := by
  match ds, r, h with
  | [], _, h => rw [List.map_nil, h0] at h; cases h
  | [_], _, h => rw [List.map_cons, List.map_nil, h1] at h; cases h
  | _ :: _ :: _ :: _, _, h => rw [List.map_cons, List.map_cons, List.map_cons, h3] at h; cases h
  | [d, e], r, h =>
    obtain ⟨v, w, rfl, r1, r2⟩ := r.two
    exact ⟨v, w, _, _, rfl, r1.rd rs, r2.rd rs, h⟩
theorem cb_max2 (hc : X.calm = true) : CallR X (.builtin "max") (rB W (biM .max2)) := by
  intro pns s σ H vs us Q I rv h
  obtain ⟨m, ds, S, rs, r, p⟩ := h
  obtain ⟨d', e, k⟩ := biOpt (vs := vs) rs (biE (by decide) (by decide) (by decide) _) p
  obtain ⟨v, w, d, d2, rfl, vd, vw, e⟩ := two_of rs r e (fun a => by cases a <;> rfl) rfl (fun a b c l => by cases a <;> cases b <;> rfl)
  cases d <;> cases d2 <;> try (cases e; done)
  cases e; cases vd.int; cases vw.int
  exact call_max2 hc pns s σ H _ us Q I rv ⟨_, _, rfl, fin0 rs k (.int _)⟩
theorem cb_min2 (hc : X.calm = true) : CallR X (.builtin "min") (rB W (biM .min2)) := by
  intro pns s σ H vs us Q I rv h
  obtain ⟨m, ds, S, rs, r, p⟩ := h
  obtain ⟨d', e, k⟩ := biOpt (vs := vs) rs (biE (by decide) (by decide) (by decide) _) p
  obtain ⟨v, w, d, d2, rfl, vd, vw, e⟩ := two_of rs r e (fun a => by cases a <;> rfl) rfl (fun a b c l => by cases a <;> cases b <;> rfl)
  cases d <;> cases d2 <;> try (cases e; done)
  cases e; cases vd.int; cases vw.int
  exact call_min2 hc pns s σ H _ us Q I rv ⟨_, _, rfl, fin0 rs k (.int _)⟩
theorem bls_rep : ∀ {vs : List V} {ds : List D} {bs : List Bool}, Reps W m H vs ds → blsOf ds = some bs → vs = bs.map V.bl
  | _, _, _, .nil, h => by cases h; rfl
  | _, _, _, .cons (d := d) (ds := ds) r t, h => by
    cases d <;> try (cases h; done)
    simp only [blsOf] at h
    cases z : blsOf ds with
    | none => rw [z] at h; cases h
    | some bs' =>
      rw [z] at h; cases h
      cases r
      rw [bls_rep t z]; rfl
theorem cb_all (hc : X.calm = true) : CallR X (.builtin "all") (rB W (biM .all)) := by
  intro pns s σ H vs us Q I rv h
  obtain ⟨m, ds, S, rs, r, p⟩ := h
  obtain ⟨d', e, k⟩ := biOpt (vs := vs) rs (biE (by decide) (by decide) (by decide) _) p
  obtain ⟨v, d, rfl, vd, e⟩ := one_of rs r e (fun a b l => by cases a <;> rfl) rfl
  cases d <;> try (cases e; done)
  simp only [biD] at e
  rename_i l
  cases z : blsOf l with
  | none => rw [z] at e; cases e
  | some bs =>
    rw [z] at e; cases e
    obtain ⟨a, xs, rfl, t, q⟩ := vd.lst
    exact cr_all hc pns s σ H _ us Q I rv ⟨a, bs, rfl, .of (by rw [← bls_rep q z]; exact t), fin0 rs k (.bl _)⟩
theorem cb_any (hc : X.calm = true) : CallR X (.builtin "any") (rB W (biM .any)) := by
  intro pns s σ H vs us Q I rv h
  obtain ⟨m, ds, S, rs, r, p⟩ := h
  obtain ⟨d', e, k⟩ := biOpt (vs := vs) rs (biE (by decide) (by decide) (by decide) _) p
  obtain ⟨v, d, rfl, vd, e⟩ := one_of rs r e (fun a b l => by cases a <;> rfl) rfl
  cases d <;> try (cases e; done)
  simp only [biD] at e
  rename_i l
  cases z : blsOf l with
  | none => rw [z] at e; cases e
  | some bs =>
    rw [z] at e; cases e
    obtain ⟨a, xs, rfl, t, q⟩ := vd.lst
    exact cr_any hc pns s σ H _ us Q I rv ⟨a, bs, rfl, .of (by rw [← bls_rep q z]; exact t), fin0 rs k (.bl _)⟩
theorem tl_toString (i : Int) : (Str.ofString (toString i)).cps.toList = intT i := by
  unfold intT natT
  by_cases h : i < 0
  · rw [if_pos h]
    obtain ⟨n, rfl⟩ : ∃ n : Nat, i = -((n + 1 : Nat) : Int) := ⟨i.natAbs - 1, by omega⟩
    show TL.tl (Str.ofString (toString (-((n + 1 : Nat) : Int)))) = _
    rw [TL.tl_ofString]
    have e1 : toString (-((n + 1 : Nat) : Int)) = "-" ++ toString (n + 1) := rfl
    rw [e1]
    simp only [String.toList_append, List.map_append]
    have e2 : (-((n + 1 : Nat) : Int)).natAbs = n + 1 := by omega
    rw [e2]
    have e3 : (toString (n + 1)).toList = Nat.toDigits 10 (n + 1) := by simp [toString, Nat.repr]
    rw [e3]; rfl
  · rw [if_neg h]
    obtain ⟨n, rfl⟩ : ∃ n : Nat, i = (n : Int) := ⟨i.natAbs, by omega⟩
    exact TL.tl_num n
theorem natT_dig (n : Nat) : ∀ c ∈ natT n, 48 ≤ c ∧ c ≤ 57 := TL.numL_digits n
theorem intT_lt (i : Int) : (intT i).all (· < 0x110000) = true := by
  rw [List.all_eq_true]
  intro c hc
  unfold intT at hc
  have : c = 45 ∨ c ∈ natT i.natAbs := by
    split at hc
    · rcases List.mem_cons.mp hc with h | h
      · exact .inl h
      · exact .inr h
    · exact .inr hc
  rcases this with rfl | h
  · decide
  · have := (natT_dig _ c h).2
    exact decide_eq_true (by omega)
theorem cb_str : CallR X (.type "str") (rB W (biM .str)) := by
  intro pns s σ H vs us Q I rv h
  obtain ⟨m, ds, S, rs, r, p⟩ := h
  obtain ⟨d', e, k⟩ := biOpt (vs := vs) rs (biE (by decide) (by decide) (by decide) _) p
  obtain ⟨v, d, rfl, vd, e⟩ := one_of rs r e (fun a b l => by cases a <;> rfl) rfl
  cases d <;> try (cases e; done)
  · simp only [biD] at e
    split at e
    · rename_i hb
      cases e; cases vd.int
      refine call_str_int pns s σ H _ us Q I rv ⟨_, rfl, by omega, fin0 rs k (.str (tl_toString _) ?_)⟩
      rw [← Array.all_toList, tl_toString]
      exact intT_lt _
    · cases e
  · cases e
    obtain ⟨x, rfl, e1, a1⟩ := vd.str
    exact SkE.call_str_str pns s σ H _ us Q I rv ⟨x, rfl, fin0 rs k (.str e1 a1)⟩
theorem cb_int : CallR X (.type "int") (rB W (biM .int)) := by
  intro pns s σ H vs us Q I rv h
  obtain ⟨m, ds, S, rs, r, p⟩ := h
  obtain ⟨d', e, k⟩ := biOpt (vs := vs) rs (biE (by decide) (by decide) (by decide) _) p
  obtain ⟨v, d, rfl, vd, e⟩ := one_of rs r e (fun a b l => by cases a <;> rfl) rfl
  cases d <;> try (cases e; done)
  · cases e; cases vd.bl
    exact call_int1 pns s σ H _ us Q I rv (.inr ⟨_, rfl, fin0 rs k (.int _)⟩)
  · simp only [biD] at e
    split at e
    · rename_i hb
      cases e
      obtain ⟨h1, h2, h3⟩ := hb
      obtain ⟨x, rfl, e1, a1⟩ := vd.str
      refine call_int_str pns s σ H _ us Q I rv ⟨x, _, rfl, PySem.intText_digits (x := x) ?_ ?_ ?_, by rw [len_T e1]; omega, ?_⟩
      · rw [e1]
        intro c hc
        have := List.all_eq_true.mp h2 c hc
        unfold isDig at this
        simpa using this
      · rw [e1]; exact h1
      · rw [len_T e1]; omega
      · rw [e1]; exact fin0 rs k (.int _)
    · cases e
/-! ### isinstance -/
def tyN : D → String
  | .non => "NoneType" | .bl _ => "bool" | .int _ => "int" | .str _ => "str" | .tup _ => "tuple" | .kt _ => "tuple" | .lst _ => "list" | _ => ""
def tyPlain : D → Bool
  | .fn _ => false
  | .exv _ => false
  | .scr _ => false
  | .ref _ => false
  | _ => true
theorem ty_of (hK : X.K = W.K) {v : V} {d : D} (vd : Val W m H v d) (h : tyPlain d = true) : TyX X.K H v (.type (tyN d)) := by
  cases d with
  | non => cases vd.non; exact .base .non
  | bl b => cases vd.bl; exact .base (.bl _)
  | int b => cases vd.int; exact .base (.int _)
  | str b => obtain ⟨x, rfl, _⟩ := vd.str; exact .base (.str _)
  | tup l =>
    obtain ⟨a, xs, rfl, t, q⟩ := vd.tup
    rcases t with ⟨_, t | ⟨o, t⟩⟩ | ⟨o, its, n, t, c, _⟩
    · exact .base (.tup t)
    · exact .fTuple t
    · exact .kTuple (by rw [hK]; exact t) c
  | kt l => obtain ⟨a, xs, rfl, _, t, q⟩ := vd.kt; exact .base (.tup t)
  | lst l => obtain ⟨a, xs, rfl, t, q⟩ := vd.lst; exact .base (.lst t)
  | fn n => cases h
  | exv n => cases h
  | scr n => cases h
  | ref n => cases h
/-- isinstance(x, T) of a built-in class -/
theorem cb_isi {b : Bi} {T : String} (hK : X.K = W.K) (hb : b ≠ .len ∧ b ≠ .sortedD ∧ b ≠ .list) (h0 : biD b [] = none) (h2 : ∀ a c l, biD b (a :: c :: l) = none) (f : String → Bool)
    (hf : ∀ d, tyPlain d = true → PySem.W.kitOne W.K (.type (tyN d)) (.type T) = some (f (tyN d)))
    (h1 : ∀ d d', biD b [d] = some d' → tyPlain d = true ∧ d' = .bl (f (tyN d)))
    (hdict : ∀ n S kvs, S[n]? = some (.dic false false kvs) → biM b [.ref n] S = .ok (.bl false) S) (hkit : PySem.W.kitOne W.K (.type "dict") (.type T) = some false) :
    CallR X (.builtin "isinstance") (fun vs H Q => ∃ v, vs = [v, .ty T] ∧ rB W (biM b) [v] H Q) := by
  intro pns s σ H vs us Q I rv h
  obtain ⟨v, rfl, m, ds, S, rs, r, p⟩ := h
  by_cases hz : ∃ n kvs, ds = [.ref n] ∧ S[n]? = some (.dic false false kvs)
  · obtain ⟨n, kvs, rfl, hS⟩ := hz
    obtain ⟨v', ev, r1⟩ := Reps.one r
    cases ev
    obtain ⟨a, rfl, ha⟩ := r1.refV
    obtain ⟨o, ho, q⟩ := rs.at ha
    rw [hS] at ho
    cases ho
    obtain ⟨ks, hx, _⟩ := q
    rw [hdict n S kvs hS] at p
    refine call_isi pns s σ H _ us Q I rv ⟨.ref a, .ty T, .type "dict", .type T, false, rfl, .ty T, .base (.dK hx), by rw [hK]; exact hkit, ?_⟩
    exact p m H (Ext.refl m H) rs _ (.bl _)
  obtain ⟨d', e, k⟩ := biOpt (vs := [v]) rs (biE hb.1 hb.2.1 hb.2.2 _ (fun _ n kvs e1 e2 => hz ⟨n, kvs, e1, e2⟩)) p
  obtain ⟨v', d, ev, vd, e⟩ := one_of rs r e h2 h0
  cases ev
  obtain ⟨g1, rfl⟩ := h1 d d' e
  refine call_isi pns s σ H _ us Q I rv ⟨v, .ty T, .type (tyN d), .type T, f (tyN d), rfl, .ty T, ty_of hK vd g1, by rw [hK]; exact hf d g1, ?_⟩
  exact fin0 rs k (.bl _)
theorem cb_isI (hK : X.K = W.K) : CallR X (.builtin "isinstance") (fun vs H Q => ∃ v, vs = [v, .ty "int"] ∧ rB W (biM .isI) [v] H Q) :=
  cb_isi hK (by decide) rfl (fun _ _ _ => rfl) (fun t => t == "int" || t == "bool") (fun d hd => by cases d <;> first | rfl | (cases hd; done)) (fun d d' e => by cases d <;> first | (cases e; done) | (cases e; exact ⟨rfl, rfl⟩)) (fun n S kvs h => by show biR _ n S = _; unfold biR; rw [h]) rfl
theorem cb_isB (hK : X.K = W.K) : CallR X (.builtin "isinstance") (fun vs H Q => ∃ v, vs = [v, .ty "bool"] ∧ rB W (biM .isB) [v] H Q) :=
  cb_isi hK (by decide) rfl (fun _ _ _ => rfl) (fun t => t == "bool") (fun d hd => by cases d <;> first | rfl | (cases hd; done)) (fun d d' e => by cases d <;> first | (cases e; done) | (cases e; exact ⟨rfl, rfl⟩)) (fun n S kvs h => by show biR _ n S = _; unfold biR; rw [h]) rfl
theorem cb_isS (hK : X.K = W.K) : CallR X (.builtin "isinstance") (fun vs H Q => ∃ v, vs = [v, .ty "str"] ∧ rB W (biM .isS) [v] H Q) :=
  cb_isi hK (by decide) rfl (fun _ _ _ => rfl) (fun t => t == "str") (fun d hd => by cases d <;> first | rfl | (cases hd; done)) (fun d d' e => by cases d <;> first | (cases e; done) | (cases e; exact ⟨rfl, rfl⟩)) (fun n S kvs h => by show biR _ n S = _; unfold biR; rw [h]) rfl
theorem cb_isT (hK : X.K = W.K) : CallR X (.builtin "isinstance") (fun vs H Q => ∃ v, vs = [v, .ty "tuple"] ∧ rB W (biM .isT) [v] H Q) :=
  cb_isi hK (by decide) rfl (fun _ _ _ => rfl) (fun t => t == "tuple") (fun d hd => by cases d <;> first | rfl | (cases hd; done)) (fun d d' e => by cases d <;> first | (cases e; done) | (cases e; exact ⟨rfl, rfl⟩)) (fun n S kvs h => by show biR _ n S = _; unfold biR; rw [h]) rfl
end
end PZ
end
section
/-! Exp: expressions of the evaluator are the model's. -/
set_option linter.all false
set_option maxRecDepth 100000
set_option maxHeartbeats 4000000
set_option Elab.async false
namespace PZ
open PySem PySem.Spec PyProof.Rows L2
/-- a value, a test, a test whatever its whole, arguments -/
def SE (W : Wl) (Wx : WX) (X : Cx) (G : Glo) (e : Expr) (c : CE) : Prop := PE X e (tM W Wx (ev G c))
def ST (W : Wl) (Wx : WX) (X : Cx) (G : Glo) (e : Expr) (c : CE) : Prop := PT X e (tT W Wx fun ρ => (ev G c ρ).bl)
def SW (W : Wl) (Wx : WX) (X : Cx) (G : Glo) (e : Expr) (c : CE) : Prop := PW X e (tT W Wx fun ρ => (ev G c ρ).bl)
def SA (W : Wl) (Wx : WX) (X : Cx) (G : Glo) (es : List Expr) (cs : CEs) : Prop := PA X es (tL W Wx (evs G cs))
structure Okb (W : Wl) (X : Cx) : Prop where
  hK : X.K = W.K
  hu : X.A.units + 65 < cLine
  nd : X.N.Nodup
structure Okx (W : Wl) (Wx : WX) (X : Cx) : Prop extends Okb W X where
  calm : X.calm = true
  tk : Takes X Wx
instance {W : Wl} {Wx : WX} {X : Cx} : CoeOut (Okx W Wx X) (Okb W X) := ⟨Okx.toOkb⟩
section
variable {W : Wl} {Wx : WX} {X : Cx} {G : Glo} {m : Gh} {H : Hp} {S : Sto} {σ : L2.St} {ρ : PZ.Env} {a b c e : Expr} {ca cb cc ce : CE} {pos : Pos} {α β : Type}
theorem PostA.opt {α : Type} {o : Option α} {K : Gh → Hp → α → Sto → Prop} (rs : RepS W m H S) (p : PostA W Wx σ m H (M.opt o S) K) : ∃ d, o = some d ∧ K m H d S := by
  cases o with
  | none => exact p.elim
  | some d => exact ⟨d, rfl, p m H (Ext.refl m H) rs⟩
theorem PostA.toN {r : R α} {K : Gh → Hp → α → Sto → Prop} (h : ∀ c s, r ≠ .exc c s) (p : PostA W Wx σ m H r K) : PostN W m H r K := by
  cases r with
  | ok a s => exact p
  | exc c s => exact absurd rfl (h c s)
  | bad => exact p
theorem opt_nox {o : Option α} (c : Nat) (s : Sto) : (M.opt o S : R α) ≠ .exc c s := by
  cases o <;> exact fun z => nomatch z
/-! ### names, constants -/
theorem se_v {i : Nat} {x : Str} (hN : X.N[i]? = some x) (hv : Vis X.env.scope x) (hd : (x == ("__debug__" : Str)) = false := by decide) (hcd : (x == ("__classdict__" : Str)) = false := by decide) : SE W Wx X G (.Name x pos) (.v i) := by
  refine PE.imp (pe_var hN hv hd hcd) fun σ H Q h => ?_
  obtain ⟨m, ρ, S, re, rs, p⟩ := h
  obtain ⟨d, e1, p1⟩ := PostA.opt rs (show PostA W Wx σ m H (M.opt (ρ[i]?).join S) (KV1 W Q) from p)
  cases z : ρ[i]? with
  | none => rw [z] at e1; cases e1
  | some o =>
    rw [z] at e1
    have e2 : o = some d := e1
    subst e2
    obtain ⟨v, hv, q⟩ := re.get i d z
    exact ⟨v, hv, p1 v q⟩
theorem se_con {t : V} {d : D} (h : PE X e (tC t)) (r : ∀ (m : Gh) (H : Hp), Rep W m H t d) : SE W Wx X G e (.c d) := by
  refine PE.imp h fun σ H Q h => ?_
  obtain ⟨m, ρ, S, re, rs, p⟩ := h
  exact p m H (Ext.refl m H) rs t (r m H)
theorem se_int {i : Int} {j pos} : SE W Wx X G (.Constant (.int i) j pos) (.c (.int i)) := se_con pe_int fun _ _ => .int i
theorem se_bl {b : Bool} {j pos} : SE W Wx X G (.Constant (.bool b) j pos) (.c (.bl b)) := se_con pe_bl fun _ _ => .bl b
theorem se_non {j pos} : SE W Wx X G (.Constant .none j pos) (.c .non) := se_con pe_non fun _ _ => .non
theorem se_str {x : Str} {s : Tx} {j pos} (h : x.cps.toList = s := by rfl) (ha : x.cps.all (· < 0x110000) = true := by decide +kernel) : SE W Wx X G (.Constant (.str x) j pos) (.c (.str s)) := se_con pe_str fun _ _ => .str h ha
/-- a name of the module -/
def GcAt (W : Wl) (mg : Str → Option Value) (x : Str) (d : D) : Prop := ∃ u v, mg x = some u ∧ RelV v u ∧ ∀ (m : Gh) (H : Hp), Rep W m H v d
theorem se_gc {x : Str} {d : D} (hg : Gl X x) (h : GcAt W X.mg x d) (hd : (x == ("__debug__" : Str)) = false := by decide) : SE W Wx X G (.Name x pos) (.c d) := by
  obtain ⟨u, v, hm, r, q⟩ := h
  exact se_con (pe_glob hg hm r hd) q
theorem se_gn {x : Str} {n : Nat} (hg : Gl X x) (h : GcAt W X.mg x (G.gl n)) (hd : (x == ("__debug__" : Str)) = false := by decide) : SE W Wx X G (.Name x pos) (.g n) := by
  obtain ⟨u, v, hm, r, q⟩ := h
  refine PE.imp (pe_glob hg hm r hd) fun σ H Q h => ?_
  obtain ⟨m, ρ, S, re, rs, p⟩ := h
  exact p m H (Ext.refl m H) rs v (q m H)
/-! ### operators -/
theorem opM_nox (o : Op) (x y : D) (c : Nat) (s : Sto) : opM o x y S ≠ .exc c s := by
  unfold opM
  split
  · split
    · split <;> exact fun z => nomatch z
    · exact opt_nox c s
    · exact fun z => nomatch z
  · split
    · split <;> exact fun z => nomatch z
    · exact opt_nox c s
    · exact fun z => nomatch z
  · split
    · split
      · exact opt_nox c s
      · exact fun z => nomatch z
    · exact opt_nox c s
    · exact fun z => nomatch z
  · exact opt_nox c s
theorem tM2 {Q : V → V → Hp → Prop} {g : D → D → M β} {K : Gh → Hp → β → Sto → Prop} (re : RepE W m H σ ρ) (rs : RepS W m H S) (p : PostA W Wx σ m H (((ev G ca ρ).bind fun x => (ev G cb ρ).bind fun y => g x y) S) K)
    (h : ∀ m1 H1 d d' S1 v v', Ext m H m1 H1 → RepE W m1 H1 σ ρ → RepS W m1 H1 S1 → Rep W m1 H1 v d → Rep W m1 H1 v' d' → PostA W Wx σ m1 H1 (g d d' S1) K → Q v v' H1) :
    tM W Wx (ev G ca) σ H fun x H1 => tM W Wx (ev G cb) σ H1 fun y H2 => Q x y H2 := by
  refine tM_bind re rs p fun m1 H1 d S1 v x1 re1 rs1 r1 p1 => ?_
  exact tM_bind re1 rs1 p1 fun m2 H2 d' S2 v' x2 re2 rs2 r2 p2 => h m2 H2 d d' S2 v v' (x1.trans x2) re2 rs2 (r1.ext x2) r2 p2
theorem se_bin {op : Operator} {o : Op} (ho : OpR X (binaryOp op) (rD W (opM o))) (ha : SE W Wx X G a ca) (hb : SE W Wx X G b cb) : SE W Wx X G (.BinOp a op b pos) (.op o ca cb) := by
  refine PE.imp (pe_op ho ha hb) fun σ H Q h => ?_
  obtain ⟨m, ρ, S, re, rs, p⟩ := h
  exact tM2 re rs p fun m1 H1 d d' S1 v v' x re1 rs1 r r' p1 => ⟨m1, d, d', S1, rs1, r, r', p1.toN (opM_nox o d d')⟩
theorem se_cmp {op : CmpOp} {o : Op} (ho : OpR X (compareOp op) (rD W (opM o))) (ha : SE W Wx X G a ca) (hb : SE W Wx X G b cb) (hm : behindInMarks op b = false) : SE W Wx X G (.Compare a [op] [b] pos) (.op o ca cb) := by
  refine PE.imp (pe_cmpR ho ha hb hm) fun σ H Q h => ?_
  obtain ⟨m, ρ, S, re, rs, p⟩ := h
  exact tM2 re rs p fun m1 H1 d d' S1 v v' x re1 rs1 r r' p1 => ⟨m1, d, d', S1, rs1, r, r', p1.toN (opM_nox o d d')⟩
theorem bl_of {v : V} {d : D} {b : Bool} (r : Rep W m H v d) (h : isBl d = some b) : v = .bl b := by
  cases d <;> try (cases h; done)
  cases h; cases r; rfl
/-- behind a value that is to be a truth -/
theorem M.bl_bind {f : M D} {g : Bool → M β} : (M.bl f).bind g S = (f.bind fun d => (M.opt (isBl d)).bind g) S := by
  show ((f S).bind fun d => M.opt (isBl d)).bind g = (f S).bind fun d => (M.opt (isBl d)).bind g
  cases f S <;> rfl
theorem opt_bind {o : Option α} {g : α → M β} {K : Gh → Hp → β → Sto → Prop} (p : PostA W Wx σ m H ((M.opt o).bind g S) K) : ∃ d, o = some d ∧ PostA W Wx σ m H (g d S) K := by
  cases o with
  | none => exact p.elim
  | some d => exact ⟨d, rfl, p⟩
theorem M.bl_def {f : M D} : M.bl f S = (f.bind fun d => M.opt (isBl d)) S := rfl
theorem st_cmp {op : CmpOp} {o : Op} (ho : OpR X (compareOp op) (rD W (opM o))) (ha : SE W Wx X G a ca) (hb : SE W Wx X G b cb) (hm : behindInMarks op b = false) : ST W Wx X G (.Compare a [op] [b] pos) (.op o ca cb) := by
  refine PT.imp (pt_cmpR ho ha hb hm) fun σ H Q h => ?_
  obtain ⟨m, ρ, S, re, rs, p⟩ := h
  replace p : PostA W Wx σ m H (((ev G (.op o ca cb) ρ).bind fun d => M.opt (isBl d)) S) (KB1 Q) := p
  have e : ((ev G (.op o ca cb) ρ).bind fun d => M.opt (isBl d)) S = ((ev G ca ρ).bind fun x => (ev G cb ρ).bind fun y => (opM o x y).bind fun d => M.opt (isBl d)) S := by
    show (((ev G ca ρ S).bind fun x => (ev G cb ρ).bind fun y => opM o x y).bind fun d => M.opt (isBl d)) = (ev G ca ρ S).bind fun x => (ev G cb ρ).bind fun y => (opM o x y).bind fun d => M.opt (isBl d)
    cases ev G ca ρ S with
    | ok x s =>
      show (((ev G cb ρ s).bind fun y => opM o x y).bind fun d => M.opt (isBl d)) = (ev G cb ρ s).bind fun y => (opM o x y).bind fun d => M.opt (isBl d)
      cases ev G cb ρ s <;> rfl
    | exc c s => rfl
    | bad => rfl
  rw [e] at p
  refine tM2 re rs p fun m1 H1 d d' S1 v v' x re1 rs1 r r' p1 => ⟨m1, d, d', S1, rs1, r, r', ?_⟩
  cases z : opM o d d' S1 with
  | ok t s =>
    intro m2 H2 x2 rs2 v2 r2
    have p2 : PostA W Wx σ m1 H1 ((opM o d d' S1).bind fun d => M.opt (isBl d)) (KB1 Q) := p1
    rw [z] at p2
    obtain ⟨k, ek, q⟩ := PostA.opt rs2 (p2.ext x2)
    exact ⟨k, bl_of r2 ek, q⟩
  | exc c s => exact absurd z (opM_nox o d d' c s)
  | bad =>
    have p2 : PostA W Wx σ m1 H1 ((opM o d d' S1).bind fun d => M.opt (isBl d)) (KB1 Q) := p1
    rw [z] at p2
    exact p2
theorem chain_core {o o2 : Op} {Q : VK} {r r' : R2} (hr : ∀ x y H Q, rD W (opM o) x y H Q → r x y H Q) (hr' : ∀ x y H Q, rD W (opM o2) x y H Q → r' x y H Q) (h : tM W Wx (ev G (.ch o o2 ca cb cc)) σ H Q) : tM W Wx (ev G ca) σ H fun x H1 => tM W Wx (ev G cb) σ H1 fun y H2 => rD W (opM o) x y H2 fun z H3 => ∃ k, z = .bl k ∧
  (if k = true then tM W Wx (ev G cc) σ H3 fun w' H4 => rD W (opM o2) y w' H4 Q else Q (.bl false) H3) := by
  obtain ⟨m, ρ, S, re, rs, p⟩ := h
  refine tM2 (Q := fun x y H2 => rD W (opM o) x y H2 fun z H3 => ∃ k, z = .bl k ∧ (if k = true then tM W Wx (ev G cc) σ H3 fun w' H4 => rD W (opM o2) y w' H4 Q else Q (.bl false) H3)) (g := fun x y => (opM o x y).bl.bind fun k => match k with
    | true => (ev G cc ρ).bind fun z => opM o2 y z
    | false => M.ret (.bl false)) re rs p fun m1 H1 d d' S1 v v' x re1 rs1 r r' p1 => ⟨m1, d, d', S1, rs1, r, r', ?_⟩
  rw [M.bl_bind] at p1
  cases z : opM o d d' S1 with
  | ok t s =>
    intro m2 H2 x2 rs2 v2 r2
    have p2 : PostA W Wx σ m1 H1 ((opM o d d' S1).bind fun d => (M.opt (isBl d)).bind fun k => match k with
      | true => (ev G cc ρ).bind fun z => opM o2 d' z
      | false => M.ret (.bl false)) (KV1 W Q) := p1
    rw [z] at p2
    obtain ⟨k, ek, p3⟩ := opt_bind (p2.ext x2)
    refine ⟨k, bl_of r2 ek, ?_⟩
    cases k with
    | true =>
      rw [if_pos rfl]
      refine tM_bind (re1.ext x2) rs2 p3 fun m3 H3 d3 S3 v3 x3 re3 rs3 r3 p4 => ?_
      exact ⟨m3, d', d3, S3, rs3, (r'.ext x2).ext x3, r3, p4.toN (opM_nox o2 d' d3)⟩
    | false =>
      rw [if_neg (by decide)]
      exact p3 m2 H2 (Ext.refl _ _) rs2 _ (.bl false)
  | exc c s => exact absurd z (opM_nox o d d' c s)
  | bad =>
    have p2 : PostA W Wx σ m1 H1 ((opM o d d' S1).bind fun d => (M.opt (isBl d)).bind fun k => match k with
      | true => (ev G cc ρ).bind fun z => opM o2 d' z
      | false => M.ret (.bl false)) (KV1 W Q) := p1
    rw [z] at p2
    exact p2
theorem se_chain {op op' : CmpOp} {o o2 : Op} (ho : OpR X (compareOp op) (rD W (opM o))) (ho' : OpR X (compareOp op') (rD W (opM o2))) (ha : SE W Wx X G a ca) (hb : SE W Wx X G b cb) (hc : SE W Wx X G c cc)
    (hm : lastMarks [op, op'] [b, c] = false := by with_unfolding_all rfl) : SE W Wx X G (.Compare a [op, op'] [b, c] pos) (.ch o o2 ca cb cc) :=
  PE.imp (pe_chain ho ho' ha hb hc hm) fun _ _ _ h => chain_core (fun _ _ _ _ z => z) (fun _ _ _ _ z => z) h
/-- a value that is a truth, as a test -/
theorem tTest_of {Q : Bool → Hp → Prop} (h : tT W Wx (fun ρ => (ev G ca ρ).bl) σ H Q) : tM W Wx (ev G ca) σ H fun x H' => ∃ k, x = .bl k ∧ Q k H' := by
  obtain ⟨m, ρ, S, re, rs, p⟩ := h
  replace p : PostA W Wx σ m H (((ev G ca ρ).bind fun d => M.opt (isBl d)) S) (KB1 Q) := p
  refine tM_bind re rs p fun m1 H1 d S1 v x1 re1 rs1 r1 p1 => ?_
  obtain ⟨k, ek, q⟩ := PostA.opt rs1 p1
  exact ⟨k, bl_of r1 ek, q⟩
theorem st_chain {op op' : CmpOp} {o o2 : Op} (ho : OpR X (compareOp op) (rD W (opM o))) (ho' : OpR X (compareOp op') (rD W (opM o2))) (ha : SE W Wx X G a ca) (hb : SE W Wx X G b cb) (hc : SE W Wx X G c cc)
    (hm : lastMarks [op, op'] [b, c] = false := by with_unfolding_all rfl) : ST W Wx X G (.Compare a [op, op'] [b, c] pos) (.ch o o2 ca cb cc) :=
  PT.imp (pt_chain ho ho' ha hb hc hm) fun _ _ _ h => chain_core (fun _ _ _ _ z => z) (fun _ _ _ _ z => z) (tTest_of h)
/-- a name, a call, a subscript as a test -/
theorem st_val (h : SE W Wx X G e ce) (he : ∀ whole, isTrue e X.env whole = (do let v ← whole; standAt e.pos; holding [v] (truthy v)) := by intro _; rfl) : ST W Wx X G e ce :=
  PT.imp (pt_val h he) fun _ _ _ h => tTest_of h
theorem un_bind {f : M D} {o : D → Option D} : ((f.bind fun x => M.opt (o x)) : M D) = f.bind fun x => M.opt (o x) := rfl
theorem se_neg (ha : SE W Wx X G a ca) : SE W Wx X G (.UnaryOp .USub a pos) (.neg ca) := by
  refine PE.imp (pe_un un_neg ha) fun σ H Q h => ?_
  obtain ⟨m, ρ, S, re, rs, p⟩ := h
  refine tM_bind re rs p fun m1 H1 d S1 v x1 re1 rs1 r1 p1 => ?_
  obtain ⟨k, ek, q⟩ := PostA.opt rs1 p1
  cases d <;> try (cases ek; done)
  cases ek; cases r1
  exact ⟨_, rfl, q _ (.int _)⟩
theorem se_not (ha : SE W Wx X G a ca) : SE W Wx X G (.UnaryOp .Not a pos) (.not ca) := by
  refine PE.imp (pe_not ha) fun σ H Q h => ?_
  obtain ⟨m, ρ, S, re, rs, p⟩ := h
  have p' : PostA W Wx σ m H (((ev G ca ρ).bl.bind fun b => M.ret (.bl !b)) S) (KV1 W Q) := p
  rw [M.bl_bind] at p'
  refine tM_bind re rs p' fun m1 H1 d S1 v x1 re1 rs1 r1 p1 => ?_
  obtain ⟨k, ek, q⟩ := opt_bind p1
  exact ⟨k, bl_of r1 ek, q m1 H1 (Ext.refl _ _) rs1 _ (.bl _)⟩
theorem st_not (ha : ST W Wx X G a ca) : ST W Wx X G (.UnaryOp .Not a pos) (.not ca) := by
  refine PT.imp (pt_not ha) fun σ H Q h => ?_
  obtain ⟨m, ρ, S, re, rs, p⟩ := h
  have e : (ev G (.not ca) ρ).bl S = ((ev G ca ρ).bl.bind fun b => M.ret (!b)) S := by
    show (((ev G ca ρ).bl S).bind fun b => M.ret (.bl !b)).bind (fun d => M.opt (isBl d)) = ((ev G ca ρ).bl S).bind fun b => M.ret (!b)
    cases (ev G ca ρ).bl S <;> rfl
  replace p : PostA W Wx σ m H ((ev G (.not ca) ρ).bl S) (KB1 Q) := p
  rw [e] at p
  exact tT_bind re rs p fun m1 H1 k S1 x1 re1 rs1 p1 => p1 m1 H1 (Ext.refl _ _) rs1
theorem se_one {op : PySem.BoolOp} (h : SE W Wx X G a ca) : SE W Wx X G (.BoolOp op [a] pos) ca := pe_one h
theorem se_and {rest : List Expr} (ha : SE W Wx X G a ca) (hb : SE W Wx X G (.BoolOp .And (b :: rest) pos) cb) : SE W Wx X G (.BoolOp .And (a :: b :: rest) pos) (.and ca cb) := by
  refine PE.imp (pe_and ha hb) fun σ H Q h => ?_
  obtain ⟨m, ρ, S, re, rs, p⟩ := h
  have p' : PostA W Wx σ m H (((ev G ca ρ).bl.bind fun k => match k with
    | true => ev G cb ρ
    | false => M.ret (.bl false)) S) (KV1 W Q) := p
  rw [M.bl_bind] at p'
  refine tM_bind re rs p' fun m1 H1 d S1 v x1 re1 rs1 r1 p1 => ?_
  obtain ⟨k, ek, q⟩ := opt_bind p1
  refine ⟨k, bl_of r1 ek, ?_⟩
  cases k with
  | true => rw [if_pos rfl]; exact ⟨m1, ρ, S1, re1, rs1, q⟩
  | false => rw [if_neg (by decide)]; exact q m1 H1 (Ext.refl _ _) rs1 _ (.bl _)
theorem se_or {rest : List Expr} (ha : SE W Wx X G a ca) (hb : SE W Wx X G (.BoolOp .Or (b :: rest) pos) cb) : SE W Wx X G (.BoolOp .Or (a :: b :: rest) pos) (.or ca cb) := by
  refine PE.imp (pe_or ha hb) fun σ H Q h => ?_
  obtain ⟨m, ρ, S, re, rs, p⟩ := h
  have p' : PostA W Wx σ m H (((ev G ca ρ).bl.bind fun k => match k with
    | true => M.ret (.bl true)
    | false => ev G cb ρ) S) (KV1 W Q) := p
  rw [M.bl_bind] at p'
  refine tM_bind re rs p' fun m1 H1 d S1 v x1 re1 rs1 r1 p1 => ?_
  obtain ⟨k, ek, q⟩ := opt_bind p1
  refine ⟨k, bl_of r1 ek, ?_⟩
  cases k with
  | true => rw [if_pos rfl]; exact q m1 H1 (Ext.refl _ _) rs1 _ (.bl _)
  | false => rw [if_neg (by decide)]; exact ⟨m1, ρ, S1, re1, rs1, q⟩
theorem sw_and1 (ha : ST W Wx X G a ca) : SW W Wx X G (.BoolOp .And [a] pos) ca := pw_and1 ha
theorem sw_or1 (ha : ST W Wx X G a ca) : SW W Wx X G (.BoolOp .Or [a] pos) ca := pw_or1 ha
theorem sw_pt (h : SW W Wx X G e ce) : ST W Wx X G e ce := PW.pt h
theorem PW.imp {X : Cx} {e : Expr} {t t' : TT} (h : PW X e t) (i : ∀ σ H Q, t' σ H Q → t σ H Q) : PW X e t' := ⟨fun w pins s σ H Q I q => h.run w pins s σ H Q I (i σ H Q q)⟩
theorem bl_and {f g : M D} {o : Bool → M D} (ho : o = fun k => match k with
    | true => g
    | false => M.ret (.bl false)) : (f.bl.bind o).bl S = (f.bl.bind fun k => match k with
    | true => g.bl
    | false => M.ret false) S := by
  subst ho
  show ((f.bl S).bind _).bind _ = (f.bl S).bind _
  cases f.bl S with
  | ok k s => cases k <;> rfl
  | exc c s => rfl
  | bad => rfl
theorem bl_or {f g : M D} {o : Bool → M D} (ho : o = fun k => match k with
    | true => M.ret (.bl true)
    | false => g) : (f.bl.bind o).bl S = (f.bl.bind fun k => match k with
    | true => M.ret true
    | false => g.bl) S := by
  subst ho
  show ((f.bl S).bind _).bind _ = (f.bl S).bind _
  cases f.bl S with
  | ok k s => cases k <;> rfl
  | exc c s => rfl
  | bad => rfl
theorem sw_and {rest : List Expr} (ha : ST W Wx X G a ca) (hb : SW W Wx X G (.BoolOp .And (b :: rest) pos) cb) : SW W Wx X G (.BoolOp .And (a :: b :: rest) pos) (.and ca cb) := by
  refine PW.imp (pw_and ha hb) fun σ H Q h => ?_
  obtain ⟨m, ρ, S, re, rs, p⟩ := h
  have p' : PostA W Wx σ m H (((ev G ca ρ).bl.bind fun k => match k with
    | true => ev G cb ρ
    | false => M.ret (.bl false)).bl S) (KB1 Q) := p
  rw [bl_and rfl] at p'
  refine tT_bind re rs p' fun m1 H1 k S1 x1 re1 rs1 p1 => ?_
  cases k with
  | true => rw [if_pos rfl]; exact ⟨m1, ρ, S1, re1, rs1, p1⟩
  | false => rw [if_neg (by decide)]; exact p1 m1 H1 (Ext.refl _ _) rs1
theorem sw_or {rest : List Expr} (ha : ST W Wx X G a ca) (hb : SW W Wx X G (.BoolOp .Or (b :: rest) pos) cb) : SW W Wx X G (.BoolOp .Or (a :: b :: rest) pos) (.or ca cb) := by
  refine PW.imp (pw_or ha hb) fun σ H Q h => ?_
  obtain ⟨m, ρ, S, re, rs, p⟩ := h
  have p' : PostA W Wx σ m H (((ev G ca ρ).bl.bind fun k => match k with
    | true => M.ret (.bl true)
    | false => ev G cb ρ).bl S) (KB1 Q) := p
  rw [bl_or rfl] at p'
  refine tT_bind re rs p' fun m1 H1 k S1 x1 re1 rs1 p1 => ?_
  cases k with
  | true => rw [if_pos rfl]; exact p1 m1 H1 (Ext.refl _ _) rs1
  | false => rw [if_neg (by decide)]; exact ⟨m1, ρ, S1, re1, rs1, p1⟩
theorem se_ite (hc : ST W Wx X G c cc) (ha : SE W Wx X G a ca) (hb : SE W Wx X G b cb) : SE W Wx X G (.IfExp c a b pos) (.ite cc ca cb) := by
  refine PE.imp (pe_ifExp hc ha hb) fun σ H Q h => ?_
  obtain ⟨m, ρ, S, re, rs, p⟩ := h
  have p' : PostA W Wx σ m H (((ev G cc ρ).bl.bind fun k => match k with
    | true => ev G ca ρ
    | false => ev G cb ρ) S) (KV1 W Q) := p
  refine tT_bind re rs p' fun m1 H1 k S1 x1 re1 rs1 p1 => ?_
  cases k with
  | true => rw [if_pos rfl]; exact ⟨m1, ρ, S1, re1, rs1, p1⟩
  | false => rw [if_neg (by decide)]; exact ⟨m1, ρ, S1, re1, rs1, p1⟩
end
end PZ
end
section
/-! Mes: methods of built-in types. -/
set_option linter.all false
set_option maxRecDepth 100000
set_option maxHeartbeats 4000000
set_option Elab.async false
namespace PZ
open PySem PySem.Spec PyProof.Rows L2
section
variable {W : Wl} {Wx : WX} {X : Cx} {G : Glo} {m : Gh} {H : Hp} {S : Sto} {α : Type}
def rM (W : Wl) (f : D → List D → M D) : V → List V → Hp → VK → Prop := fun x vs H Q => ∃ m dx ds S, RepS W m H S ∧ Rep W m H x dx ∧ Reps W m H vs ds ∧ PostN W m H (f dx ds S) (KV1 W Q)
theorem PostN.okV {d : D} {S' : Sto} {Q : VK} (p : PostN W m H (.ok d S' : R D) (KV1 W Q)) {m' : Gh} {H' : Hp} {v : V} (x : Ext m H m' H') (rs : RepS W m' H' S') (r : Rep W m' H' v d) : Q v H' := p m' H' x rs v r
theorem lst_at (rs : RepS W m H S) {n : Nat} {a : Addr} {l : List D} (h : m.l[n]? = some a) (e : S[n]? = some (.lst l)) : ∃ xs, H a = some (.lst xs) ∧ Reps W m H xs l := by
  obtain ⟨o, ho, q⟩ := rs.at h
  rw [e] at ho; cases ho
  exact q
/-- a list written -/
theorem put_lst (rs : RepS W m H S) {n : Nat} {a : Addr} {xs : List V} {l : List D} (h : m.l[n]? = some a) (q : Reps W m H xs l) : RepS W m (upd H a (.lst xs)) (S.set n (.lst l)) :=
  rs.put h ⟨xs, upd_same, q.ext (ext_put (Gh.mem h))⟩
theorem me_append : MtR X "list.append" (rM W (meM .append)) := by
  intro pns s σ H x vs v us Q I rx rv h
  obtain ⟨m, dx, ds, S, rs, r1, r2, p⟩ := h
  cases dx <;> try (exact p.elim)
  rename_i n
  match ds, r2, p with
  | [], _, p => exact p.elim
  | _ :: _ :: _, _, p => exact p.elim
  | [y], r2, p =>
    obtain ⟨w, rfl, ry⟩ := Reps.one r2
    obtain ⟨a, rfl, hn⟩ := r1.refV
    cases z : S[n]? with
    | none => simp only [meM, z] at p; exact p.elim
    | some o =>
      cases o with
      | dic t lk kvs => simp only [meM, z] at p; exact p.elim
      | ins c fs => simp only [meM, z] at p; exact p.elim
      | lst l =>
        simp only [meM, z] at p
        obtain ⟨xs, hx, q⟩ := lst_at rs hn z
        split at p
        · rename_i hl
          refine mt_append pns s σ H _ _ v us Q I rx rv ⟨a, xs, w, rfl, rfl, hx, by rw [q.length]; exact Nat.lt_of_lt_of_le hl line_ok, ?_⟩
          exact PostN.okV p (ext_put (Gh.mem hn)) (put_lst rs hn (q.append (.cons ry .nil))) .non
        · exact p.elim
theorem me_pop1 : MtR X "list.pop" (rM W (meM .pop1)) := by
  intro pns s σ H x vs v us Q I rx rv h
  obtain ⟨m, dx, ds, S, rs, r1, r2, p⟩ := h
  cases dx <;> try (exact p.elim)
  rename_i n
  match ds, r2, p with
  | [], _, p => exact p.elim
  | [y], r2, p =>
    cases y <;> try (exact p.elim)
    rename_i i
    obtain ⟨w, rfl, ry⟩ := Reps.one r2
    cases ry
    obtain ⟨a, rfl, hn⟩ := r1.refV
    cases z : S[n]? with
    | none => simp only [meM, z] at p; exact p.elim
    | some o =>
      cases o with
      | dic t lk kvs => simp only [meM, z] at p; exact p.elim
      | ins c fs => simp only [meM, z] at p; exact p.elim
      | lst l =>
        simp only [meM, z] at p
        obtain ⟨xs, hx, q⟩ := lst_at rs hn z
        cases e : ixN l.length i with
        | none => rw [e] at p; exact p.elim
        | some k =>
          rw [e] at p
          cases e2 : l[k]? with
          | none => simp only [e2] at p; exact p.elim
          | some y =>
            simp only [e2] at p
            obtain ⟨wv, hw, rw'⟩ := q.get e2
            have hl : xs.length = l.length := q.length
            have e' : L2.ixN xs.length i = some k := by rw [hl]; exact e
            obtain ⟨s1, s2, s3, s4⟩ := ixN_seq e'
            have hz : xs.length ≤ sizeLine := (I.hok a _ hx).1
            rw [sizeLine_eq] at hz
            refine mt_popAt pns s σ H _ _ v us Q I rx rv ⟨a, xs, i, k, wv, rfl, rfl, hx, by omega, by omega, s1, hw, ?_⟩
            exact PostN.okV p (ext_put (Gh.mem hn)) (put_lst rs hn (q.eraseIdx k)) (rw'.ext (ext_put (Gh.mem hn)))
  | .int _ :: _ :: _, _, p => exact p.elim
  | .non :: _ :: _, _, p => exact p.elim
  | .bl _ :: _ :: _, _, p => exact p.elim
  | .str _ :: _ :: _, _, p => exact p.elim
  | .tup _ :: _ :: _, _, p => exact p.elim
  | .lst _ :: _ :: _, _, p => exact p.elim
  | .kt _ :: _ :: _, _, p => exact p.elim
  | .scr _ :: _ :: _, _, p => exact p.elim
  | .ref _ :: _ :: _, _, p => exact p.elim
  | .fn _ :: _ :: _, _, p => exact p.elim
  | .exv _ :: _ :: _, _, p => exact p.elim
/-! ### texts -/
theorem pfx_pre : pfx = TL.pre := rfl
theorem splT_spl (S : Tx) : ∀ (l : Tx) (k : Nat) (acc : Tx), splT S k acc l = TL.spl S k acc l
  | [], k, acc => by cases k <;> rfl
  | c :: r, 0, acc => by
    simp only [splT, TL.spl, pfx_pre]
    rw [splT_spl S r, splT_spl S r]
    rfl
  | c :: r, k + 1, acc => by
    simp only [splT, TL.spl]
    exact splT_spl S r k acc
theorem parT_par (S : Tx) : ∀ (l acc : Tx), parT S acc l = TL.par S acc l
  | [], acc => rfl
  | c :: r, acc => by
    simp only [parT, TL.par, pfx_pre]
    rw [parT_par S r]
    rfl
theorem joinT_joinL (S : Tx) : ∀ l : List Tx, joinT S l = TL.joinL S l
  | [] => rfl
  | [_] => rfl
  | p :: q :: r => by
    simp only [joinT, TL.joinL]
    rw [joinT_joinL S (q :: r)]
/-- one argument, of a text -/
theorem str_one {vs : List V} {p : Tx} (r : Reps W m H vs [.str p]) : ∃ x : Str, vs = [.str x] ∧ x.cps.toList = p ∧ x.cps.all (· < 0x110000) = true := by
  obtain ⟨w, rfl, ry⟩ := Reps.one r
  obtain ⟨x, rfl, e, a⟩ := ry.val.str
  exact ⟨x, rfl, e, a⟩
theorem all_sub {x : Str} {s t : Tx} (e : x.cps.toList = s) (a : x.cps.all (· < 0x110000) = true) (h : ∀ c ∈ t, c ∈ s) : t.all (· < 0x110000) = true := by
  have := all_T e a
  rw [List.all_eq_true] at *
  exact fun c hc => this c (h c hc)
theorem all_append {s t : Tx} (a : s.all (· < 0x110000) = true) (b : t.all (· < 0x110000) = true) : (s ++ t).all (· < 0x110000) = true := by rw [List.all_append, a, b]; rfl
theorem splT_mem (S : Tx) : ∀ (l : Tx) (k : Nat) (acc : Tx) (p : Tx), p ∈ splT S k acc l → ∀ c ∈ p, c ∈ acc ∨ c ∈ l
  | [], k, acc, p, h, c, hc => by
    have : p = acc := by cases k <;> simpa [splT] using h
    subst this; exact .inl hc
  | d :: r, 0, acc, p, h, c, hc => by
    simp only [splT] at h
    split at h
    · rcases List.mem_cons.mp h with h | h
      · subst h; exact .inl hc
      · rcases splT_mem S r _ _ p h c hc with h | h
        · cases h
        · exact .inr (List.mem_cons_of_mem _ h)
    · rcases splT_mem S r _ _ p h c hc with h | h
      · rcases List.mem_append.mp h with h | h
        · exact .inl h
        · rw [List.mem_singleton] at h; subst h; exact .inr (List.mem_cons_self ..)
      · exact .inr (List.mem_cons_of_mem _ h)
  | d :: r, k + 1, acc, p, h, c, hc => by
    simp only [splT] at h
    rcases splT_mem S r _ _ p h c hc with h | h
    · exact .inl h
    · exact .inr (List.mem_cons_of_mem _ h)
theorem splT_len (S : Tx) : ∀ (l : Tx) (k : Nat) (acc : Tx), (splT S k acc l).length ≤ l.length + 1
  | [], k, acc => by cases k <;> simp [splT]
  | d :: r, 0, acc => by
    simp only [splT]
    split
    · have := splT_len S r (S.length - 1) []
      simp only [List.length_cons]; omega
    · have := splT_len S r 0 (acc ++ [d])
      simp only [List.length_cons]; omega
  | d :: r, k + 1, acc => by
    simp only [splT]
    have := splT_len S r k acc
    simp only [List.length_cons]; omega
theorem reps_strs : ∀ {ys : List Str} {ts : List Tx}, ys.map TL.tl = ts → (∀ t ∈ ts, t.all (· < 0x110000) = true) → Reps W m H (ys.map V.str) (ts.map D.str)
  | [], _, e, _ => by subst e; exact .nil
  | y :: ys, _, e, h => by
    subst e
    exact .cons (.str rfl (by rw [← Array.all_toList]; exact h _ (List.mem_cons_self ..))) (reps_strs rfl fun t ht => h t (List.mem_cons_of_mem _ ht))
theorem me_split : MtR X "str.split" (rM W (meM .split)) := by
  intro pns s σ H x vs v us Q I rx rv h
  obtain ⟨m, dx, ds, S, rs, r1, r2, p⟩ := h
  cases dx <;> try (exact p.elim)
  rename_i z
  match ds, r2, p with
  | [], _, p => exact p.elim
  | .str _ :: _ :: _, _, p => exact p.elim
  | .int _ :: _, _, p => exact p.elim
  | .non :: _, _, p => exact p.elim
  | .bl _ :: _, _, p => exact p.elim
  | .tup _ :: _, _, p => exact p.elim
  | .lst _ :: _, _, p => exact p.elim
  | .kt _ :: _, _, p => exact p.elim
  | .scr _ :: _, _, p => exact p.elim
  | .ref _ :: _, _, p => exact p.elim
  | .fn _ :: _, _, p => exact p.elim
  | .exv _ :: _, _, p => exact p.elim
  | [.str c], r2, p =>
    simp only [meM] at p
    split at p
    · rename_i hc
      obtain ⟨h1, h2, h3⟩ := hc
      obtain ⟨y, rfl, e, a⟩ := r1.val.str
      obtain ⟨w, rfl, e2, a2⟩ := str_one r2
      have hw : TL.tl w ≠ [] := by rw [show TL.tl w = c from e2]; exact h1
      have hs := TL.split_spl y w hw (TL.kind_ok (by rw [← Array.all_toList, e2]; exact h2))
      refine mt_split pns s σ H _ _ v us Q I rx rv ⟨y, w, rfl, rfl, ?_, by rw [len_T e]; exact Nat.le_trans (show z.length + 2 ≤ line + 1 by omega) (by decide), fun q hq => ?_⟩
      · rw [len_T e2]
        exact beq_eq_false_iff_ne.mpr fun q => h1 (List.length_eq_zero_iff.mp q)
      · rw [show TL.tl w = c from e2, show TL.tl y = z from e, ← splT_spl] at hs
        refine PostN.okV p (ext_new hq) (rs.new hq) (.lst (rs.out hq) upd_same (reps_strs hs fun t ht => ?_))
        exact all_sub e a fun d hd => by
          rcases splT_mem _ _ _ _ t ht d hd with h | h
          · cases h
          · exact h
    · exact p.elim
theorem empty_rep : Rep W m H (.str Str.empty) (.str []) := rep_T (s := []) rfl
theorem me_partition : MtR X "str.partition" (rM W (meM .partition)) := by
  intro pns s σ H x vs v us Q I rx rv h
  obtain ⟨m, dx, ds, S, rs, r1, r2, p⟩ := h
  cases dx <;> try (exact p.elim)
  rename_i z
  match ds, r2, p with
  | [], _, p => exact p.elim
  | .str _ :: _ :: _, _, p => exact p.elim
  | .int _ :: _, _, p => exact p.elim
  | .non :: _, _, p => exact p.elim
  | .bl _ :: _, _, p => exact p.elim
  | .tup _ :: _, _, p => exact p.elim
  | .lst _ :: _, _, p => exact p.elim
  | .kt _ :: _, _, p => exact p.elim
  | .scr _ :: _, _, p => exact p.elim
  | .ref _ :: _, _, p => exact p.elim
  | .fn _ :: _, _, p => exact p.elim
  | .exv _ :: _, _, p => exact p.elim
  | [.str c], r2, p =>
    simp only [meM] at p
    split at p
    · exact p.elim
    · rename_i hc
      obtain ⟨y, rfl, e, a⟩ := r1.val.str
      obtain ⟨w, rfl, e2, a2⟩ := str_one r2
      have h1 : c ≠ [] := fun q => hc (.inl q)
      have h3 : z.length ≤ line := Nat.le_of_not_lt fun q => hc (.inr q)
      have hw : TL.tl w ≠ [] := by rw [show TL.tl w = c from e2]; exact h1
      have hs := TL.partition_par y w hw
      refine mt_partition pns s σ H _ _ v us Q I rx rv ⟨y, w, rfl, rfl, ?_, by rw [len_T e]; exact Nat.le_trans h3 line_ok, fun q hq => ?_⟩
      · rw [len_T e2]
        exact beq_eq_false_iff_ne.mpr fun q => h1 (List.length_eq_zero_iff.mp q)
      · rw [show TL.tl w = c from e2, show TL.tl y = z from e, ← parT_par] at hs
        have key : ∀ (l : Tx) (acc A B : Tx), parT c acc l = some (A, B) → (∀ d ∈ A, d ∈ acc ∨ d ∈ l) ∧ ∀ d ∈ B, d ∈ l := by
          intro l
          induction l with
          | nil => intro acc A B h; cases h
          | cons d r ih =>
            intro acc A B h
            simp only [parT] at h
            split at h
            · cases h
              exact ⟨fun d hd => .inl hd, fun d hd => List.mem_of_mem_drop hd⟩
            · obtain ⟨i1, i2⟩ := ih _ _ _ h
              refine ⟨fun x hx => ?_, fun x hx => List.mem_cons_of_mem _ (i2 x hx)⟩
              rcases i1 x hx with h | h
              · rcases List.mem_append.mp h with h | h
                · exact .inl h
                · rw [List.mem_singleton] at h; subst h; exact .inr (List.mem_cons_self ..)
              · exact .inr (List.mem_cons_of_mem _ h)
        cases zz : parT c [] z with
        | some ab =>
          obtain ⟨A, B⟩ := ab
          rw [zz] at p hs
          obtain ⟨k1, k2⟩ := key z [] A B zz
          rw [hs]
          refine PostN.okV p (ext_new hq) (rs.new hq) (.tup (.inl ⟨rs.out hq, .inl upd_same⟩) (.cons ?_ (.cons ?_ (.cons ?_ .nil))))
          · exact rep_T (all_sub e a fun d hd => (k1 d hd).elim (fun q => nomatch q) id)
          · exact .str e2 a2
          · exact rep_T (all_sub e a fun d hd => k2 d hd)
        | none =>
          rw [zz] at p hs
          rw [hs]
          exact PostN.okV p (ext_new hq) (rs.new hq) (.tup (.inl ⟨rs.out hq, .inl upd_same⟩) (.cons (.str e a) (.cons empty_rep (.cons empty_rep .nil))))
theorem strs_rep : ∀ {vs : List V} {ds : List D} {ts : List Tx}, Reps W m H vs ds → strsOf ds = some ts → ∃ ys : List Str, vs = ys.map V.str ∧ ys.map TL.tl = ts ∧ ∀ t ∈ ts, t.all (· < 0x110000) = true
  | _, _, _, .nil, h => by cases h; exact ⟨[], rfl, rfl, fun _ z => nomatch z⟩
  | _, _, _, .cons (d := d) (ds := ds) r t, h => by
    cases d <;> try (cases h; done)
    simp only [strsOf] at h
    cases z : strsOf ds with
    | none => rw [z] at h; cases h
    | some ts' =>
      rw [z] at h; cases h
      obtain ⟨x, rfl, e, a⟩ := r.val.str
      obtain ⟨ys, rfl, e2, a2⟩ := strs_rep t z
      refine ⟨x :: ys, rfl, by rw [List.map_cons, e2, show TL.tl x = _ from e], fun u hu => ?_⟩
      rcases List.mem_cons.mp hu with rfl | hu
      · exact all_T e a
      · exact a2 u hu
theorem joinT_all {z : Tx} (hz : z.all (· < 0x110000) = true) : ∀ {ts : List Tx}, (∀ t ∈ ts, t.all (· < 0x110000) = true) → (joinT z ts).all (· < 0x110000) = true
  | [], _ => rfl
  | [p], h => h p (List.mem_cons_self ..)
  | p :: q :: r, h => all_append (h p (List.mem_cons_self ..)) (all_append hz (joinT_all hz fun t ht => h t (List.mem_cons_of_mem _ ht)))
theorem me_join (hK : X.K = W.K) : MtR X "str.join" (rM W (meM .join)) := by
  intro pns s σ H x vs v us Q I rx rv h
  obtain ⟨m, dx, ds, S, rs, r1, r2, p⟩ := h
  cases dx <;> try (exact p.elim)
  rename_i z
  match ds, r2, p with
  | [], _, p => exact p.elim
  | _ :: _ :: _, _, p => exact p.elim
  | [y], r2, p =>
    simp only [meM] at p
    obtain ⟨xz, rfl, ez, az⟩ := r1.val.str
    obtain ⟨w, rfl, ry⟩ := Reps.one r2
    have vy := ry.rd rs
    have main : ∀ (l : List D) (ts : List Tx) (a : Addr) (xs : List V), w = .ref a → (SqL X.K H a xs ∨ SqT X.K H a xs) → Reps W m H xs l → strsOf l = some ts → (ts.map (·.length)).sum + ts.length * z.length ≤ line → PostN W m H (.ok (.str (joinT z ts)) S) (KV1 W Q) →
        wpAny (model X.prog X.w) X.A (call (.builtin "str.join") (v :: us)) (EP X pns σ Q) X.xe s := by
      intro l ts a xs ew hs q e hl p
      subst ew
      obtain ⟨ys, rfl, e2, a2⟩ := strs_rep q e
      refine mt_join pns s σ H _ _ v us Q I rx rv ⟨xz, a, ys, rfl, rfl, hs, ?_, ?_⟩
      · have e3 : (ys.map (·.length)) = ts.map (·.length) := by
          rw [← e2, List.map_map]
          exact List.map_congr_left fun t _ => TL.len_tl t
        have e4 : ys.length = ts.length := by rw [← e2, List.length_map]
        rw [e3, e4, len_T ez]
        exact Nat.le_trans hl (by decide)
      · have ej : (Txt.join xz ys).cps.toList = joinT z ts := by
          have := TL.tl_join xz ys
          rw [e2, show TL.tl xz = z from ez, ← joinT_joinL] at this
          exact (congrArg TL.tl (TL.join_eq xz ys)).trans this
        refine p m H (Ext.refl _ _) rs _ (.str ej ?_)
        rw [← Array.all_toList, ej]
        exact joinT_all (all_T ez az) a2
    cases zd : rd S y with
    | lst l =>
      rw [zd] at p vy
      obtain ⟨a, xs, ew, hx, q⟩ := vy.lst
      simp only at p
      cases e : strsOf l with
      | none => rw [e] at p; exact p.elim
      | some ts =>
        rw [e] at p
        simp only at p
        split at p
        · exact main l ts a xs ew (.inl (.of hx)) q e ‹_› p
        · exact p.elim
    | tup l =>
      rw [zd] at p vy
      obtain ⟨a, xs, ew, hx, q⟩ := vy.tup
      simp only at p
      cases e : strsOf l with
      | none => rw [e] at p; exact p.elim
      | some ts =>
        rw [e] at p
        simp only at p
        split at p
        · exact main l ts a xs ew (.inr (by rw [hK]; exact hx.sq)) q e ‹_› p
        · exact p.elim
    | _ => rw [zd] at p; exact p.elim
end
end PZ
end
section
/-! Mes2: more methods. -/
set_option linter.all false
set_option maxRecDepth 100000
set_option maxHeartbeats 4000000
set_option Elab.async false
namespace PZ
open PySem PySem.Spec PyProof.Rows L2
section
variable {W : Wl} {Wx : WX} {X : Cx} {G : Glo} {m : Gh} {H : Hp} {S : Sto} {α : Type}
theorem firstIx_spec {p : D → Bool} : ∀ {l : List D} {j : Nat}, firstIx p l = some j → ∃ z, l[j]? = some z ∧ p z = true ∧ ∀ k z', k < j → l[k]? = some z' → p z' = false
  | [], j, h => by cases h
  | x :: xs, j, h => by
    simp only [firstIx] at h
    split at h
    · rename_i hx
      cases h
      exact ⟨x, rfl, hx, fun k z' hk => absurd hk (Nat.not_lt_zero _)⟩
    · rename_i hx
      cases e : firstIx p xs with
      | none => rw [e] at h; cases h
      | some i =>
        rw [e] at h
        have hj : i + 1 = j := Option.some.inj h
        subst hj
        obtain ⟨z, h1, h2, h3⟩ := firstIx_spec e
        refine ⟨z, h1, h2, fun k z' hk hz => ?_⟩
        cases k with
        | zero =>
          have : x = z' := Option.some.inj hz
          subst this
          exact Bool.eq_false_iff.mpr hx
        | succ k => exact h3 k z' (by omega) hz
theorem toPs_get : ∀ {l : List D} {j : Nat} {z : D}, l[j]? = some z → (D.toPs l)[j]? = some z.toP
  | [], _, _, h => by simp at h
  | x :: xs, 0, z, h => by
    have : x = z := by simpa using h
    subst this; rfl
  | x :: xs, j + 1, z, h => by
    simpa [D.toPs] using toPs_get (l := xs) (j := j) (by simpa using h)
theorem toPs_getI : ∀ {l : List D} {j : Nat} {z : PyData}, (D.toPs l)[j]? = some z → ∃ d, l[j]? = some d ∧ z = d.toP
  | [], _, _, h => by simp [D.toPs] at h
  | x :: xs, 0, z, h => by
    have : x.toP = z := by simpa [D.toPs] using h
    exact ⟨x, rfl, this.symm⟩
  | x :: xs, j + 1, z, h => by
    obtain ⟨d, h1, h2⟩ := toPs_getI (l := xs) (j := j) (by simpa [D.toPs] using h)
    exact ⟨d, by simpa using h1, h2⟩
theorem pures_get : ∀ {l : List D} {j : Nat} {z : D}, D.pures l = true → l[j]? = some z → z.pure = true
  | [], _, _, _, h => by simp at h
  | x :: xs, 0, z, p, h => by
    simp only [D.pures, Bool.and_eq_true] at p
    have : x = z := by simpa using h
    subst this; exact p.1
  | x :: xs, j + 1, z, p, h => by
    simp only [D.pures, Bool.and_eq_true] at p
    exact pures_get p.2 (by simpa using h)
theorem me_index (hK : X.K = W.K) (hu : X.A.units + 65 < cLine) : MtR X "list.index" (rM W (meM .index)) := by
  intro pns s σ H x vs v us Q I rx rv h
  obtain ⟨m, dx, ds, S, rs, r1, r2, p⟩ := h
  match ds, r2, p with
  | [], _, p => exact (show False from by cases dx <;> exact p).elim
  | _ :: _ :: _, _, p => exact (show False from by cases dx <;> exact p).elim
  | [y], r2, p =>
    replace p : PostN W m H (match rd S dx with
      | .lst l => if shallow y (.lst l) then match firstIx (fun z => eqD z y) l with
          | some j => R.ok (.int j) S
          | none => .bad
        else .bad
      | _ => .bad) (KV1 W Q) := by cases dx <;> exact p
    have vx := r1.rd rs
    cases hl : rd S dx <;> rw [hl] at p vx <;> try (exact p.elim)
    rename_i l
    simp only at p
    split at p
    · rename_i hs
      obtain ⟨⟨py, pl⟩, dy, dl⟩ := shallow_pts hs
      cases e : firstIx (fun z => eqD z y) l with
      | none => rw [e] at p; exact p.elim
      | some j =>
        rw [e] at p
        simp only at p
        obtain ⟨w, rfl, ry⟩ := Reps.one r2
        obtain ⟨z, h1, h2, h3⟩ := firstIx_spec e
        obtain ⟨a, xs, rfl, hx, q⟩ := vx.lst
        have vd := (Val.ofL hx q).dp pl
        have pz : ∀ {k : Nat} {z : D}, l[k]? = some z → z.pure = true := fun h => pures_get (show D.pures l = true from pl) h
        refine mt_indexD hu pns s σ H _ _ v us Q I rx rv ⟨a, w, y.toP, D.toPs l, j, z.toP, rfl, rfl, by rw [hK]; exact vd, by rw [hK]; exact ry.dp py, (Val.ofL hx q).shaped pl dl, ry.val.shaped py dy, toPs_get h1, by rw [← eqD_toP (pz h1) py]; exact h2, fun k z' hk hz => ?_, ?_⟩
        · obtain ⟨d, g1, rfl⟩ := toPs_getI hz
          rw [← eqD_toP (pz g1) py]
          exact h3 k d hk g1
        · exact PostN.okV p (Ext.refl _ _) rs (.int _)
    · exact p.elim
theorem me_count (hK : X.K = W.K) (hu : X.A.units + 65 < cLine) : MtR X "list.count" (rM W (meM .count)) := by
  intro pns s σ H x vs v us Q I rx rv h
  obtain ⟨m, dx, ds, S, rs, r1, r2, p⟩ := h
  match ds, r2, p with
  | [], _, p => exact (show False from by cases dx <;> exact p).elim
  | y :: _ :: _, _, p => exact (show False from by cases dx <;> cases y <;> exact p).elim
  | [y], r2, p =>
    have hy : ∃ b, y = .bl b := by
      cases y with
      | bl b => exact ⟨b, rfl⟩
      | _ => exact (show False from by cases dx <;> exact p).elim
    obtain ⟨b, rfl⟩ := hy
    replace p : PostN W m H (match rd S dx with
      | .lst l => match blsOf l with
        | some bs => R.ok (.int (bs.count b)) S
        | none => .bad
      | _ => .bad) (KV1 W Q) := by cases dx <;> exact p
    have vx := r1.rd rs
    cases hl : rd S dx <;> rw [hl] at p vx <;> try (exact p.elim)
    rename_i l
    simp only at p
    cases e : blsOf l with
    | none => rw [e] at p; exact p.elim
    | some bs =>
      rw [e] at p
      simp only at p
      obtain ⟨w, rfl, ry⟩ := Reps.one r2
      cases ry
      obtain ⟨a, xs, rfl, hx, q⟩ := vx.lst
      have hxs := bls_rep q e
      subst hxs
      cases rx
      obtain ⟨u, rfl, ru⟩ := rv.one
      cases ru
      obtain ⟨hz, its, n, rvs, hlen, ho⟩ := I.lstM hx
      have hits : its = bs.map Value.bool := by
        clear ho hlen hz q e hx p hl vx r2 r1 rv
        induction bs generalizing its with
        | nil => cases rvs; rfl
        | cons c bs ih =>
          cases rvs with
          | cons g t =>
            cases g
            rw [ih _ t]; rfl
      subst hits
      refine call_meets PySem.F.slot_list_count ⟨_, ho, rfl⟩ PySem.F.entry_list_count (PySem.F.args_list_count_2 _ _)
        (SeqAt.list_countAt a (bs.map Value.bool).toArray n none #[] (.bool b) (fun u => u == .bool b)) ⟨ho, fun y hy => ?_, ?_⟩
      · obtain ⟨c, _, rfl⟩ := List.mem_map.mp (show y ∈ bs.map Value.bool by simpa using hy)
        have : ((Value.bool c == Value.bool b) : Bool) = (c == b) := by cases c <;> cases b <;> decide
        show SeqAt.EqAt _ _ _ _ (Value.bool c == Value.bool b)
        rw [this]
        exact SeqAt.EqAt.bool_bool c b
      · have ec : (bs.map Value.bool).toArray.toList.countP (fun u => u == .bool b) = bs.count b := by
          rw [List.toList_toArray, List.countP_map]
          unfold List.count
          refine List.countP_congr fun c _ => ?_
          cases c <;> cases b <;> decide
        refine ⟨.int (bs.count b : Nat), H, I.tok _, ⟨s.toks, by rw [ec]⟩, PostN.okV p (Ext.refl _ _) rs (.int _)⟩
end
end PZ
end
section
/-! Bis2: list, tuple, repr, divmod, sorted. -/
set_option linter.all false
set_option maxRecDepth 100000
set_option maxHeartbeats 4000000
set_option Elab.async false
namespace PZ
open PySem PySem.Spec PyProof.Rows L2
section
variable {W : Wl} {X : Cx} {m : Gh} {H : Hp} {S : Sto}
theorem cb_tuple (hK : X.K = W.K) : CallR X (.type "tuple") (rB W (biM .tuple)) := by
  intro pns s σ H vs us Q I rv h
  obtain ⟨m, ds, S, rs, r, p⟩ := h
  obtain ⟨d', e, k⟩ := biOpt (vs := vs) rs (biE (by decide) (by decide) (by decide) _) p
  obtain ⟨v, d, rfl, vd, e⟩ := one_of rs r e (fun a b l => by cases a <;> rfl) rfl
  obtain ⟨u, rfl, ru⟩ := rv.one
  cases d <;> try (cases e; done)
  · cases e
    obtain ⟨a, xs, rfl, t, q⟩ := vd.tup
    exact rl_tuple pns s σ H _ u Q I ru (.inr ⟨a, xs, rfl, by rw [hK]; exact t.sq, fin0 rs k (.tup t q)⟩)
  · cases e
    obtain ⟨a, xs, rfl, t, q⟩ := vd.lst
    exact rl_tuple pns s σ H _ u Q I ru (.inl ⟨a, xs, rfl, .of t, fun p hp => finT rs k hp q⟩)
theorem cb_divmod : CallR X (.builtin "divmod") (rB W (biM .divmod)) := by
  intro pns s σ H vs us Q I rv h
  obtain ⟨m, ds, S, rs, r, p⟩ := h
  obtain ⟨d', e, k⟩ := biOpt (vs := vs) rs (biE (by decide) (by decide) (by decide) _) p
  obtain ⟨v, w, d, d2, rfl, vd, vw, e⟩ := two_of rs r e (fun a => by cases a <;> rfl) rfl (fun a b c l => by cases a <;> cases b <;> rfl)
  cases d <;> cases d2 <;> try (cases e; done)
  simp only [biD] at e
  split at e
  · rename_i hc
    cases e; cases vd.int; cases vw.int
    exact call_divmod pns s σ H _ us Q I rv ⟨_, _, rfl, hc, fun p hp => finT rs k hp (.cons (.int _) (.cons (.int _) .nil))⟩
  · cases e
theorem cb_repr (hK : X.K = W.K) (hu : X.A.units + 65 < cLine) (hg : X.A.guards = some []) : CallR X (.builtin "repr") (rB W (biM .repr)) := by
  intro pns s σ H vs us Q I rv h
  obtain ⟨m, ds, S, rs, r, p⟩ := h
  obtain ⟨d', e, k⟩ := biOpt (vs := vs) rs (biE (by decide) (by decide) (by decide) _) p
  obtain ⟨v, d, rfl, vd, e⟩ := one_of rs r e (fun a b l => rfl) rfl
  obtain ⟨u, rfl, ru⟩ := rv.one
  simp only [biD] at e
  split at e
  · rename_i hc
    simp only [Bool.and_eq_true, decide_eq_true_eq] at hc
    obtain ⟨⟨⟨h1, h2⟩, h3⟩, h4⟩ := hc
    obtain ⟨⟨p1, _⟩, d1, _⟩ := shallow_pts h1
    cases e
    obtain ⟨as, rd⟩ := Dp.reads I d.toP v u (by rw [hK]; exact vd.dp p1) ru
    have hdp := dep_toP d
    have hlen : d.toP.shown.length ≤ sizeLine := by
      have : d.toP.shown.length = (reprT d).length := by simp [reprT, Str.length]
      rw [this]; exact Nat.le_trans h3 line_ok
    have hsh : Rep W m H (.str d.toP.shown) (.str (reprT d)) := .str rfl (by rw [← Array.all_toList]; exact h4)
    have fin : ∀ (h' : Heap) (t : Tok) (tk : Nat), (∀ b o, s.heap.get? b = some o → h'.get? b = some o) → EP X pns σ Q (.str d.toP.shown t) { s with heap := h', toks := tk } := fun h' t tk hk =>
      ⟨.str d.toP.shown, H, I.kept hk, ⟨t, rfl⟩, fin0 rs k hsh⟩
    have onref : ∀ a, u = .ref a → wpAny (model X.prog X.w) X.A (call (.builtin "repr") [u]) (EP X pns σ Q) X.xe s := by
      rintro a rfl
      refine repr_of_reads' rd h2 (PyData.noDict_hsm (PyData.hasDict_of_canLay _ (vd.lay p1))) hg (by omega) (fun _ _ e => e) (fun h' t tk hk => fin h' t tk hk) hlen
    cases d <;> try (cases p1; done)
    · cases vd.non; cases ru
      exact P.repr_of_none (fin _ _ _ fun _ _ e => e)
    · cases vd.bl; cases ru
      exact P.repr_of_bool (fin _ _ _ fun _ _ e => e)
    · cases vd.int; obtain ⟨t, rfl⟩ := ru
      exact P.repr_of_int (by simpa [D.toP, PyData.showable] using h2) (fin _ _ _ fun _ _ e => e)
    · obtain ⟨x, rfl, e1, _⟩ := vd.str; obtain ⟨t, rfl⟩ := ru
      have ex : x = ⟨(_ : Tx).toArray⟩ := T_eq e1
      subst ex
      exact P.repr_of_str (fin _ _ _ fun _ _ e => e) hlen
    · obtain ⟨a, xs, rfl, t, q⟩ := vd.tup
      exact onref a ru
    · obtain ⟨a, xs, rfl, t, q⟩ := vd.lst
      exact onref a ru
    · obtain ⟨a, xs, rfl, t, q⟩ := vd.kt
      exact onref a ru
  · cases e
end
end PZ
end
section
/-! Exp2: displays, subscripts, calls. -/
set_option linter.all false
set_option maxRecDepth 100000
set_option maxHeartbeats 4000000
set_option Elab.async false
namespace PZ
open PySem PySem.Spec PyProof.Rows L2
section
variable {W : Wl} {Wx : WX} {X : Cx} {G : Glo} {m : Gh} {H : Hp} {S : Sto} {σ : L2.St} {ρ : PZ.Env} {a b c e : Expr} {ca cb cc ce : CE} {es : List Expr} {ces : CEs} {pos p apos : Pos} {α β : Type} {x : Str}
theorem sa_nil : SA W Wx X G [] .nil := by
  refine PA.imp pa_nil fun σ H Q h => ?_
  obtain ⟨m, ρ, S, re, rs, p⟩ := h
  exact p m H (Ext.refl m H) rs [] .nil
theorem sa_cons (ha : SE W Wx X G e ce) (hr : SA W Wx X G es ces) (hs : starEach (e :: es) X.env = (false, eval e X.env) :: starEach es X.env := by rfl) : SA W Wx X G (e :: es) (.cons ce ces) := by
  refine PA.imp (pa_cons ha hr hs) fun σ H Q h => ?_
  obtain ⟨m, ρ, S, re, rs, p⟩ := h
  refine tM_bind re rs p fun m1 H1 d S1 v x1 re1 rs1 r1 p1 => ?_
  refine tL_bind re1 rs1 p1 fun m2 H2 ds S2 vs x2 re2 rs2 r2 p2 => ?_
  exact p2 m2 H2 (Ext.refl _ _) rs2 (v :: vs) (.cons (r1.ext x2) r2)
def CEs.len : CEs → Nat
  | .nil => 0
  | .cons _ es => es.len + 1
theorem evs_len : ∀ {es : CEs} {ρ : PZ.Env} {S S' : Sto} {ds : List D}, evs G es ρ S = .ok ds S' → ds.length = es.len
  | .nil, _, _, _, _, h => by cases h; rfl
  | .cons e es, ρ, S, S', ds, h => by
    have h' : ((ev G e ρ S).bind fun x => (evs G es ρ).bind fun xs => M.ret (x :: xs)) = .ok ds S' := h
    cases z : ev G e ρ S with
    | exc c s => rw [z] at h'; cases h'
    | bad => rw [z] at h'; cases h'
    | ok x s =>
      rw [z] at h'
      have h2 : ((evs G es ρ s).bind fun xs => M.ret (x :: xs)) = .ok ds S' := h'
      cases z2 : evs G es ρ s with
      | exc c s => rw [z2] at h2; cases h2
      | bad => rw [z2] at h2; cases h2
      | ok xs s2 =>
        rw [z2] at h2
        cases h2
        rw [List.length_cons, evs_len z2]; rfl
/-- arguments, then the rest, with how many -/
theorem tL_len {Q : List V → Hp → Prop} {g : List D → M β} {K : Gh → Hp → β → Sto → Prop} (re : RepE W m H σ ρ) (rs : RepS W m H S) (p : PostA W Wx σ m H ((evs G ces ρ).bind g S) K)
    (h : ∀ m1 H1 d S1 v, d.length = ces.len → Ext m H m1 H1 → RepE W m1 H1 σ ρ → RepS W m1 H1 S1 → Reps W m1 H1 v d → PostA W Wx σ m1 H1 (g d S1) K → Q v H1) : tL W Wx (evs G ces) σ H Q := by
  refine ⟨m, ρ, S, re, rs, ?_⟩
  have p' : PostA W Wx σ m H ((evs G ces ρ S).bind g) K := p
  cases e : evs G ces ρ S with
  | ok a s =>
    rw [e] at p'
    exact fun m1 H1 x r1 v rv => h m1 H1 a s v (evs_len e) x (re.ext x) r1 rv (PostA.ext p' x)
  | exc c s =>
    rw [e] at p'
    exact fun m1 H1 x r1 => p' m1 H1 x r1
  | bad => rw [e] at p'; exact p'
theorem se_tup {x1} (ha : SA W Wx X G es ces) (hl : ces.len ≤ line := by decide) : SE W Wx X G (.Tuple es x1 pos) (.tup ces) := by
  refine PE.imp (pe_tup ha) fun σ H Q h => ?_
  obtain ⟨m, ρ, S, re, rs, p⟩ := h
  refine tL_len re rs p fun m1 H1 ds S1 vs hd x1 re1 rs1 r1 p1 => ⟨by rw [r1.length, hd]; exact Nat.le_trans hl line_ok, fun q hq => ?_⟩
  exact p1 m1 _ (ext_new hq) (rs1.new hq) _ (.tup (.inl ⟨rs1.out hq, .inl upd_same⟩) (r1.ext (ext_new hq)))
theorem se_ktup {x1} (ha : SA W Wx X G es ces) (hl : ces.len ≤ line := by decide) : SE W Wx X G (.Tuple es x1 pos) (.ktup ces) := by
  refine PE.imp (pe_tup ha) fun σ H Q h => ?_
  obtain ⟨m, ρ, S, re, rs, p⟩ := h
  refine tL_len re rs p fun m1 H1 ds S1 vs hd x1 re1 rs1 r1 p1 => ⟨by rw [r1.length, hd]; exact Nat.le_trans hl line_ok, fun q hq => ?_⟩
  exact p1 m1 _ (ext_new hq) (rs1.new hq) _ (.kt (rs1.out hq) upd_same (r1.ext (ext_new hq)))
theorem se_lst (ha : SA W Wx X G es ces) (hl : ces.len ≤ line := by decide) : SE W Wx X G (.List es pos) (.lst ces) := by
  refine PE.imp (pe_lst ha) fun σ H Q h => ?_
  obtain ⟨m, ρ, S, re, rs, p⟩ := h
  refine tL_len re rs p fun m1 H1 ds S1 vs hd x1 re1 rs1 r1 p1 => ⟨by rw [r1.length, hd]; exact Nat.le_trans hl line_ok, fun q hq => ?_⟩
  exact p1 m1 _ (ext_new hq) (rs1.new hq) _ (.lst (rs1.out hq) upd_same (r1.ext (ext_new hq)))
/-- a new list of the store -/
theorem push_lst {Q : VK} {l : List D} {vs : List V} {q : Addr} (rs : RepS W m H S) (r : Reps W m H vs l) (hq : H q = none) (p : PostA W Wx σ m H (.ok (.ref S.length) (S ++ [.lst l]) : R D) (KV1 W Q)) : Q (.ref q) (upd H q (.lst vs)) := by
  refine p (m.push q) _ (ext_push hq) (rs.push hq ⟨vs, upd_same, r.ext (ext_push hq)⟩) _ (.ref ?_)
  show (m.l ++ [q])[_]? = _
  rw [← rs.len, List.getElem?_append_right (Nat.le_refl _), Nat.sub_self]; rfl
theorem se_new (ha : SA W Wx X G es ces) (hl : ces.len ≤ line := by decide) : SE W Wx X G (.List es pos) (.new (.lst ces)) := by
  refine PE.imp (pe_lst ha) fun σ H Q h => ?_
  obtain ⟨m, ρ, S, re, rs, p⟩ := h
  have e : ev G (.new (.lst ces)) ρ S = ((evs G ces ρ).bind fun xs => fun s => .ok (.ref s.length) (s ++ [.lst xs])) S := by
    show ((evs G ces ρ S).bind fun xs => M.ret (D.lst xs)).bind _ = (evs G ces ρ S).bind _
    cases evs G ces ρ S <;> rfl
  rw [e] at p
  refine tL_len re rs p fun m1 H1 ds S1 vs hd x1 re1 rs1 r1 p1 => ⟨by rw [r1.length, hd]; exact Nat.le_trans hl line_ok, fun q hq => ?_⟩
  exact push_lst rs1 r1 hq p1
/-! ### subscripts -/
theorem se_ix (O : Okb W X) (ha : SE W Wx X G a ca) (hb : SE W Wx X G b cb) (hs : PlainIx b := by intro _ _; rfl) : SE W Wx X G (.Subscript a b pos) (.op .ix ca cb) := by
  refine PE.imp (pe_ix (ixr O.hK O.hu) ha hb hs) fun σ H Q h => ?_
  obtain ⟨m, ρ, S, re, rs, p⟩ := h
  exact tM2 re rs p fun m1 H1 d d' S1 v v' x re1 rs1 r r' p1 => ⟨m1, d, d', S1, rs1, r, r', p1.toN (opM_nox .ix d d')⟩
def rSl (W : Wl) : V → Option Int → Option Int → Hp → VK → Prop := fun x lo hi H Q => ∃ m d S, RepS W m H S ∧ Rep W m H x d ∧ PostN W m H (M.opt (sliceD (rd S d) lo hi) S) (KV1 W Q)
theorem sIx_eq (n d : Nat) (o : Option Int) : sIx n d o = HT.sIx n d o := rfl
theorem cutV_eq (xs : List V) (lo hi : Option Int) : cutL xs lo hi = L2.cutV xs lo hi := rfl
theorem cutL_rep {vs : List V} {ds : List D} (r : Reps W m H vs ds) (lo hi : Option Int) : Reps W m H (cutL vs lo hi) (cutL ds lo hi) := by
  unfold cutL
  rw [r.length]
  exact (r.drop _).take _
theorem slr (hK : X.K = W.K) : SlR X (rSl W) := by
  intro pns s σ H x v vl vu lo hi sl Q I rx hs pl pu h
  obtain ⟨m, d, S, rs, r, p⟩ := h
  obtain ⟨d', e, k⟩ := optEnd p
  have vd := r.rd rs
  cases z : PZ.rd S d <;> rw [z] at e vd <;> try (cases e; done)
  · rename_i t
    simp only [sliceD] at e
    split at e
    · rename_i hl
      cases e
      obtain ⟨y, rfl, e1, a1⟩ := vd.str
      refine sl_str pns s σ H _ v vl vu lo hi sl Q I rx hs pl pu ⟨y, rfl, by rw [len_T e1]; exact Nat.le_trans hl line_ok, ?_⟩
      refine fin0 rs k ?_
      have ec : (cutS y lo hi).cps.toList = cutL t lo hi := by
        show ((y.cps.toList.drop (HT.sIx y.length 0 lo)).take (HT.sIx y.length y.length hi - HT.sIx y.length 0 lo)).toArray.toList = _
        rw [List.toList_toArray, e1, len_T e1]; rfl
      refine .str ec ?_
      rw [← Array.all_toList, ec]
      exact all_sub e1 a1 fun c hc => List.mem_of_mem_drop (List.mem_of_mem_take hc)
    · cases e
  · cases e
    rename_i l
    obtain ⟨a, xs, rfl, t, q⟩ := vd.tup
    refine sl_tupA pns s σ H _ v vl vu lo hi sl Q I rx hs pl pu ⟨a, xs, rfl, by rw [hK]; exact t.sq, fun hw => ?_, fun _ p hp => ?_⟩
    · refine fin0 rs k (.tup t ?_)
      have : cutL l lo hi = l := by
        unfold cutL
        rw [q.length] at hw
        rw [show sIx l.length 0 lo = 0 from hw.1, show sIx l.length l.length hi = l.length from hw.2]
        simp
      rw [this]; exact q
    · exact finT rs k hp (cutL_rep q lo hi)
  · cases e
    rename_i l
    obtain ⟨a, xs, rfl, t, q⟩ := vd.lst
    exact sl_list pns s σ H _ v vl vu lo hi sl Q I rx hs pl pu ⟨a, xs, rfl, .of t, fun p hp => finL rs k hp (cutL_rep q lo hi)⟩
  · cases e
    cases (show Rep W m H x (.scr _) from vd) with
    | scr h1 =>
      rename_i ns a
      refine sl_list pns s σ H _ v vl vu lo hi sl Q I rx hs pl pu ⟨a, _, rfl, (by rw [hK]; exact h1.sq), fun p hp => finL rs k hp ?_⟩
      have : Reps W m H (ns.map V.int) (ns.map D.int) := by
        clear k z h1 vd r
        induction ns with
        | nil => exact .nil
        | cons n ns ih => exact .cons (.int n) ih
      have q := cutL_rep this lo hi
      have e2 : cutL (ns.map D.int) lo hi = (cutL ns lo hi).map D.int := by
        unfold cutL
        rw [List.length_map, List.map_take, List.map_drop]
      rw [← e2]; exact q
theorem intD_of {v : V} {d : D} {i : Int} (r : Rep W m H v d) (h : intD d = some i) : v = .int i := by
  cases d <;> try (cases h; done)
  cases h; cases r; rfl
theorem se_slLo (O : Okx W Wx X) (ha : SE W Wx X G a ca) (hb : SE W Wx X G b cb) : SE W Wx X G (.Subscript a (.Slice (some b) none none p) pos) (.slLo ca cb) := by
  refine PE.imp (pe_slice (slr O.hK) ha (po_some hb) po_none) fun σ H Q h => ?_
  obtain ⟨m, ρ, S, re, rs, p⟩ := h
  refine tM2 re rs p fun m1 H1 d d' S1 v v' x re1 rs1 r r' p1 => ?_
  obtain ⟨i, e, p2⟩ := opt_bind p1
  exact ⟨i, intD_of r' e, m1, d, S1, rs1, r, p2.toN opt_nox⟩
theorem se_slHi (O : Okx W Wx X) (ha : SE W Wx X G a ca) (hb : SE W Wx X G b cb) : SE W Wx X G (.Subscript a (.Slice none (some b) none p) pos) (.slHi ca cb) := by
  refine PE.imp (pe_slice (slr O.hK) ha po_none (po_some hb)) fun σ H Q h => ?_
  obtain ⟨m, ρ, S, re, rs, p⟩ := h
  refine tM2 re rs p fun m1 H1 d d' S1 v v' x re1 rs1 r r' p1 => ?_
  obtain ⟨i, e, p2⟩ := opt_bind p1
  exact ⟨i, intD_of r' e, m1, d, S1, rs1, r, p2.toN opt_nox⟩
theorem se_sl (O : Okx W Wx X) (ha : SE W Wx X G a ca) (hb : SE W Wx X G b cb) (hc : SE W Wx X G c cc) : SE W Wx X G (.Subscript a (.Slice (some b) (some c) none p) pos) (.sl ca cb cc) := by
  refine PE.imp (pe_slice (slr O.hK) ha (po_some hb) (po_some hc)) fun σ H Q h => ?_
  obtain ⟨m, ρ, S, re, rs, p⟩ := h
  refine tM_bind re rs p fun m1 H1 d S1 v x re1 rs1 r p1 => ?_
  refine tM_bind re1 rs1 p1 fun m2 H2 d2 S2 v2 x2 re2 rs2 r2 p2 => ?_
  obtain ⟨i, e, p2⟩ := opt_bind p2
  refine ⟨i, intD_of r2 e, ?_⟩
  refine tM_bind re2 rs2 p2 fun m3 H3 d3 S3 v3 x3 re3 rs3 r3 p3 => ?_
  obtain ⟨j, e3, p3⟩ := opt_bind p3
  exact ⟨j, intD_of r3 e3, m3, d, S3, rs3, (r.ext x2).ext x3, p3.toN opt_nox⟩
/-! ### calls of built-in functions -/
theorem biM_nox (b : Bi) (ds : List D) (c : Nat) (s : Sto) : biM b ds S ≠ .exc c s := by
  unfold biM
  split
  · split
    · unfold biR
      split
      · exact fun z => nomatch z
      · exact fun z => nomatch z
      · exact opt_nox c s
      · exact fun z => nomatch z
      · exact fun z => nomatch z
      · exact fun z => nomatch z
      · exact fun z => nomatch z
      · exact fun z => nomatch z
      · exact opt_nox c s
    · exact opt_nox c s
  · exact opt_nox c s
theorem se_bi {id : String} {bb : Bi} (hc : CallR X (.builtin id) (rB W (biM bb))) (hg : Gl X x) (hm : X.mg x = none) (hv : bootBuiltins x = some (.builtin id)) (ha : SA W Wx X G (e :: es) ces) (hn : x ≠ "__name__" := by decide) (hdb : (x == ("__debug__" : Str)) = false := by decide)
    (he : starEach (e :: es) X.env = (false, eval e X.env) :: starEach es X.env := by rfl) (hpl : (backTo pos (starEach es X.env)).any (·.1) = false := by rfl) : SE W Wx X G (.Call (.Name x p) (e :: es) [] pos) (.bi bb ces) := by
  refine PE.imp (pe_callB hc hg hm hv ha hn hdb he hpl) fun σ H Q h => ?_
  obtain ⟨m, ρ, S, re, rs, p⟩ := h
  exact tL_bind re rs p fun m1 H1 ds S1 vs x1 re1 rs1 r1 p1 => ⟨m1, ds, S1, rs1, r1, p1.toN (biM_nox bb ds)⟩
theorem se_bty {T : String} {bb : Bi} (hc : CallR X (.type T) (rB W (biM bb))) (hg : Gl X x) (hm : X.mg x = none) (hv : bootBuiltins x = some (.type T)) (ha : SA W Wx X G (e :: es) ces) (hn : x ≠ "__name__" := by decide) (hdb : (x == ("__debug__" : Str)) = false := by decide)
    (he : starEach (e :: es) X.env = (false, eval e X.env) :: starEach es X.env := by rfl) (hpl : (backTo pos (starEach es X.env)).any (·.1) = false := by rfl) : SE W Wx X G (.Call (.Name x p) (e :: es) [] pos) (.bi bb ces) := by
  refine PE.imp (pe_callTy hc hg hm hv ha hn hdb he hpl) fun σ H Q h => ?_
  obtain ⟨m, ρ, S, re, rs, p⟩ := h
  exact tL_bind re rs p fun m1 H1 ds S1 vs x1 re1 rs1 r1 p1 => ⟨m1, ds, S1, rs1, r1, p1.toN (biM_nox bb ds)⟩
/-- isinstance(e, T) -/
theorem se_isi {T : String} {y : Str} {bb : Bi} {p2 : Pos} (hc : CallR X (.builtin "isinstance") (fun vs H Q => ∃ v, vs = [v, .ty T] ∧ rB W (biM bb) [v] H Q)) (hg : Gl X x) (hm : X.mg x = none) (hv : bootBuiltins x = some (.builtin "isinstance")) (hg2 : Gl X y) (hm2 : X.mg y = none) (hv2 : bootBuiltins y = some (.type T)) (ha : SE W Wx X G e ce) (hn : x ≠ "__name__" := by decide) (hdb : (x == ("__debug__" : Str)) = false := by decide) (hn2 : y ≠ "__name__" := by decide) (hdb2 : (y == ("__debug__" : Str)) = false := by decide)
    (he : starEach [e, .Name y p2] X.env = (false, eval e X.env) :: starEach [.Name y p2] X.env := by rfl) (he2 : starEach [.Name y p2] X.env = (false, eval (.Name y p2) X.env) :: starEach [] X.env := by rfl) (hpl : (backTo pos (starEach [.Name y p2] X.env)).any (·.1) = false := by rfl) : SE W Wx X G (.Call (.Name x p) [e, .Name y p2] [] pos) (.bi bb (.cons ce .nil)) := by
  refine PE.imp (pe_callB hc hg hm hv (pa_cons ha (pa_cons (pe_bltn hg2 hm2 hv2 (v := .ty T) rfl hn2 hdb2) pa_nil he2) he) hn hdb he hpl) fun σ H Q h => ?_
  obtain ⟨m, ρ, S, re, rs, p⟩ := h
  have e1 : ev G (.bi bb (.cons ce .nil)) ρ S = ((ev G ce ρ).bind fun x => biM bb [x]) S := by
    show ((ev G ce ρ S).bind fun x => (M.ret []).bind fun xs => M.ret (x :: xs)).bind _ = (ev G ce ρ S).bind _
    cases ev G ce ρ S <;> rfl
  rw [e1] at p
  exact tM_bind re rs p fun m1 H1 d S1 v x1 re1 rs1 r1 p1 => ⟨v, rfl, m1, [d], S1, rs1, .cons r1 .nil, p1.toN (biM_nox bb [d])⟩
end
end PZ
end
section
/-! Exp3: methods of built-in types, calls of defs. -/
set_option linter.all false
set_option maxRecDepth 100000
set_option maxHeartbeats 4000000
set_option Elab.async false
namespace PZ
open PySem PySem.Spec PyProof.Rows L2
section
variable {W : Wl} {Wx : WX} {X : Cx} {G : Glo} {m : Gh} {H : Hp} {S : Sto} {σ : L2.St} {ρ : PZ.Env} {a b c e o : Expr} {ca cb cc ce co : CE} {es : List Expr} {ces : CEs} {pos p apos cpos : Pos} {α β : Type} {x name : Str} {T id : String}
/-- the method stands where it is looked for -/
def TyW (W : Wl) (mm : Me) (T : String) : Prop := ∀ (m : Gh) (H : Hp) (S : Sto) (v : V) (d : D), RepS W m H S → Rep W m H v d → (∃ s', meTy mm d S = .ok () s') → meTy mm d S = .ok () S ∧ tyV W.K T v H
theorem meM_nox (mm : Me) (d : D) (ds : List D) (c : Nat) (s : Sto) : meM mm d ds S ≠ .exc c s := by
  unfold meM
  split <;> (try split) <;> (try split) <;> (try split) <;> (try split) <;> (try exact fun z => nomatch z)
theorem ty_lst (mm : Me) (h : ∀ d S, (∃ s', meTy mm d S = .ok () s') → meTy mm d S = .ok () S ∧ ∃ n l, d = .ref n ∧ S[n]? = some (.lst l)) : TyW W mm "list" := by
  intro m H S v d rs r hs
  obtain ⟨e, n, l, rfl, hn⟩ := h d S hs
  obtain ⟨a, rfl, ha⟩ := r.refV
  obtain ⟨xs, hx, q⟩ := lst_at rs ha hn
  exact ⟨e, .inl ⟨rfl, xs, .of hx⟩⟩
theorem ty_str (mm : Me) (h : ∀ d S, (∃ s', meTy mm d S = .ok () s') → meTy mm d S = .ok () S ∧ ∃ t, d = .str t) : TyW W mm "str" := by
  intro m H S v d rs r hs
  obtain ⟨e, t, rfl⟩ := h d S hs
  obtain ⟨y, rfl, _⟩ := r.val.str
  exact ⟨e, rfl⟩
theorem ty_rd (mm : Me) (h : ∀ d S, (∃ s', meTy mm d S = .ok () s') → meTy mm d S = .ok () S ∧ ∃ l, rd S d = .lst l) : TyW W mm "list" := by
  intro m H S v d rs r hs
  obtain ⟨e, l, hl⟩ := h d S hs
  have vd := r.rd rs
  rw [hl] at vd
  obtain ⟨a, xs, rfl, hx, q⟩ := vd.lst
  exact ⟨e, .inl ⟨rfl, xs, .of hx⟩⟩
theorem ty_ref1 {mm : Me} {d : D} (hm : mm = .append ∨ mm = .extend ∨ mm = .pop0 ∨ mm = .pop1) (h : ∃ s', meTy mm d S = .ok () s') : meTy mm d S = .ok () S ∧ ∃ n l, d = .ref n ∧ S[n]? = some (.lst l) := by
  obtain ⟨s', h⟩ := h
  rcases hm with rfl | rfl | rfl | rfl <;> cases d <;> try (cases h; done)
  all_goals
    rename_i n
    simp only [meTy] at h ⊢
    cases z : S[n]? with
    | none => rw [z] at h; cases h
    | some o =>
      rw [z] at h
      cases o with
      | lst l => exact ⟨rfl, n, l, rfl, z⟩
      | dic t lk kvs => cases h
      | ins c fs => cases h
theorem ty_append : TyW W .append "list" := ty_lst _ fun _ _ h => ty_ref1 (.inl rfl) h
theorem ty_extend : TyW W .extend "list" := ty_lst _ fun _ _ h => ty_ref1 (.inr (.inl rfl)) h
theorem ty_pop0 : TyW W .pop0 "list" := ty_lst _ fun _ _ h => ty_ref1 (.inr (.inr (.inl rfl))) h
theorem ty_pop1 : TyW W .pop1 "list" := ty_lst _ fun _ _ h => ty_ref1 (.inr (.inr (.inr rfl))) h
theorem ty_join : TyW W .join "str" := ty_str _ fun d S ⟨s', h⟩ => by
  cases d <;> try (cases h; done)
  exact ⟨rfl, _, rfl⟩
theorem ty_split : TyW W .split "str" := ty_str _ fun d S ⟨s', h⟩ => by
  cases d <;> try (cases h; done)
  exact ⟨rfl, _, rfl⟩
theorem ty_partition : TyW W .partition "str" := ty_str _ fun d S ⟨s', h⟩ => by
  cases d <;> try (cases h; done)
  exact ⟨rfl, _, rfl⟩
theorem ty_startswith : TyW W .startswith "str" := ty_str _ fun d S ⟨s', h⟩ => by
  cases d <;> try (cases h; done)
  exact ⟨rfl, _, rfl⟩
theorem ty_index : TyW W .index "list" := ty_rd _ fun d S ⟨s', h⟩ => by
  have h' : (match rd S d with | .lst _ => R.ok () S | _ => .bad) = .ok () s' := by cases d <;> exact h
  have g : meTy .index d S = (match rd S d with | .lst _ => R.ok () S | _ => .bad) := by cases d <;> rfl
  rw [g]
  cases z : rd S d <;> rw [z] at h' <;> try (cases h'; done)
  exact ⟨rfl, _, rfl⟩
theorem ty_count : TyW W .count "list" := ty_rd _ fun d S ⟨s', h⟩ => by
  have h' : (match rd S d with | .lst _ => R.ok () S | _ => .bad) = .ok () s' := by cases d <;> exact h
  have g : meTy .count d S = (match rd S d with | .lst _ => R.ok () S | _ => .bad) := by cases d <;> rfl
  rw [g]
  cases z : rd S d <;> rw [z] at h' <;> try (cases h'; done)
  exact ⟨rfl, _, rfl⟩
theorem meTy_nox (mm : Me) (d : D) (c : Nat) (s : Sto) : meTy mm d S ≠ .exc c s := by
  unfold meTy
  split <;> (try split) <;> (try exact fun z => nomatch z)
theorem tyStep {mm : Me} {d : D} {v : V} {g : Unit → M β} {K : Gh → Hp → β → Sto → Prop} (hT : TyW W mm T) (rs : RepS W m H S) (r : Rep W m H v d) (p : PostA W Wx σ m H ((meTy mm d).bind g S) K) : tyV W.K T v H ∧ PostA W Wx σ m H (g () S) K := by
  have p' : PostA W Wx σ m H ((meTy mm d S).bind g) K := p
  cases z : meTy mm d S with
  | ok u s' =>
    obtain ⟨e, ty⟩ := hT m H S v d rs r ⟨s', z⟩
    rw [e] at p'
    exact ⟨ty, p'⟩
  | exc c s => exact absurd z (meTy_nox mm d c s)
  | bad => rw [z] at p'; exact p'.elim
theorem se_me {mm : Me} (O : Okb W X) (pa : PlainAttrs T) (slot : Slot T name id) (hty : typeOf (.builtin id) = pure (.type "method_descriptor")) (hm : MtR X id (rM W (meM mm))) (hT : TyW W mm T) (ho : SE W Wx X G o co) (ha : SA W Wx X G (e :: es) ces)
    (hbase : attributeBase o name X.env (eval o X.env) = eval o X.env := by rfl)
    (hfew : ((backTo cpos (starEach (e :: es) X.env)).all (fun x => !x.1) && (backToKw cpos (keywordEach [] X.env)).all (fun x => x.1.isSome)
      && decide ((e :: es).length + ([] : List Keyword).length + (if ([] : List Keyword).isEmpty then 0 else 1) < 30)) = true := by rfl)
    (hline : (apos.endLine == cpos.line) = true := by rfl) (hs : starEach (e :: es) X.env = (false, eval e X.env) :: starEach es X.env := by rfl) (hplain : (backTo cpos (starEach es X.env)).any (·.1) = false := by rfl) :
    SE W Wx X G (.Call (.Attribute o name apos) (e :: es) [] cpos) (.me mm co ces) := by
  refine PE.imp (pe_bm pa slot hty hm ho ha hbase hfew hline hs hplain) fun σ H Q h => ?_
  obtain ⟨m, ρ, S, re, rs, p⟩ := h
  refine tM_bind re rs p fun m1 H1 d S1 v x1 re1 rs1 r1 p1 => ?_
  obtain ⟨ty, p2⟩ := tyStep hT rs1 r1 p1
  refine ⟨by rw [O.hK]; exact ty, ?_⟩
  exact tL_bind re1 rs1 p2 fun m2 H2 ds S2 vs x2 re2 rs2 r2 p3 => ⟨m2, d, ds, S2, rs2, r1.ext x2, r2, p3.toN (meM_nox mm d ds)⟩
theorem se_me0 {mm : Me} (O : Okb W X) (pa : PlainAttrs T) (slot : Slot T name id) (hty : typeOf (.builtin id) = pure (.type "method_descriptor")) (hm : MtR X id (rM W (meM mm))) (hT : TyW W mm T) (ho : SE W Wx X G o co)
    (hbase : attributeBase o name X.env (eval o X.env) = eval o X.env := by rfl) (hline : (apos.endLine == cpos.line) = true := by rfl) :
    SE W Wx X G (.Call (.Attribute o name apos) [] [] cpos) (.me mm co .nil) := by
  refine PE.imp (pe_bm0 pa slot hty hm ho hbase hline) fun σ H Q h => ?_
  obtain ⟨m, ρ, S, re, rs, p⟩ := h
  refine tM_bind re rs p fun m1 H1 d S1 v x1 re1 rs1 r1 p1 => ?_
  obtain ⟨ty, p2⟩ := tyStep hT rs1 r1 p1
  exact ⟨by rw [O.hK]; exact ty, m1, d, [], S1, rs1, r1, .nil, PostA.toN (σ := σ) (Wx := Wx) (meM_nox mm d []) p2⟩
/-! ### calls of defs -/
/-- what a def promises, by what it computes -/
def PostC (W : Wl) (m : Gh) (H : Hp) (r : R D) (Q : VK) (E : XK) : Prop := match r with
  | .ok d S' => ∀ m' H' v, Ext m H m' H' → RepS W m' H' S' → Rep W m' H' v d → Q v H'
  | .exc c S' => ∀ m' H', Ext m H m' H' → RepS W m' H' S' → E (.ref (W.cad c)) none H'
  | .bad => False
def spF (W : Wl) (n : Nat) (f : List D → M D) : Sp := fun vs H Q E => vs.length = n ∧ ∃ m ds S, RepS W m H S ∧ Reps W m H vs ds ∧ PostC W m H (f ds S) Q E
/-- a def that may be called: its place, its promise, what its last parameters are if nobody tells -/
structure Cal (W : Wl) (P : Program) (w : World) (mg : Str → Option Value) (base : Heap) (A : Around) (G : Glo) (i : Nat) (x : Str) (dfl : List D) : Prop where
  hm : mg x = some (.ref (W.fad i))
  hk : PySem.W.keepIn W.K (.ref (W.fad i)) = true
  ex : ∃ (gr : Bool) (k : Nat) (fd : FuncData) (ps : List Str) (ds : List Value) (dvs : List V), FnG gr P w W.K mg base k (W.fad i) fd ps (spF W ps.length (G.fn i)) ∧ Room k A ∧ (gr = true → A.guards = some []) ∧ Binds W.K fd ps ds ∧ Vals dvs ds ∧ (∀ ds S, ds.length ≠ ps.length → G.fn i ds S = .bad) ∧ ∀ (m : Gh) (H : Hp), Reps W m H dvs dfl
theorem evs_con : ∀ l : List D, evs G (CEs.app .nil l) ρ S = .ok l S
  | [] => rfl
  | d :: l => by
    show ((R.ok d S : R D).bind fun x => (evs G (CEs.app .nil l) ρ).bind fun xs => M.ret (x :: xs)) = _
    show ((evs G (CEs.app .nil l) ρ S).bind fun xs => M.ret (d :: xs)) = _
    rw [evs_con l]; rfl
theorem evs_app {l : List D} : ∀ {es : CEs} {S : Sto}, evs G (es.app l) ρ S = ((evs G es ρ).bind fun xs => M.ret (xs ++ l)) S
  | .nil, S => by rw [evs_con]; rfl
  | .cons e es, S => by
    show ((ev G e ρ S).bind fun x => (evs G (es.app l) ρ).bind fun xs => M.ret (x :: xs)) = ((ev G e ρ S).bind fun x => (evs G es ρ).bind fun xs => M.ret (x :: xs)).bind fun xs => M.ret (xs ++ l)
    cases ev G e ρ S with
    | exc c s => rfl
    | bad => rfl
    | ok x s =>
      show ((evs G (es.app l) ρ s).bind fun xs => M.ret (x :: xs)) = ((evs G es ρ s).bind fun xs => M.ret (x :: xs)).bind fun xs => M.ret (xs ++ l)
      rw [evs_app (es := es)]
      show ((evs G es ρ s).bind fun xs => M.ret (xs ++ l)).bind (fun xs => M.ret (x :: xs)) = _
      cases evs G es ρ s <;> rfl
theorem postC {r : R D} {Q : VK} (p : PostA W Wx σ m H r (KV1 W Q)) : PostC W m H r Q fun c d H' => Wx c d σ H' := by
  cases r with
  | ok d s => exact fun m' H' v x r rv => p m' H' x r v rv
  | exc c s => exact p
  | bad => exact p
theorem se_call {i : Nat} {dfl : List D} (O : Okx W Wx X) (F : Cal W X.prog X.w X.mg X.base X.A G i x dfl) (hg : Gl X x) (ha : SA W Wx X G (e :: es) ces) (hdb : (x == ("__debug__" : Str)) = false := by decide)
    (he : starEach (e :: es) X.env = (false, eval e X.env) :: starEach es X.env := by rfl) (hpl : (backTo pos (starEach es X.env)).any (·.1) = false := by rfl) : SE W Wx X G (.Call (.Name x p) (e :: es) [] pos) (.call i (ces.app dfl)) := by
  obtain ⟨gr, k, fd, ps, dsv, dvs, F1, hr, hgd, hb, hd, hlen, hdr⟩ := F.ex
  have hk := F.hk
  rw [← O.hK] at F1 hb hk
  refine PE.imp (pe_clG F1 hr hgd hg F.hm hk hb hd O.tk ha hdb he hpl) fun σ H Q h => ?_
  obtain ⟨m, ρ, S, re, rs, p⟩ := h
  have e1 : ev G (.call i (ces.app dfl)) ρ S = ((evs G ces ρ).bind fun xs => G.fn i (xs ++ dfl)) S := by
    show (evs G (ces.app dfl) ρ S).bind (fun xs => G.fn i xs) = _
    rw [evs_app]
    show ((evs G ces ρ S).bind _).bind _ = (evs G ces ρ S).bind _
    cases evs G ces ρ S <;> rfl
  rw [e1] at p
  refine tL_bind re rs p fun m1 H1 ds S1 vs x1 re1 rs1 r1 p1 => ?_
  have r2 := r1.append (hdr m1 H1)
  refine ⟨?_, m1, _, S1, rs1, r2, postC p1⟩
  rw [r2.length]
  by_cases hl : (ds ++ dfl).length = ps.length
  · exact hl
  · rw [hlen _ S1 hl] at p1; exact p1.elim
theorem se_call0 {i : Nat} {dfl : List D} (O : Okx W Wx X) (F : Cal W X.prog X.w X.mg X.base X.A G i x dfl) (hg : Gl X x) (hdb : (x == ("__debug__" : Str)) = false := by decide) : SE W Wx X G (.Call (.Name x p) [] [] pos) (.call i (CEs.app .nil dfl)) := by
  obtain ⟨gr, k, fd, ps, dsv, dvs, F1, hr, hgd, hb, hd, hlen, hdr⟩ := F.ex
  have hk := F.hk
  rw [← O.hK] at F1 hb hk
  refine PE.imp (pe_clG0 F1 hr hgd hg F.hm hk hb hd O.tk hdb) fun σ H Q h => ?_
  obtain ⟨m, ρ, S, re, rs, p⟩ := h
  have e1 : ev G (.call i (CEs.app .nil dfl)) ρ S = G.fn i dfl S := by
    show (evs G (CEs.app .nil dfl) ρ S).bind (fun xs => G.fn i xs) = _
    rw [evs_con]; rfl
  rw [e1] at p
  have r2 := hdr m H
  refine ⟨?_, m, _, S, rs, r2, postC p⟩
  show dvs.length = _
  rw [r2.length]
  by_cases hl : dfl.length = ps.length
  · exact hl
  · rw [hlen _ S hl] at p; exact p.elim
end
end PZ
end
section
/-! Stm: statements of the evaluator are the model's. -/
set_option linter.all false
set_option maxRecDepth 100000
set_option maxHeartbeats 4000000
set_option Elab.async false
namespace PZ
open PySem PySem.Spec PyProof.Rows L2
/-- what is wanted behind a statement -/
def PostS (W : Wl) (Wx : WX) (m : Gh) (H : Hp) (r : RS) (D : Ends) : Prop := match r with
  | .nx ρ S => ∀ m' H' σ', Ext m H m' H' → RepS W m' H' S → RepE W m' H' σ' ρ → D.nx σ' H'
  | .ct ρ S => ∀ m' H' σ', Ext m H m' H' → RepS W m' H' S → RepE W m' H' σ' ρ → D.ct σ' H'
  | .rt d S => ∀ m' H' v, Ext m H m' H' → RepS W m' H' S → Rep W m' H' v d → D.rt v H'
  | .exc c ρ S => ∀ m' H' σ', Ext m H m' H' → RepS W m' H' S → RepE W m' H' σ' ρ → Wx (.ref (W.cad c)) none σ' H'
  | .bad => False
def tS (W : Wl) (Wx : WX) (f : PZ.Env → Sto → RS) : TS := fun D σ H => ∃ m ρ S, RepE W m H σ ρ ∧ RepS W m H S ∧ PostS W Wx m H (f ρ S) D
def SS (W : Wl) (Wx : WX) (X : Cx) (G : Glo) (st : Stmt) (c : CS) : Prop := PS X st (tS W Wx (evS G c))
def SSs (W : Wl) (Wx : WX) (X : Cx) (G : Glo) (st : List Stmt) (c : CSs) : Prop := PSs X st (tS W Wx (evSs G c))
section
variable {W : Wl} {Wx : WX} {X : Cx} {G : Glo} {m m' : Gh} {H H' : Hp} {S : Sto} {σ : L2.St} {ρ : PZ.Env} {a b c e o : Expr} {ca cb cc ce co : CE} {st : Stmt} {rest : List Stmt} {cs ds : CSs} {cst : CS} {es : List Expr} {ces : CEs} {pos p apos cpos : Pos} {α β : Type} {x y z : Str} {D : Ends}
theorem PostS.ext {r : RS} (p : PostS W Wx m H r D) (x : Ext m H m' H') : PostS W Wx m' H' r D := by
  cases r with
  | nx ρ s => exact fun m2 H2 σ2 y => p m2 H2 σ2 (x.trans y)
  | ct ρ s => exact fun m2 H2 σ2 y => p m2 H2 σ2 (x.trans y)
  | rt d s => exact fun m2 H2 v y => p m2 H2 v (x.trans y)
  | exc c ρ s => exact fun m2 H2 σ2 y => p m2 H2 σ2 (x.trans y)
  | bad => exact p
theorem ss_nil : SSs W Wx X G [] .nil := by
  refine PSs.imp pss_nil fun D σ H h => ?_
  obtain ⟨m, ρ, S, re, rs, p⟩ := h
  exact p m H σ (Ext.refl m H) rs re
theorem then_post {r : RS} {k : PZ.Env → Sto → RS} (p : PostS W Wx m H (r.then k) D) : PostS W Wx m H r { D with nx := fun σ' H' => tS W Wx k D σ' H' } := by
  cases r with
  | nx ρ s => exact fun m' H' σ' x rs re => ⟨m', ρ, s, re, rs, PostS.ext p x⟩
  | ct ρ s => exact p
  | rt d s => exact p
  | exc c ρ s => exact p
  | bad => exact p
theorem ss_cons (h1 : SS W Wx X G st cst) (h2 : SSs W Wx X G rest cs) : SSs W Wx X G (st :: rest) (.cons cst cs) := by
  refine PSs.imp (pss_cons h1 h2) fun D σ H h => ?_
  obtain ⟨m, ρ, S, re, rs, p⟩ := h
  exact ⟨m, ρ, S, re, rs, then_post p⟩
/-- a value, then the rest of the statement -/
theorem tM_stm {k : PZ.D → Sto → RS} {Q : VK} (re : RepE W m H σ ρ) (rs : RepS W m H S) (p : PostS W Wx m H (RS.of (ev G ce ρ S) ρ k) D)
    (h : ∀ m1 H1 d S1 v, Ext m H m1 H1 → RepE W m1 H1 σ ρ → RepS W m1 H1 S1 → Rep W m1 H1 v d → PostS W Wx m1 H1 (k d S1) D → Q v H1) : tM W Wx (ev G ce) σ H Q := by
  refine ⟨m, ρ, S, re, rs, ?_⟩
  cases e : ev G ce ρ S with
  | ok a s =>
    rw [e] at p
    exact fun m1 H1 x r1 v rv => h m1 H1 a s v x (re.ext x) r1 rv (PostS.ext p x)
  | exc c s =>
    rw [e] at p
    exact fun m1 H1 x r1 => p m1 H1 σ x r1 (re.ext x)
  | bad => rw [e] at p; exact p
theorem tT_stm {k : Bool → Sto → RS} {Q : Bool → Hp → Prop} (re : RepE W m H σ ρ) (rs : RepS W m H S) (p : PostS W Wx m H (RS.of ((ev G ce ρ).bl S) ρ k) D)
    (h : ∀ m1 H1 d S1, Ext m H m1 H1 → RepE W m1 H1 σ ρ → RepS W m1 H1 S1 → PostS W Wx m1 H1 (k d S1) D → Q d H1) : tT W Wx (fun ρ => (ev G ce ρ).bl) σ H Q := by
  refine ⟨m, ρ, S, re, rs, ?_⟩
  show PostA W Wx σ m H ((ev G ce ρ).bl S) (KB1 Q)
  cases e : (ev G ce ρ).bl S with
  | ok a s =>
    rw [e] at p
    exact fun m1 H1 x r1 => h m1 H1 a s x (re.ext x) r1 (PostS.ext p x)
  | exc c s =>
    rw [e] at p
    exact fun m1 H1 x r1 => p m1 H1 σ x r1 (re.ext x)
  | bad => rw [e] at p; exact p
theorem ss_ex (he : SE W Wx X G e ce) (hs : swapsWith e none pos.line X.env = pure false := by rfl) : SS W Wx X G (.Expr e pos) (.ex ce) := by
  refine PS.imp (ps_expr he hs) fun D σ H h => ?_
  obtain ⟨m, ρ, S, re, rs, p⟩ := h
  exact tM_stm re rs p fun m1 H1 d S1 v x1 re1 rs1 r1 p1 => p1 m1 H1 σ (Ext.refl _ _) rs1 re1
theorem ss_ret (he : SE W Wx X G e ce) : SS W Wx X G (.Return (some e) pos) (.ret ce) := by
  refine PS.imp (ps_ret he) fun D σ H h => ?_
  obtain ⟨m, ρ, S, re, rs, p⟩ := h
  exact tM_stm re rs p fun m1 H1 d S1 v x1 re1 rs1 r1 p1 => p1 m1 H1 v (Ext.refl _ _) rs1 r1
theorem ss_retN : SS W Wx X G (.Return none pos) .retN := by
  refine PS.imp ps_retN fun D σ H h => ?_
  obtain ⟨m, ρ, S, re, rs, p⟩ := h
  exact p m H .non (Ext.refl _ _) rs .non
theorem ss_pass : SS W Wx X G (.Pass pos) .pass := by
  refine PS.imp ps_pass fun D σ H h => ?_
  obtain ⟨m, ρ, S, re, rs, p⟩ := h
  exact p m H σ (Ext.refl _ _) rs re
theorem ss_cont : SS W Wx X G (.Continue pos) .cont := by
  refine PS.imp ps_continue fun D σ H h => ?_
  obtain ⟨m, ρ, S, re, rs, p⟩ := h
  exact p m H σ (Ext.refl _ _) rs re
theorem ss_if {as bs : List Stmt} (hc : ST W Wx X G c cc) (ha : SSs W Wx X G as cs) (hb : SSs W Wx X G bs ds) : SS W Wx X G (.If c as bs pos) (.ite cc cs ds) := by
  refine PS.imp (ps_if hc ha hb) fun D σ H h => ?_
  obtain ⟨m, ρ, S, re, rs, p⟩ := h
  refine tT_stm re rs p fun m1 H1 k S1 x1 re1 rs1 p1 => ?_
  cases k with
  | true => rw [if_pos rfl]; exact ⟨m1, ρ, S1, re1, rs1, p1⟩
  | false => rw [if_neg (by decide)]; exact ⟨m1, ρ, S1, re1, rs1, p1⟩
/-! ### targets -/
def Keeps (is : List Nat) (σ σ' : L2.St) : Prop := ∀ vs : List Nat, (∀ i ∈ is, i ∈ vs) → L2.wipe σ' vs = L2.wipe σ vs
def tG (W : Wl) (tg : Tg) : TG := fun v σ H Q => ∃ m ρ d ρ', RepE W m H σ ρ ∧ Rep W m H v d ∧ bindT tg d ρ = some ρ' ∧ ∀ σ', RepE W m H σ' ρ' → Keeps tg.slots σ σ' → Q σ' H
def tGs (W : Wl) (tg : Tgs) : TGs := fun vs σ H Q => ∃ m ρ ds ρ', RepE W m H σ ρ ∧ Reps W m H vs ds ∧ bindTs tg ds ρ = some ρ' ∧ ∀ σ', RepE W m H σ' ρ' → Keeps tg.slots σ σ' → Q σ' H
def SG (W : Wl) (X : Cx) (e : Expr) (tg : Tg) : Prop := PG X e (tG W tg)
def SGs (W : Wl) (X : Cx) (e : List Expr) (tg : Tgs) : Prop := PGs X e (tGs W tg)
theorem PG.imp {X : Cx} {e : Expr} {t t' : TG} (h : PG X e t) (i : ∀ v σ H Q, t' v σ H Q → t v σ H Q) : PG X e t' := ⟨fun pins s σ H v u Q I r q => h.run pins s σ H v u Q I r (i v σ H Q q)⟩
theorem PGs.imp {X : Cx} {e : List Expr} {t t' : TGs} (h : PGs X e t) (i : ∀ v σ H Q, t' v σ H Q → t v σ H Q) : PGs X e t' := ⟨fun pins s σ H v u Q I r q => h.run pins s σ H v u Q I r (i v σ H Q q)⟩
theorem PG.or {X : Cx} {e : Expr} {t t' : TG} (h : PG X e t) (h' : PG X e t') : PG X e (fun v σ H Q => t v σ H Q ∨ t' v σ H Q) := ⟨fun pins s σ H v u Q I r q => by
  rcases q with q | q
  · exact h.run pins s σ H v u Q I r q
  · exact h'.run pins s σ H v u Q I r q⟩
theorem wipe_set {i : Nat} {u : Option V} {σ : L2.St} : ∀ {vs : List Nat}, i ∈ vs → L2.wipe (σ.set i u) vs = L2.wipe σ vs
  | [], h => nomatch h
  | v :: vs, h => by
    show (L2.wipe (σ.set i u) vs).set v none = (L2.wipe σ vs).set v none
    by_cases hv : i ∈ vs
    · rw [wipe_set hv]
    · have e : i = v := by
        rcases List.mem_cons.mp h with h | h
        · exact h
        · exact absurd h hv
      subst e
      have key : ∀ {ws : List Nat}, i ∉ ws → L2.wipe (σ.set i u) ws = (L2.wipe σ ws).set i u := by
        intro ws
        induction ws with
        | nil => intro _; rfl
        | cons w ws ih =>
          intro hw
          simp only [List.mem_cons, not_or] at hw
          show (L2.wipe (σ.set i u) ws).set w none = ((L2.wipe σ ws).set w none).set i u
          rw [ih hw.2, List.set_comm _ _ hw.1]
      rw [key hv, List.set_set]
theorem Keeps.set (i : Nat) (u : Option V) (σ : L2.St) : Keeps [i] σ (σ.set i u) := fun vs h => wipe_set (h i (List.mem_singleton.mpr rfl))
theorem Keeps.refl (is : List Nat) (σ : L2.St) : Keeps is σ σ := fun _ _ => rfl
theorem Keeps.trans {is js : List Nat} {σ σ1 σ2 : L2.St} (h : Keeps is σ σ1) (h' : Keeps js σ1 σ2) : Keeps (is ++ js) σ σ2 := fun vs hv =>
  (h' vs fun i hi => hv i (List.mem_append_right _ hi)).trans (h vs fun i hi => hv i (List.mem_append_left _ hi))
theorem sg_v {i : Nat} (O : X.N.Nodup) (hi : X.N[i]? = some x) (hx : Loc X.env.scope x) (hf : X.fn x = true ∨ X.env.scope.names.lookup x = some .local := by first | exact .inl rfl | exact .inr rfl | assumption) : SG W X (.Name x pos) (.v i) := by
  refine PG.imp (pg_name O hi hx hf) fun v σ H Q h => ?_
  obtain ⟨m, ρ, d, ρ', re, r, hb, q⟩ := h
  simp only [bindT] at hb
  split at hb
  · cases hb
    exact q _ (re.set r) (Keeps.set i _ σ)
  · cases hb
theorem sgs_nil : SGs W X [] .nil := by
  refine PGs.imp pgs_nil fun v σ H Q h => ?_
  obtain ⟨m, ρ, d, ρ', re, r, hb, q⟩ := h
  cases r with
  | nil =>
    cases hb
    exact ⟨rfl, q σ re (Keeps.refl _ _)⟩
  | cons r t => cases hb
theorem sgs_cons {tg : Tg} {tgs : Tgs} (h1 : SG W X e tg) (h2 : SGs W X es tgs) (hs : (assignEach (e :: es) X.env).map (·.2) = assign e X.env :: (assignEach es X.env).map (·.2) := by rfl) : SGs W X (e :: es) (.cons tg tgs) := by
  refine PGs.imp (pgs_cons h1 h2 hs) fun v σ H Q h => ?_
  obtain ⟨m, ρ, d, ρ', re, r, hb, q⟩ := h
  cases r with
  | nil => cases hb
  | cons r t =>
    rename_i v vs d ds
    simp only [bindTs] at hb
    cases hz : bindT tg d ρ with
    | none => rw [hz] at hb; cases hb
    | some ρ1 =>
      rw [hz] at hb
      exact ⟨v, vs, rfl, m, ρ, d, ρ1, re, r, hz, fun σ1 re1 k1 => ⟨m, ρ1, ds, ρ', re1, t, hb, fun σ2 re2 k2 => q σ2 re2 (k1.trans k2)⟩⟩
def Tgs.len : Tgs → Nat
  | .nil => 0
  | .cons _ r => r.len + 1
theorem bindTs_len : ∀ {tg : Tgs} {ds : List PZ.D} {ρ ρ' : PZ.Env}, bindTs tg ds ρ = some ρ' → ds.length = tg.len
  | .nil, [], _, _, _ => rfl
  | .nil, _ :: _, _, _, h => by cases h
  | .cons t r, [], _, _, h => by cases h
  | .cons t r, d :: ds, ρ, ρ', h => by
    simp only [bindTs] at h
    split at h
    · rw [List.length_cons, bindTs_len h]; rfl
    · cases h
theorem sg_t {tg : Tgs} {k : Nat} (hK : X.K = W.K) (hc : X.calm = true) (h : SGs W X es tg) (hn : (assignEach es X.env).length = tg.len := by rfl) (hst : (assignEach es X.env).findIdx? (·.1) = none := by rfl) : SG W X (.Tuple es k pos) (.t tg) := by
  refine PG.imp (PG.or (pg_tup hc h hn hst) (pg_unl hc h hn hst)) fun v σ H Q h => ?_
  obtain ⟨m, ρ, d, ρ', re, r, hb, q⟩ := h
  simp only [bindT] at hb
  cases hu : unp d with
  | none => rw [hu] at hb; cases hb
  | some ds =>
    rw [hu] at hb
    have hl := bindTs_len hb
    cases d <;> try (cases hu; done)
    · cases hu
      obtain ⟨a, xs, rfl, t, r'⟩ := r.val.tup
      exact .inl ⟨a, xs, rfl, by rw [hK]; exact t.sq, by rw [r'.length]; exact hl, m, ρ, ds, ρ', re, r', hb, q⟩
    · cases hu
      obtain ⟨a, xs, rfl, t, r'⟩ := r.val.lst
      exact .inr ⟨a, xs, rfl, .of t, by rw [r'.length]; exact hl, m, ρ, ds, ρ', re, r', hb, q⟩
    · cases hu
      obtain ⟨a, xs, rfl, _, t, r'⟩ := r.val.kt
      exact .inl ⟨a, xs, rfl, .of t, by rw [r'.length]; exact hl, m, ρ, ds, ρ', re, r', hb, q⟩
/-! ### stores to names -/
theorem asg_post {tg : Tg} {d : PZ.D} {S1 : Sto} {v : V} (re : RepE W m H σ ρ) (rs : RepS W m H S1) (r : Rep W m H v d) (p : PostS W Wx m H (match bindT tg d ρ with
    | some ρ' => RS.nx ρ' S1
    | none => .bad) D) : tG W tg v σ H D.nx := by
  cases hb : bindT tg d ρ with
  | none => rw [hb] at p; exact p.elim
  | some ρ' =>
    rw [hb] at p
    exact ⟨m, ρ, d, ρ', re, r, hb, fun σ' re' _ => p m H σ' (Ext.refl _ _) rs re'⟩
theorem ss_set {i : Nat} {pos' : Pos} (hN : X.N.Nodup) (hi : X.N[i]? = some x) (hx : Loc X.env.scope x) (he : SE W Wx X G e ce) (hs : swapsWith e (some (.Name x pos')) pos.line X.env = pure false := by rfl) (hf : X.fn x = true ∨ X.env.scope.names.lookup x = some .local := by first | exact .inl rfl | exact .inr rfl | assumption) : SS W Wx X G (.Assign [.Name x pos'] e pos) (.asg (.v i) ce) := by
  refine PS.imp (ps_set hN hi hx he hs hf) fun D σ H h => ?_
  obtain ⟨m, ρ, S, re, rs, p⟩ := h
  refine tM_stm re rs p fun m1 H1 d S1 v x1 re1 rs1 r1 p1 => ?_
  obtain ⟨m2, ρ2, d2, ρ2', re2, r2, hb, q⟩ := asg_post re1 rs1 r1 p1
  simp only [bindT] at hb
  split at hb
  · cases hb
    exact q _ (re2.set r2) (Keeps.set i _ σ)
  · cases hb
theorem ss_asg {tg : Tg} {t : Expr} (he : SE W Wx X G e ce) (hg : SG W X t tg) (hs : swapsWithSole [t] e pos.line X.env = pure false := by rfl) (hw : swappedStores [t] e X.env = pure none := by rfl) (h1 : (assignEach [t] X.env).map (·.2) = [assign t X.env] := by rfl) : SS W Wx X G (.Assign [t] e pos) (.asg tg ce) := by
  refine PS.imp (ps_asg he hg hs hw h1) fun D σ H h => ?_
  obtain ⟨m, ρ, S, re, rs, p⟩ := h
  exact tM_stm re rs p fun m1 H1 d S1 v x1 re1 rs1 r1 p1 => asg_post re1 rs1 r1 p1
theorem tL_stm {k : List PZ.D → Sto → RS} {Q : List V → Hp → Prop} (re : RepE W m H σ ρ) (rs : RepS W m H S) (p : PostS W Wx m H (RS.of (evs G ces ρ S) ρ k) D)
    (h : ∀ m1 H1 d S1 v, d.length = ces.len → Ext m H m1 H1 → RepE W m1 H1 σ ρ → RepS W m1 H1 S1 → Reps W m1 H1 v d → PostS W Wx m1 H1 (k d S1) D → Q v H1) : tL W Wx (evs G ces) σ H Q := by
  refine ⟨m, ρ, S, re, rs, ?_⟩
  cases e : evs G ces ρ S with
  | ok a s =>
    rw [e] at p
    exact fun m1 H1 x r1 v rv => h m1 H1 a s v (evs_len e) x (re.ext x) r1 rv (PostS.ext p x)
  | exc c s =>
    rw [e] at p
    exact fun m1 H1 x r1 => p m1 H1 σ x r1 (re.ext x)
  | bad => rw [e] at p; exact p
theorem of_tup {k : PZ.D → Sto → RS} : RS.of (ev G (.tup ces) ρ S) ρ k = RS.of (evs G ces ρ S) ρ fun ds S => k (.tup ds) S := by
  show RS.of ((evs G ces ρ S).bind fun xs => M.ret (.tup xs)) ρ k = _
  cases evs G ces ρ S <;> rfl
theorem ss_par {i j : Nat} {px py pt : Pos} {kt k2 pt2} {ca cb : CE} (O : Okx W Wx X) (hi : X.N[i]? = some x) (hj : X.N[j]? = some y) (hij : i ≠ j) (hx : X.env.scope.names.lookup x = some .local) (hy : X.env.scope.names.lookup y = some .local) (ha : SA W Wx X G [a, b] (.cons ca (.cons cb .nil)))
    (hw : swappedStores [.Tuple [.Name x px, .Name y py] kt pt] (.Tuple [a, b] k2 pt2) X.env = pure (some [x, y]) := by rfl)
    (hs : swapsWithSole [.Tuple [.Name x px, .Name y py] kt pt] (.Tuple [a, b] k2 pt2) pos.line X.env = pure false := by rfl) : SS W Wx X G (.Assign [.Tuple [.Name x px, .Name y py] kt pt] (.Tuple [a, b] k2 pt2) pos) (.asg (.t (.cons (.v i) (.cons (.v j) .nil))) (.tup (.cons ca (.cons cb .nil)))) := by
  refine PS.imp (ps_par O.calm O.nd hi hj hij hx hy ha hw hs) fun D σ H h => ?_
  obtain ⟨m, ρ, S, re, rs, p⟩ := h
  have p' : PostS W Wx m H (RS.of (ev G (.tup (.cons ca (.cons cb .nil))) ρ S) ρ fun x s => match bindT (.t (.cons (.v i) (.cons (.v j) .nil))) x ρ with
    | some ρ' => .nx ρ' s
    | none => .bad) D := p
  rw [of_tup] at p'
  refine tL_stm re rs p' fun m1 H1 ds S1 vs hd x1 re1 rs1 r1 p1 => ?_
  match ds, r1, hd, p1 with
  | [d, d'], r1, _, p1 =>
    obtain ⟨v, w, rfl, r, r'⟩ := r1.two
    refine ⟨v, w, rfl, ?_⟩
    simp only [bindT, bindTs, unp] at p1
    split at p1
    · rename_i ρ' hb
      split at hb
      · rename_i ρ1 hb1
        split at hb1
        · cases hb1
          split at hb
          · rename_i ρ2 hb2
            split at hb2
            · cases hb2; cases hb
              exact p1 m1 H1 _ (Ext.refl _ _) rs1 ((re1.set r).set r')
            · cases hb2
          · cases hb
        · cases hb1
      · cases hb
    · exact p1.elim
end
end PZ
end
section
/-! ZipD: zip of two or three things and enumerate, each a list, a tuple or a text. -/
set_option linter.all false
set_option maxRecDepth 100000
set_option maxHeartbeats 4000000
set_option Elab.async false
namespace PZ
open PySem PySem.Spec PyProof.Rows L2
/-- what is gone through -/
inductive Src where
  | lst (a : Addr) (xs : List V) | tup (a : Addr) (xs : List V) | txt (x : Str)
namespace Src
def ok (K : PySem.W.Frag) (H : Hp) : Src → Prop
  | .lst a xs => SqL K H a xs
  | .tup a xs => SqT K H a xs
  | .txt _ => True
def len : Src → Nat
  | .lst _ xs => xs.length
  | .tup _ xs => xs.length
  | .txt x => x.cps.size
def get (i : Nat) : Src → Option V
  | .lst _ xs => xs[i]?
  | .tup _ xs => xs[i]?
  | .txt x => (x.cps[i]?).map fun c => .str ⟨#[c]⟩
def val : Src → V
  | .lst a _ => .ref a
  | .tup a _ => .ref a
  | .txt x => .str x
def it (t : Addr) (i : Nat) (h : Heap) : Src → Prop
  | .lst a _ => h.IsListIter t a i
  | .tup a _ => h.IsTupleIter t a i
  | .txt x => ∃ tk, h.IsStrIter t (strIterType x) x tk i
def fp (t : Addr) : Src → List Addr
  | .lst a _ => [t, a]
  | .tup a _ => [t, a]
  | .txt _ => [t]
end Src
section
variable {X : Cx} {pns : List (Addr × Obj)} {σ : L2.St} {H : Hp} {s : Shared}
theorem Src.it_at {sr : Src} {t : Addr} {i : Nat} {h h' : Heap} (q : sr.it t i h) (k : ∀ o, h.get? t = some o → h'.get? t = some o) : sr.it t i h' := by
  cases sr with
  | lst a xs => exact Heap.IsListIter.at q k
  | tup a xs => exact Heap.IsTupleIter.at q k
  | txt x => obtain ⟨tk, o, e, r⟩ := q; exact ⟨tk, o, k o e, r⟩
theorem Src.it_obj {sr : Src} {t : Addr} {i : Nat} {h : Heap} (q : sr.it t i h) : ∃ o, h.get? t = some o ∧ ∀ v, o.data ≠ .cell v := by
  cases sr with
  | lst a xs => obtain ⟨o, e, _, d⟩ := q; exact ⟨o, e, fun v z => by rw [d] at z; cases z⟩
  | tup a xs => obtain ⟨o, e, _, d⟩ := q; exact ⟨o, e, fun v z => by rw [d] at z; cases z⟩
  | txt x => obtain ⟨tk, o, e, _, d⟩ := q; exact ⟨o, e, fun v z => by rw [d] at z; cases z⟩
/-- what a value of the module or a tracked one is stands apart from an iterator's cells -/
theorem apart {a b : Addr} (I : Inv X pns σ H s) (ha : (∃ u, H a = some u) ∨ ∃ o, X.K.lookup a = some o) (hb : FpOk X pns H b) : a ≠ b := by
  rintro rfl
  obtain ⟨f0, f1, f2, f3, _⟩ := hb
  rcases ha with ⟨u, e⟩ | ⟨o, e⟩
  · rw [f0] at e; cases e
  · have hbase := I.ok.mod.kin a o e
    rcases f3 with f3 | f3
    · exact I.ok.noex a o hbase f3
    · exact absurd (Nat.lt_of_lt_of_le (Heap.lt_size hbase) (Nat.le_trans I.ok.bsz f3)) (Nat.lt_irrefl _)
theorem sq_hasL {K : PySem.W.Frag} {a : Addr} {xs : List V} (h : SqL K H a xs) : (∃ u, H a = some u) ∨ ∃ o, K.lookup a = some o := by
  rcases h with h | h
  · rcases h with h | ⟨o, h⟩
    · exact .inl ⟨_, h⟩
    · exact .inl ⟨_, h⟩
  · obtain ⟨o, _, _, e, _⟩ := h
    exact .inr ⟨o, e⟩
theorem sq_hasT {K : PySem.W.Frag} {a : Addr} {xs : List V} (h : SqT K H a xs) : (∃ u, H a = some u) ∨ ∃ o, K.lookup a = some o := by
  rcases h with h | h
  · rcases h with h | ⟨o, h⟩
    · exact .inl ⟨_, h⟩
    · exact .inl ⟨_, h⟩
  · obtain ⟨o, _, _, e, _⟩ := h
    exact .inr ⟨o, e⟩
/-- what an iterator over it draws -/
theorem Src.draws {sr : Src} {t : Addr} {i : Nat} (A : Around) (hh : A.handled = none) (I : Inv X pns σ H s) (ok : sr.ok X.K H) (f : FpOk X pns H t) (q : sr.it t i s.heap) :
    ∃ (n : Nat) (P : Nat → Value → Prop) (St : Nat → Heap → Prop), Draws X.prog X.w A t (sr.fp t) n P St ∧ n = sr.len ∧ St i s.heap ∧ (∀ j h', St j h' → sr.it t j h') ∧ ∀ j x, P j x → ∃ v, sr.get j = some v ∧ RelV v x := by
  cases sr with
  | lst a xs =>
    obtain ⟨its, rv, p, _⟩ := I.list ok
    refine ⟨_, _, _, Draws.list hh t a (apart I (sq_hasL ok) f) its.toArray, ?_, ⟨q, p.isList⟩, fun j h' st => st.1, fun j x hx => ?_⟩
    · rw [List.size_toArray]; exact rv.length.symm
    · have hx' : its[j]? = some x := by simpa using hx
      have hl : j < xs.length := by rw [rv.length]; exact (List.getElem?_eq_some_iff.mp hx').1
      obtain ⟨u, hu, ru⟩ := rv.get (List.getElem?_eq_getElem hl)
      rw [hx'] at hu; cases hu
      exact ⟨xs[j], List.getElem?_eq_getElem hl, ru⟩
  | tup a xs =>
    obtain ⟨its, rv, p, _⟩ := I.tuple ok
    refine ⟨_, _, _, Draws.tuple hh t a (apart I (sq_hasT ok) f) its.toArray, ?_, ⟨q, (show s.heap.IsTuple a its.toArray from p)⟩, fun j h' st => st.1, fun j x hx => ?_⟩
    · rw [List.size_toArray]; exact rv.length.symm
    · have hx' : its[j]? = some x := by simpa using hx
      have hl : j < xs.length := by rw [rv.length]; exact (List.getElem?_eq_some_iff.mp hx').1
      obtain ⟨u, hu, ru⟩ := rv.get (List.getElem?_eq_getElem hl)
      rw [hx'] at hu; cases hu
      exact ⟨xs[j], List.getElem?_eq_getElem hl, ru⟩
  | txt x =>
    obtain ⟨tk, q⟩ := q
    refine ⟨_, _, _, Draws.text hh t x tk, rfl, q, fun j h' st => ⟨tk, st⟩, fun j v hx => ?_⟩
    obtain ⟨c, u, hc, rfl⟩ := hx
    exact ⟨.str ⟨#[c]⟩, by show (x.cps[j]?).map _ = _; rw [hc]; rfl, u, rfl⟩
/-- a tuple new at a turn -/
theorem turn_new {T : Addr} {vs : List V} {us : List Value} {h' : Heap} {tk : Nat} {ch : List Addr} (I : Inv X pns σ H s) (hk : ∀ b o, b ∉ ch → s.heap.get? b = some o → h'.get? b = some o) (hf : ∀ b ∈ ch, FpOk X pns H b) (hT : s.heap.objs.size ≤ T) (rv : Vals vs us) (hn : vs.length ≤ sizeLine) (it : h'.IsTuple T us.toArray) :
    Inv X pns σ (upd H T (.tup vs)) { s with heap := h', toks := tk } :=
  I.turnedNew (t' := tk) (ch := ch) hk hf hT ⟨hn, us, rv, it⟩
/-- .. by pairs -/
def Itd2 (K : PySem.W.Frag) (s1 s2 : Src) : It :=
  ⟨fun i H => s1.ok K H ∧ s2.ok K H ∧ i < min s1.len s2.len, fun i H v H' => ∃ T x y, v = .ref T ∧ H T = none ∧ H' = upd H T (.tup [x, y]) ∧ s1.get i = some x ∧ s2.get i = some y, fun i H => s1.ok K H ∧ s2.ok K H ∧ i = min s1.len s2.len⟩
theorem fp_sep {a b : Addr} {sr : Src} (I : Inv X pns σ H s) (ok : sr.ok X.K H) (h : b ≠ a) (f : FpOk X pns H b) : b ∉ sr.fp a := by
  cases sr with
  | lst l xs =>
    intro z
    simp only [Src.fp, List.mem_cons, List.not_mem_nil, or_false] at z
    rcases z with z | z
    · exact h z
    · exact apart I (sq_hasL ok) f z.symm
  | tup l xs =>
    intro z
    simp only [Src.fp, List.mem_cons, List.not_mem_nil, or_false] at z
    rcases z with z | z
    · exact h z
    · exact apart I (sq_hasT ok) f z.symm
  | txt x =>
    intro z
    simp only [Src.fp, List.mem_cons, List.not_mem_nil, or_false] at z
    exact h z
theorem fp_mem (sr : Src) (a : Addr) : a ∈ sr.fp a := by cases sr <;> simp [Src.fp]
/-- five cells apart -/
structure Five (z TI TO i1 i2 : Addr) : Prop where
  a : TI ≠ z
  b : TO ≠ z
  c : TI ≠ TO
  d : TI ≠ i1
  e : TI ≠ i2
  f : z ≠ i1
  g : z ≠ i2
  h : TO ≠ i1
  i : TO ≠ i2
  j : i1 ≠ i2
theorem turn_z2 {P : Program} {w : World} {K : PySem.W.Frag} {elts : List Expr} {kk : Nat} {tpos : Pos} {z TI TO i1 i2 : Addr} (s1 s2 : Src) (D : Five z TI TO i1 i2) :
    Turn P w K (.Tuple elts kk tpos) (Itd2 K s1 s2) [z, TI, TO, i1, i2] z (fun i h => IsZip h z TI TO .none ∧ IsTupOf2 h TI (.ref i1) (.ref i2) ∧ (∃ x y, IsTupOf2 h TO x y) ∧ s1.it i1 i h ∧ s2.it i2 i h) where
  mem := by simp
  obj := fun i h st c hc => by
    obtain ⟨hz, hTI, ⟨x, y, hTO⟩, h1, h2⟩ := st
    simp only [List.mem_cons, List.not_mem_nil, or_false] at hc
    rcases hc with q | q | q | q | q
    · rw [q]; exact ⟨_, hz, fun v q => nomatch q⟩
    · rw [q]; exact ⟨_, hTI, fun v q => nomatch q⟩
    · rw [q]; exact ⟨_, hTO, fun v q => nomatch q⟩
    · rw [q]; exact Src.it_obj h1
    · rw [q]; exact Src.it_obj h2
  keep := fun i h h' st k => by
    obtain ⟨hz, hTI, ⟨x, y, hTO⟩, h1, h2⟩ := st
    exact ⟨k z (by simp) _ hz, k TI (by simp) _ hTI, ⟨x, y, k TO (by simp) _ hTO⟩, Src.it_at h1 fun o q => k i1 (by simp) o q, Src.it_at h2 fun o q => k i2 (by simp) o q⟩
  item := by
    intro X hP hw hK hc i pins s σ H E I hf st hg
    subst hP hw hK
    obtain ⟨hz, hTI, hTO, h1, h2⟩ := st
    obtain ⟨ok1, ok2, hi⟩ := hg
    have fz := hf z (by simp)
    have fT := hf TO (by simp)
    have f1 := hf i1 (by simp)
    have f2 := hf i2 (by simp)
    obtain ⟨n1, P1, St1, D1, e1, g1, k1, p1⟩ := Src.draws X.A.in1 (I.ok.hd hc) I ok1 f1 h1
    obtain ⟨n2, P2, St2, D2, e2, g2, k2, p2⟩ := Src.draws X.A.in1 (I.ok.hd hc) I ok2 f2 h2
    have sep : ZipSep2 z TI TO i1 i2 (s1.fp i1) (s2.fp i2) := ⟨D.a, D.b, D.c, D.d, fp_mem _ _, fp_sep I ok1 D.f fz, fp_sep I ok1 D.h fT, D.e, fp_mem _ _, fp_sep I ok2 D.g fz, fp_sep I ok2 D.i fT, fp_sep I ok2 D.j f1, fp_sep I ok1 D.j.symm f2⟩
    have W := GoesN.zip2 (elts := elts) (x1 := kk) (pos := tpos) sep D1 D2
    refine W.goes i s _ E (by rw [e1, e2]; exact hi) ⟨hz, hTI, hTO, g1, g2⟩ fun v h' tk hY st' hk htk => ?_
    obtain ⟨T, x, y, rfl, hT, hx, hy, hIs⟩ := hY
    obtain ⟨vx, gx, rx⟩ := p1 i x hx
    obtain ⟨vy, gy, ry⟩ := p2 i y hy
    have hn : H T = none := I.hok.fresh hT
    refine ⟨.ref T, upd H T (.tup [vx, vy]), turn_new (ch := [z, TO, i1, i2]) I hk (fun b hb => hf b (by simp only [List.mem_cons] at hb ⊢; grind)) hT (.cons rx (.cons ry .nil)) (by show 2 ≤ sizeLine; decide) hIs, rfl, ⟨T, vx, vy, rfl, hn, rfl, gx, gy⟩, ⟨st'.1, st'.2.1, st'.2.2.1, k1 _ _ st'.2.2.2.1, k2 _ _ st'.2.2.2.2⟩, fun b hb => ?_⟩
    by_cases hbT : b = T
    · subst hbT
      exfalso
      have : b < s.heap.objs.size := by
        simp only [List.mem_cons, List.not_mem_nil, or_false] at hb
        rcases hb with q | q | q | q | q
        · rw [q]; exact Heap.lt_size hz
        · rw [q]; exact Heap.lt_size hTI
        · rw [q]; obtain ⟨_, _, q⟩ := hTO; exact Heap.lt_size q
        · rw [q]; obtain ⟨_, q, _⟩ := Src.it_obj h1; exact Heap.lt_size q
        · rw [q]; obtain ⟨_, q, _⟩ := Src.it_obj h2; exact Heap.lt_size q
      exact absurd (Nat.lt_of_lt_of_le this hT) (Nat.lt_irrefl _)
    · rw [upd_ne hbT]; exact (hf b hb).1
  done := by
    intro X hP hw hK hc i pins s σ H E I hf st hg
    subst hP hw hK
    obtain ⟨hz, hTI, hTO, h1, h2⟩ := st
    obtain ⟨ok1, ok2, hi⟩ := hg
    have fz := hf z (by simp)
    have fT := hf TO (by simp)
    have f1 := hf i1 (by simp)
    have f2 := hf i2 (by simp)
    obtain ⟨n1, P1, St1, D1, e1, g1, k1, p1⟩ := Src.draws X.A.in1 (I.ok.hd hc) I ok1 f1 h1
    obtain ⟨n2, P2, St2, D2, e2, g2, k2, p2⟩ := Src.draws X.A.in1 (I.ok.hd hc) I ok2 f2 h2
    have sep : ZipSep2 z TI TO i1 i2 (s1.fp i1) (s2.fp i2) := ⟨D.a, D.b, D.c, D.d, fp_mem _ _, fp_sep I ok1 D.f fz, fp_sep I ok1 D.h fT, D.e, fp_mem _ _, fp_sep I ok2 D.g fz, fp_sep I ok2 D.i fT, fp_sep I ok2 D.j f1, fp_sep I ok1 D.j.symm f2⟩
    have W := GoesN.zip2 (elts := elts) (x1 := kk) (pos := tpos) sep D1 D2
    rw [← e1, ← e2] at hi
    subst hi
    exact W.stops s _ E ⟨hz, hTI, hTO, g1, g2⟩ fun h' tk hk htk => I.turnedL (t' := tk) (ch := [z, TO, i1, i2]) hk fun b hb => hf b (by simp only [List.mem_cons] at hb ⊢; grind)
  self := fun A i s Q E st h => wpAny_pyIter_zip st.1 h
/-- iter() of it -/
theorem Src.begins (sr : Src) (I : Inv X pns σ H s) (ok : sr.ok X.K H) {u : Value} (r : RelV sr.val u) : ∃ (o : Obj) (B : Heap → Prop), Begins u o B ∧ B s.heap ∧ ∀ h' t, h'.get? t = some o → sr.it t 0 h' := by
  cases sr with
  | lst a xs =>
    cases r
    obtain ⟨its, rv, p, _⟩ := I.list ok
    exact ⟨_, _, begins_list a its.toArray, p.isList, fun h' t e => ⟨_, e, rfl, rfl⟩⟩
  | tup a xs =>
    cases r
    obtain ⟨its, rv, p, _⟩ := I.tuple ok
    exact ⟨_, _, begins_tuple a its.toArray, (show s.heap.IsTuple a its.toArray from p), fun h' t e => ⟨_, e, rfl, rfl⟩⟩
  | txt x =>
    obtain ⟨tk, rfl⟩ := r
    exact ⟨_, _, begins_text x tk, trivial, fun h' t e => ⟨tk, _, e, rfl, rfl⟩⟩
def iZd2 (K : PySem.W.Frag) (ta : TA) : TI := fun σ H R => ta σ H fun vs H1 => ∃ s1 s2 : Src, vs = [s1.val, s2.val] ∧ s1.ok K H1 ∧ s2.ok K H1 ∧ R (Itd2 K s1 s2) H1
theorem pi_zd2 {e e2 : Expr} {ta : TA} {p pos tpos : Pos} {elts : List Expr} {kk : Nat} (hg : Gl X "zip") (hm : X.mg "zip" = none) (ha : PA X [e, e2] ta)
    (hs : starEach [e, e2] X.env = (false, eval e X.env) :: starEach [e2] X.env := by rfl) (hpl : (backTo pos (starEach [e2] X.env)).any (·.1) = false := by rfl) :
    PI X (.Tuple elts kk tpos) (.Call (.Name "zip" p) [e, e2] [] pos) (iZd2 X.K ta) := by
  refine ⟨fun pins s σ H R I h => ?_⟩
  refine Call_ (ld_blt I hg hm PyProof.Rows.boot_zip (PyProof.Rows.callWith_type1 (thn (ha.run pos pins s σ H _ I h) fun us sA ⟨vs, H1, I1, r1, q1⟩ => ?_) hs hpl))
  obtain ⟨s1, s2, rfl, ok1, ok2, q⟩ := q1
  obtain ⟨u1, u2, rfl, r, r'⟩ := vals2 r1
  obtain ⟨o1, B1, b1, c1, d1⟩ := s1.begins I1 ok1 r
  obtain ⟨o2, B2, b2, c2, d2⟩ := s2.begins I1 ok2 r'
  refine zip_begins2 b1 b2 c1 c2 fun h' hz hTI hTO g1 g2 hsz hk => wpAny_pyIter_zip hz ?_
  have I2 : Inv X pins σ H1 { sA with heap := h' } := I1.kept (t' := sA.toks) hk
  refine ⟨sA.heap.objs.size + 4, [sA.heap.objs.size + 4, sA.heap.objs.size + 2, sA.heap.objs.size + 3, sA.heap.objs.size, sA.heap.objs.size + 1], _, _, H1, rfl, I2, turn_z2 s1 s2 ⟨?_, ?_, ?_, ?_, ?_, ?_, ?_, ?_, ?_, ?_⟩, ⟨hz, hTI, ⟨_, _, hTO⟩, d1 h' _ g1, d2 h' _ g2⟩, fun b hb => ?_, q⟩
  case refine_11 =>
    have hle : sA.heap.objs.size ≤ b := by
      simp only [List.mem_cons, List.not_mem_nil, or_false] at hb
      rcases hb with z | z | z | z | z
      · rw [z]; exact Nat.le_add_right _ _
      · rw [z]; exact Nat.le_add_right _ _
      · rw [z]; exact Nat.le_add_right _ _
      · rw [z]; exact Nat.le_refl _
      · rw [z]; exact Nat.le_add_right _ _
    exact I1.fpOk hle (I1.hok.fresh hle)
  all_goals (show (_ : Nat) ≠ _; omega)
end
end PZ
end
section
/-! Iter: what loops and comprehensions walk. -/
set_option linter.all false
set_option maxRecDepth 100000
set_option maxHeartbeats 4000000
set_option Elab.async false
namespace PZ
open PySem PySem.Spec PyProof.Rows L2
/-- Ext, but hidden lists may have changed -/
structure Exw (m : Gh) (H : Hp) (m' : Gh) (H' : Hp) : Prop where
  pre : ∃ k, m'.l = m.l ++ k
  keep : ∀ a o, H a = some o → a ∉ m → (∀ ps, o ≠ .tbl ps) → H' a = some o
  fresh : ∀ a ∈ m', a ∈ m ∨ New H a
theorem Ext.w {m m' : Gh} {H H' : Hp} (x : Ext m H m' H') : Exw m H m' H' := ⟨x.pre, x.keep, x.fresh⟩
section
variable {W : Wl} {m m' m2 : Gh} {H H' H2 : Hp}
theorem Exw.out (x : Exw m H m' H') {a : Addr} {o : HO} (e : H a = some o) (h : a ∉ m) (n : ∀ ps, o ≠ .tbl ps := by exact fun _ q => nomatch q) : a ∉ m' := fun z => by
  rcases x.fresh a z with z | z
  · exact h z
  · exact z.not e n
theorem Exw.get (x : Exw m H m' H') {n : Nat} {a : Addr} (h : m.l[n]? = some a) : m'.l[n]? = some a := by
  obtain ⟨k, e⟩ := x.pre
  rw [e, List.getElem?_append_left (List.getElem?_eq_some_iff.mp h).1]
  exact h
theorem ScrAt.extw {K : PySem.W.Frag} {a : Addr} {ns : List Int} (h : ScrAt K m H a ns) (x : Exw m H m' H') : ScrAt K m' H' a ns := by
  rcases h with ⟨h, o, e⟩ | h
  · exact .inl ⟨x.out e h, o, x.keep _ _ e h fun _ q => nomatch q⟩
  · exact .inr h
theorem TupAt.extw {K : PySem.W.Frag} {a : Addr} {xs : List V} (h : TupAt K m H a xs) (x : Exw m H m' H') : TupAt K m' H' a xs := by
  rcases h with ⟨h1, h2 | ⟨o, h2⟩⟩ | h
  · exact .inl ⟨x.out h2 h1, .inl (x.keep _ _ h2 h1 fun _ q => nomatch q)⟩
  · exact .inl ⟨x.out h2 h1, .inr ⟨o, x.keep _ _ h2 h1 fun _ q => nomatch q⟩⟩
  · exact .inr h
mutual
theorem Rep.extw (x : Exw m H m' H') : ∀ {v : V} {d : D}, Rep W m H v d → Rep W m' H' v d
  | _, _, .non => .non
  | _, _, .bl b => .bl b
  | _, _, .int i => .int i
  | _, _, .str e h => .str e h
  | _, _, .tup h r => .tup (h.extw x) (Reps.extw x r)
  | _, _, .lst h e r => .lst (x.out e h) (x.keep _ _ e h fun _ q => nomatch q) (Reps.extw x r)
  | _, _, .kt h e r => .kt (x.out e h) (x.keep _ _ e h fun _ q => nomatch q) (Reps.extw x r)
  | _, _, .scr h => .scr (h.extw x)
  | _, _, .ref h => .ref (x.get h)
  | _, _, .fn => .fn
  | _, _, .exv h => .exv h
theorem Reps.extw (x : Exw m H m' H') : ∀ {vs : List V} {ds : List D}, Reps W m H vs ds → Reps W m' H' vs ds
  | _, _, .nil => .nil
  | _, _, .cons r t => .cons (Rep.extw x r) (Reps.extw x t)
end
end
/-- an iterator that gives the items of w, while w stands -/
structure WalkOk (W : Wl) (m0 : Gh) (H0 : Hp) (w : Wk) (J : It) : Prop where
  ex : ∃ (Gd : Hp → Prop) (Y : Nat → Hp → V → Hp → Prop), Walk J w.its.length Gd Y ∧ (∀ m H S, Exw m0 H0 m H → RepS W m H S → w.ok S = true → Gd H) ∧
    ∀ m H S i x H', Exw m0 H0 m H → RepS W m H S → w.ok S = true → i < w.its.length → Y i H x H' → ∃ d, w.its[i]? = some d ∧ Ext m H m H' ∧ RepS W m H' S ∧ Rep W m H' x d
def KW (W : Wl) (R : It → Hp → Prop) : Gh → Hp → Wk → Sto → Prop := fun m' H' w _ => ∀ J, WalkOk W m' H' w J → R J H'
def tI (W : Wl) (Wx : WX) (f : PZ.Env → M Wk) : TI := fun σ H R => ∃ m ρ S, RepE W m H σ ρ ∧ RepS W m H S ∧ PostA W Wx σ m H (f ρ S) (KW W R)
def SI (W : Wl) (Wx : WX) (X : Cx) (G : Glo) (tg e : Expr) (it : IT) : Prop := PI X tg e (tI W Wx (evi G it))
section
variable {W : Wl} {Wx : WX} {X : Cx} {G : Glo} {m m' : Gh} {H H' : Hp} {S : Sto} {σ : L2.St} {ρ : PZ.Env} {a b c e tg : Expr} {ca cb cc ce : CE} {es : List Expr} {ces : CEs} {pos p apos cpos : Pos} {α β : Type}
theorem PI.imp {X : Cx} {tg e : Expr} {t t' : TI} (h : PI X tg e t) (i : ∀ σ H R, t' σ H R → t σ H R) : PI X tg e t' := ⟨fun pins s σ H R I q => h.run pins s σ H R I (i σ H R q)⟩
theorem PI.or {X : Cx} {tg e : Expr} {t t' : TI} (h : PI X tg e t) (h' : PI X tg e t') : PI X tg e (fun σ H R => t σ H R ∨ t' σ H R) := ⟨fun pins s σ H R I q => by
  rcases q with q | q
  · exact h.run pins s σ H R I q
  · exact h'.run pins s σ H R I q⟩
/-- a value first, then what stands at it decides -/
theorem wk_list {a : Addr} {xs : List V} {l : List D} (hx : H a = some (.lst xs)) (ha : a ∉ m) (q : Reps W m H xs l) : WalkOk W m H ⟨l, [], none⟩ (Itl W.K a) := by
  refine ⟨_, _, by have := walk_list (K := W.K) (a := a) (xs := xs); rw [q.length] at this; exact this, fun m' H' S x rs _ => SqL.of (x.keep _ _ hx ha fun _ z => nomatch z), fun m' H' S i v H2 x rs _ hi y => ?_⟩
  obtain ⟨rfl, hv⟩ := y
  obtain ⟨d, hd, r⟩ := q.getV hv
  exact ⟨d, hd, Ext.refl _ _, rs, r.extw x⟩
theorem wk_store {n : Nat} {a : Addr} {xs : List V} {l : List D} (hn : m.l[n]? = some a) (q : Reps W m H xs l) : WalkOk W m H ⟨l, [(n, l)], none⟩ (Itl W.K a) := by
  have key : ∀ m' H' S, Exw m H m' H' → RepS W m' H' S → (⟨l, [(n, l)], none⟩ : Wk).ok S = true → ∃ ys, H' a = some (.lst ys) ∧ Reps W m' H' ys l := by
    intro m' H' S x rs ok
    have hn' := x.get hn
    cases z : S[n]? with
    | none => simp [Wk.ok, z] at ok
    | some o =>
      cases o with
      | dic t lk kvs => simp [Wk.ok, z] at ok
      | ins c fs => simp [Wk.ok, z] at ok
      | lst k =>
        have hk : k = l := by simpa [Wk.ok, z] using ok
        subst hk
        exact lst_at rs hn' z
  refine ⟨fun H' => ∃ ys : List V, ys.length = l.length ∧ SqL W.K H' a ys, fun i H' v H2 => H2 = H' ∧ ∀ ys, SqL W.K H' a ys → ys[i]? = some v, ⟨?_, ?_, ?_⟩, ?_, ?_⟩
  · rintro i H' hi ⟨ys, hl, hs⟩
    exact ⟨ys, ys[i]'(by rw [hl]; exact hi), hs, List.getElem?_eq_getElem _⟩
  · rintro H' ⟨ys, hl, hs⟩
    exact ⟨ys, hs, Nat.le_of_eq hl⟩
  · intro i H' v H2 hi _ y
    exact y
  · intro m' H' S x rs ok
    obtain ⟨ys, hy, r⟩ := key m' H' S x rs ok
    exact ⟨ys, r.length, .of hy⟩
  · intro m' H' S i v H2 x rs ok hi y
    obtain ⟨ys, hy, r⟩ := key m' H' S x rs ok
    obtain ⟨rfl, hv⟩ := y
    obtain ⟨d, hd, r'⟩ := r.getV (hv ys (.of hy))
    exact ⟨d, hd, Ext.refl _ _, rs, r'⟩
theorem wk_tup {a : Addr} {xs : List V} {l : List D} (t : TupAt W.K m H a xs) (q : Reps W m H xs l) : WalkOk W m H ⟨l, [], none⟩ (Itt W.K a) := by
  refine ⟨_, _, by have := walk_tup (K := W.K) (a := a) (xs := xs); rw [q.length] at this; exact this, fun m' H' S x rs _ => (t.extw x).sq, fun m' H' S i v H2 x rs _ hi y => ?_⟩
  obtain ⟨rfl, hv⟩ := y
  obtain ⟨d, hd, r⟩ := q.getV hv
  exact ⟨d, hd, Ext.refl _ _, rs, r.extw x⟩
theorem sign_rep {x : Str} {s : Tx} {i c : Nat} (e : x.cps.toList = s) (a : x.cps.all (· < 0x110000) = true) (h : x.cps[i]? = some c) : s[i]? = some c ∧ Rep W m H (.str ⟨#[c]⟩) (.str [c]) := by
  have h1 : s[i]? = some c := by rw [← e, Array.getElem?_toList]; exact h
  refine ⟨h1, .str rfl ?_⟩
  have h2 : c < 0x110000 := by
    have := all_T e a
    rw [List.all_eq_true] at this
    exact of_decide_eq_true (this c (List.mem_of_getElem? h1))
  have : ((⟨#[c]⟩ : Str).cps.all fun x => decide (x < 0x110000)) = [c].all fun x => decide (x < 0x110000) := by rw [← Array.all_toList]
  rw [this]; simp [h2]
theorem wk_str {x : Str} {s : Tx} (e : x.cps.toList = s) (a : x.cps.all (· < 0x110000) = true) : WalkOk W m H ⟨s.map fun c => .str [c], [], none⟩ (Its x) := by
  have hl : x.cps.size = (s.map fun c => D.str [c]).length := by rw [List.length_map, ← e, Array.length_toList]
  refine ⟨_, _, by have := walk_str (z := x); rw [hl] at this; exact this, fun m' H' S _ rs _ => trivial, fun m' H' S i v H2 x' rs _ hi y => ?_⟩
  obtain ⟨rfl, c, hc, rfl⟩ := y
  obtain ⟨h1, h2⟩ := sign_rep (W := W) (m := m') (H := H2) e a hc
  exact ⟨.str [c], by rw [List.getElem?_map, h1]; rfl, Ext.refl _ _, rs, h2⟩
theorem wk_scr {a : Addr} {ns : List Int} (h2 : ScrAt W.K m H a ns) : WalkOk W m H ⟨ns.map .int, [], none⟩ (Itl W.K a) := by
  have hl : (ns.map V.int).length = (ns.map D.int).length := by simp
  refine ⟨_, _, by have := walk_list (K := W.K) (a := a) (xs := ns.map V.int); rw [hl] at this; exact this, fun m' H' S x rs _ => (h2.extw x).sq, fun m' H' S i v H2 x rs _ hi y => ?_⟩
  obtain ⟨rfl, hv⟩ := y
  rw [List.getElem?_map] at hv
  cases z : ns[i]? with
  | none => rw [z] at hv; cases hv
  | some k =>
    rw [z] at hv; cases hv
    exact ⟨.int k, by rw [List.getElem?_map, z]; rfl, Ext.refl _ _, rs, .int k⟩
/-- by the value -/
def iAny (K : PySem.W.Frag) (te : TE) : TI := fun σ H R => te σ H fun v H1 => (∃ a xs, v = .ref a ∧ SqL K H1 a xs ∧ R (Itl K a) H1) ∨ (∃ a xs, v = .ref a ∧ SqT K H1 a xs ∧ R (Itt K a) H1) ∨ ∃ x, v = .str x ∧ R (Its x) H1
theorem pi_any {te : TE} (hl : PE X e te) : PI X tg e (iAny X.K te) := by
  refine ⟨fun pins s σ H R I h => ?_⟩
  refine thn (hl.run pins s σ H _ I h) fun v s1 ⟨x, H1, I1, r1, q1⟩ => ?_
  rcases q1 with ⟨a, xs, rfl, hq, q⟩ | ⟨a, xs, rfl, hq, q⟩ | ⟨x, rfl, q⟩
  · cases r1
    obtain ⟨its, rv, p, hz⟩ := I1.list hq
    exact wpAny_pyIter_list p.isList (pi_one (tk := s1.toks) I1 _ (turn_list a _) ⟨_, Heap.get?_push_size _ rfl, rfl, rfl⟩ q)
  · cases r1
    obtain ⟨its, rv, p, hz⟩ := I1.tuple hq
    exact wpAny_pyIter_tuple (show s1.heap.IsTuple a its.toArray from p) (pi_one (tk := s1.toks) I1 _ (turn_tuple a _) ⟨_, Heap.get?_push_size _ rfl, rfl, rfl⟩ q)
  · obtain ⟨t, rfl⟩ := r1
    cases ha : x.cps.all (· < 128)
    · exact wpAny_pyIter_wide ha (pi_one (tk := s1.toks) I1 _ (turn_str _ x t "str_iterator" (.inr rfl)) ⟨_, Heap.get?_push_size _ rfl, rfl, rfl⟩ q)
    · exact wpAny_pyIter_ascii ha (pi_one (tk := s1.toks) I1 _ (turn_str _ x t "str_ascii_iterator" (.inl rfl)) ⟨_, Heap.get?_push_size _ rfl, rfl, rfl⟩ q)
theorem okKW {w : Wk} {R : It → Hp → Prop} {J : It} (rs : RepS W m H S) (p : PostA W Wx σ m H (.ok w S : PZ.R Wk) (KW W R)) (k : WalkOk W m H w J) : R J H := p m H (Ext.refl _ _) rs J k
theorem si_seq (O : Okx W Wx X) (he : SE W Wx X G e ce) : SI W Wx X G tg e (.seq ce) := by
  refine PI.imp (pi_any he) fun σ H R h => ?_
  obtain ⟨m, ρ, S, re, rs, p⟩ := h
  refine tM_bind re rs p fun m1 H1 d S1 v x1 re1 rs1 r1 p1 => ?_
  cases r1 with
  | non => exact p1.elim
  | bl b => exact p1.elim
  | int b => exact p1.elim
  | fn => exact p1.elim
  | exv h => exact p1.elim
  | kt h1 h2 r => exact p1.elim
  | str e1 a1 => exact .inr (.inr ⟨_, rfl, okKW rs1 p1 (wk_str e1 a1)⟩)
  | tup t r => exact .inr (.inl ⟨_, _, rfl, by rw [O.hK]; exact t.sq, by rw [O.hK]; exact okKW rs1 p1 (wk_tup t r)⟩)
  | lst h1 h2 r => exact .inl ⟨_, _, rfl, .of h2, by rw [O.hK]; exact okKW rs1 p1 (wk_list h2 h1 r)⟩
  | scr h1 => exact .inl ⟨_, _, rfl, by rw [O.hK]; exact h1.sq, by rw [O.hK]; exact okKW rs1 p1 (wk_scr h1)⟩
  | ref hn =>
    rename_i n a
    replace p1 : PostA W Wx σ m1 H1 (match S1[n]? with
      | some (.lst l) => (.ok ⟨l, [(n, l)], none⟩ S1 : PZ.R Wk)
      | _ => .bad) (KW W R) := p1
    cases z : S1[n]? with
    | none => rw [z] at p1; exact p1.elim
    | some o =>
      rw [z] at p1
      cases o with
      | dic t lk kvs => exact p1.elim
      | ins c fs => exact p1.elim
      | lst l =>
        obtain ⟨xs, hx, q⟩ := lst_at rs1 hn z
        exact .inl ⟨a, xs, rfl, .of hx, by rw [O.hK]; exact okKW rs1 p1 (wk_store hn q)⟩
theorem rngL_get : ∀ (n : Nat) (lo : Int) (i : Nat), i < n → (rngL lo n)[i]? = some (.int (lo + i))
  | 0, _, _, h => absurd h (Nat.not_lt_zero _)
  | n + 1, lo, 0, _ => by simp [rngL]
  | n + 1, lo, i + 1, h => by
    simp only [rngL, List.getElem?_cons_succ]
    rw [rngL_get n (lo + 1) i (by omega)]
    have : lo + 1 + (i : Int) = lo + ((i + 1 : Nat) : Int) := by omega
    rw [this]
theorem rngL_len : ∀ (n : Nat) (lo : Int), (rngL lo n).length = n
  | 0, _ => rfl
  | n + 1, lo => by simp [rngL, rngL_len n]
theorem wk_rng {lo : Int} {n : Nat} : WalkOk W m H ⟨rngL lo n, [], none⟩ (Itr lo n) := by
  refine ⟨_, _, by have := walk_range (lo := lo) (n := n); rw [show n = (rngL lo n).length from (rngL_len n lo).symm] at this; simpa [rngL_len] using this, fun m' H' S _ rs _ => trivial, fun m' H' S i v H2 x' rs _ hi y => ?_⟩
  obtain ⟨rfl, rfl⟩ := y
  exact ⟨.int (lo + i), rngL_get n lo i (by simpa [rngL_len] using hi), Ext.refl _ _, rs, .int _⟩
theorem one_bind {β : Type} {g : List D → M β} : ((evs G (.cons ca .nil) ρ).bind g) S = ((ev G ca ρ).bind fun x => g [x]) S := by
  show ((ev G ca ρ S).bind fun x => (M.ret []).bind fun xs => M.ret (x :: xs)).bind g = (ev G ca ρ S).bind _
  cases ev G ca ρ S <;> rfl
theorem two_bind {β : Type} {g : List D → M β} : ((evs G (.cons ca (.cons cb .nil)) ρ).bind g) S = ((ev G ca ρ).bind fun x => (ev G cb ρ).bind fun y => g [x, y]) S := by
  show ((ev G ca ρ S).bind fun x => (evs G (.cons cb .nil) ρ).bind fun xs => M.ret (x :: xs)).bind g = (ev G ca ρ S).bind _
  cases ev G ca ρ S with
  | exc c s => rfl
  | bad => rfl
  | ok x s =>
    show ((evs G (.cons cb .nil) ρ s).bind fun xs => M.ret (x :: xs)).bind g = (ev G cb ρ s).bind fun y => g [x, y]
    show (((ev G cb ρ s).bind fun x => (M.ret []).bind fun xs => M.ret (x :: xs)).bind fun xs => M.ret (x :: xs)).bind g = _
    cases ev G cb ρ s <;> rfl
theorem si_rng1 (O : Okx W Wx X) (hg : Gl X "range") (hm : X.mg "range" = none) (ha : SE W Wx X G a ca) (hs : starEach [a] X.env = [(false, eval a X.env)] := by rfl) : SI W Wx X G tg (.Call (.Name "range" p) [a] [] pos) (.rng1 ca) := by
  refine PI.imp (pi_range1 hg hm (sa_cons ha sa_nil hs) hs) fun σ H R h => ?_
  obtain ⟨m, ρ, S, re, rs, p⟩ := h
  have p' : PostA W Wx σ m H (((evs G (.cons ca .nil) ρ).bind fun xs => M.opt (match xs with
    | [.int j] => if small62 j then some (⟨rngL 0 j.toNat, [], none⟩ : Wk) else none
    | _ => none)) S) (KW W R) := by
    rw [one_bind]
    refine (show ((ev G ca ρ).bind fun x => M.opt (match x with
      | .int j => if small62 j then some (⟨rngL 0 j.toNat, [], none⟩ : Wk) else none
      | _ => none)) S = ((ev G ca ρ).bind fun x => M.opt (match [x] with
      | [.int j] => if small62 j then some (⟨rngL 0 j.toNat, [], none⟩ : Wk) else none
      | _ => none)) S from ?_) ▸ p
    congr 1
    funext x
    cases x <;> rfl
  refine tL_bind re rs p' fun m1 H1 ds S1 vs x1 re1 rs1 r1 p1 => ?_
  obtain ⟨w, hw, k⟩ := PostA.opt rs1 p1
  match ds, r1, hw with
  | [.int j], r1, hw =>
    simp only at hw
    split at hw
    · rename_i hj
      cases hw
      obtain ⟨v, rfl, r⟩ := Reps.one r1
      cases r
      unfold small62 at hj
      simp only [Bool.and_eq_true, decide_eq_true_eq] at hj
      exact ⟨j, rfl, hj.1, hj.2, k _ wk_rng⟩
    · cases hw
theorem si_rng2 (O : Okx W Wx X) (hg : Gl X "range") (hm : X.mg "range" = none) (ha : SE W Wx X G a ca) (hb : SE W Wx X G b cb) (hs : starEach [a, b] X.env = [(false, eval a X.env), (false, eval b X.env)] := by rfl) (hs2 : starEach [b] X.env = [(false, eval b X.env)] := by rfl) : SI W Wx X G tg (.Call (.Name "range" p) [a, b] [] pos) (.rng2 ca cb) := by
  refine PI.imp (pi_range2 hg hm (sa_cons ha (sa_cons hb sa_nil hs2) (hs.trans (by rw [hs2]))) hs hs2) fun σ H R h => ?_
  obtain ⟨m, ρ, S, re, rs, p⟩ := h
  have p' : PostA W Wx σ m H (((evs G (.cons ca (.cons cb .nil)) ρ).bind fun xs => M.opt (match xs with
    | [.int i, .int j] => if small62 i && small62 j then some (⟨rngL i (j - i).toNat, [], none⟩ : Wk) else none
    | _ => none)) S) (KW W R) := by
    rw [two_bind]
    refine (show ((ev G ca ρ).bind fun x => (ev G cb ρ).bind fun y => M.opt (match x, y with
      | .int i, .int j => if small62 i && small62 j then some (⟨rngL i (j - i).toNat, [], none⟩ : Wk) else none
      | _, _ => none)) S = ((ev G ca ρ).bind fun x => (ev G cb ρ).bind fun y => M.opt (match [x, y] with
      | [.int i, .int j] => if small62 i && small62 j then some (⟨rngL i (j - i).toNat, [], none⟩ : Wk) else none
      | _ => none)) S from ?_) ▸ p
    congr 1
    funext x
    congr 1
    funext y
    cases x <;> cases y <;> rfl
  refine tL_bind re rs p' fun m1 H1 ds S1 vs x1 re1 rs1 r1 p1 => ?_
  obtain ⟨w, hw, k⟩ := PostA.opt rs1 p1
  match ds, r1, hw with
  | [.int i, .int j], r1, hw =>
    simp only at hw
    split at hw
    · rename_i hj
      cases hw
      obtain ⟨v, u, rfl, r, r'⟩ := Reps.two r1
      cases r; cases r'
      unfold small62 at hj
      simp only [Bool.and_eq_true, decide_eq_true_eq] at hj
      exact ⟨i, j, rfl, ⟨hj.1.1, hj.1.2, hj.2.1, hj.2.2⟩, k _ wk_rng⟩
    · cases hw
end
end PZ
end
section
/-! Loop: for, while, comprehensions. -/
set_option linter.all false
set_option maxRecDepth 100000
set_option maxHeartbeats 4000000
set_option Elab.async false
namespace PZ
open PySem PySem.Spec PyProof.Rows L2
section
variable {W : Wl} {Wx : WX} {X : Cx} {G : Glo} {m m' : Gh} {H H' : Hp} {S : Sto} {σ : L2.St} {ρ : PZ.Env} {a b c e tgt iter : Expr} {ca cb cc ce : CE} {es : List Expr} {ces : CEs} {pos p apos cpos : Pos} {α β : Type} {cs : CSs} {tg : Tg} {it : IT} {body : List Stmt}
/-! ### zip -/
theorem src_of {v : V} {d : D} {l : List D} (hK : X.K = W.K) (r : Rep W m H v d) (h : seqOf d = some l) : ∃ sr : Src, v = sr.val ∧ sr.len = l.length ∧ (∀ m' H', Exw m H m' H' → sr.ok X.K H') ∧
    ∀ m' H' i x, Exw m H m' H' → sr.get i = some x → ∃ d, l[i]? = some d ∧ Rep W m' H' x d := by
  cases r with
  | non => cases h
  | bl b => cases h
  | int b => cases h
  | fn => cases h
  | exv h' => cases h
  | kt h1 h2 r => cases h
  | ref hn => cases h
  | @str x s e1 a1 =>
    cases h
    refine ⟨.txt x, rfl, by rw [List.length_map, ← e1, Array.length_toList]; rfl, fun _ _ _ => trivial, fun m' H' i v x' hv => ?_⟩
    have hv' : (x.cps[i]?).map (fun c => V.str ⟨#[c]⟩) = some v := hv
    cases hc : x.cps[i]? with
    | none => rw [hc] at hv'; cases hv'
    | some c =>
      rw [hc] at hv'; cases hv'
      obtain ⟨h1, h2⟩ := sign_rep (W := W) (m := m') (H := H') e1 a1 hc
      exact ⟨.str [c], by rw [List.getElem?_map, h1]; rfl, h2⟩
  | @tup a xs ds t r =>
    cases h
    refine ⟨.tup a xs, rfl, r.length, fun m' H' x => by rw [hK]; exact (t.extw x).sq, fun m' H' i v x hv => ?_⟩
    obtain ⟨d, hd, rd⟩ := r.getV (show xs[i]? = some v from hv)
    exact ⟨d, hd, rd.extw x⟩
  | @lst a xs ds h1 h2 r =>
    cases h
    refine ⟨.lst a xs, rfl, r.length, fun m' H' x => SqL.of (x.keep _ _ h2 h1 fun _ z => nomatch z), fun m' H' i v x hv => ?_⟩
    obtain ⟨d, hd, rd⟩ := r.getV (show xs[i]? = some v from hv)
    exact ⟨d, hd, rd.extw x⟩
  | @scr a ns h1 =>
    cases h
    refine ⟨.lst a (ns.map V.int), rfl, by simp [Src.len], fun m' H' x => (show SqL X.K H' a (ns.map V.int) by rw [hK]; exact (h1.extw x).sq), fun m' H' i v x hv => ?_⟩
    replace hv : (ns.map V.int)[i]? = some v := hv
    rw [List.getElem?_map] at hv
    cases z : ns[i]? with
    | none => rw [z] at hv; cases hv
    | some k =>
      rw [z] at hv; cases hv
      exact ⟨.int k, by rw [List.getElem?_map, z]; rfl, .int k⟩
theorem zip2L_len : ∀ (a b : List D), (zip2L a b).length = min a.length b.length
  | [], b => by simp [zip2L]
  | _ :: _, [] => by simp [zip2L]
  | x :: a, y :: b => by simp only [zip2L, List.length_cons, zip2L_len a b]; omega
theorem zip2L_get : ∀ {a b : List D} {i : Nat} {x y : D}, a[i]? = some x → b[i]? = some y → (zip2L a b)[i]? = some (.tup [x, y])
  | [], _, _, _, _, h, _ => by simp at h
  | _ :: _, [], _, _, _, _, h => by simp at h
  | p :: a, q :: b, 0, x, y, h, h' => by
    simp only [List.getElem?_cons_zero, Option.some.injEq] at h h'
    subst h h'; rfl
  | p :: a, q :: b, i + 1, x, y, h, h' => by
    simp only [List.getElem?_cons_succ] at h h'
    simp only [zip2L, List.getElem?_cons_succ]
    exact zip2L_get h h'
theorem si_zip2 {elts : List Expr} {kk : Nat} {tpos : Pos} (O : Okx W Wx X) (hg : Gl X "zip") (hm : X.mg "zip" = none) (ha : SA W Wx X G [a, b] (.cons ca (.cons cb .nil)))
    (hs : starEach [a, b] X.env = (false, eval a X.env) :: starEach [b] X.env := by rfl) (hpl : (backTo pos (starEach [b] X.env)).any (·.1) = false := by rfl) :
    SI W Wx X G (.Tuple elts kk tpos) (.Call (.Name "zip" p) [a, b] [] pos) (.zip (.cons ca (.cons cb .nil))) := by
  refine PI.imp (pi_zd2 hg hm ha hs hpl) fun σ H R h => ?_
  obtain ⟨m, ρ, S, re, rs, p⟩ := h
  refine tL_len re rs p fun m1 H1 ds S1 vs hd x1 re1 rs1 r1 p1 => ?_
  obtain ⟨w, hw, k⟩ := PostA.opt rs1 p1
  match ds, r1, hw, hd with
  | [], _, hw, _ => cases hw
  | [d], _, hw, _ =>
    exfalso
    cases z : seqOf d <;> simp [seqsOf, z, zipL] at hw
  | d1 :: d2 :: d3 :: ds, r1, hw, hd => exact absurd hd (by simp [CEs.len])
  | [d1, d2], r1, hw, _ =>
    obtain ⟨v, u, rfl, r, r'⟩ := Reps.two r1
    simp only [seqsOf] at hw
    cases z1 : seqOf d1 with
    | none => rw [z1] at hw; cases hw
    | some l1 =>
      cases z2 : seqOf d2 with
      | none => rw [z1, z2] at hw; cases hw
      | some l2 =>
        rw [z1, z2] at hw
        have hw' : (⟨zip2L l1 l2, [], none⟩ : Wk) = w := Option.some.inj hw
        subst hw'
        obtain ⟨s1, rfl, len1, ok1, get1⟩ := src_of O.hK r z1
        obtain ⟨s2, rfl, len2, ok2, get2⟩ := src_of O.hK r' z2
        refine ⟨s1, s2, rfl, ok1 m1 H1 (Ext.refl _ _).w, ok2 m1 H1 (Ext.refl _ _).w, k _ ⟨fun H' => s1.ok X.K H' ∧ s2.ok X.K H', _, ⟨?_, ?_, fun _ _ _ _ _ _ y => y⟩, ?_, ?_⟩⟩
        · intro i H' hi g
          refine ⟨g.1, g.2, ?_⟩
          rw [len1, len2, ← zip2L_len]; exact hi
        · intro H' g
          refine ⟨g.1, g.2, ?_⟩
          rw [len1, len2, ← zip2L_len]
        · intro m' H' S' x _ _
          exact ⟨ok1 m' H' x, ok2 m' H' x⟩
        · intro m' H' S' i v H2 x rs' _ hi y
          obtain ⟨T, x1, y1, rfl, hn, rfl, g1, g2⟩ := y
          obtain ⟨e1, h1, q1⟩ := get1 m' H' i x1 x g1
          obtain ⟨e2, h2, q2⟩ := get2 m' H' i y1 x g2
          exact ⟨.tup [e1, e2], zip2L_get h1 h2, ext_new hn, rs'.new hn, .tup (.inl ⟨rs'.out hn, .inl upd_same⟩) (.cons (q1.ext (ext_new hn)) (.cons (q2.ext (ext_new hn)) .nil))⟩
/-! ### for -/
theorem forL_ok {f : D → PZ.Env → Sto → RS} {w : Wk} {l : List D} {D' : Ends} (p : PostS W Wx m H (forL f w l ρ S) D') : w.ok S = true := by
  cases l with
  | nil =>
    simp only [forL] at p
    split at p
    · assumption
    · exact p.elim
  | cons x xs =>
    simp only [forL] at p
    split at p
    · assumption
    · exact p.elim
theorem turn_post {r : RS} {k : PZ.Env → Sto → RS} {D' : Ends} (p : PostS W Wx m H (r.turn k) D') : PostS W Wx m H r { D' with nx := fun σ' H' => ∃ m' ρ' S', Ext m H m' H' ∧ RepE W m' H' σ' ρ' ∧ RepS W m' H' S' ∧ PostS W Wx m' H' (k ρ' S') D', ct := fun σ' H' => ∃ m' ρ' S', Ext m H m' H' ∧ RepE W m' H' σ' ρ' ∧ RepS W m' H' S' ∧ PostS W Wx m' H' (k ρ' S') D', bk := D'.nx } := by
  cases r with
  | nx ρ s => exact fun m' H' σ' x rs re => ⟨m', ρ, s, x, re, rs, PostS.ext p x⟩
  | ct ρ s => exact fun m' H' σ' x rs re => ⟨m', ρ, s, x, re, rs, PostS.ext p x⟩
  | rt d s => exact p
  | exc c ρ s => exact p
  | bad => exact p
theorem of_wk {k : Wk → Sto → RS} {f : PZ.Env → M Wk} {D' : Ends} (p : PostS W Wx m H (RS.of (f ρ S) ρ k) D') (re : RepE W m H σ ρ) : PostA W Wx σ m H (f ρ S) (fun m' H' w S' => PostS W Wx m' H' (k w S') D') := by
  cases e : f ρ S with
  | ok a s =>
    rw [e] at p
    exact fun m1 H1 x r1 => PostS.ext p x
  | exc c s =>
    rw [e] at p
    exact fun m1 H1 x r1 => p m1 H1 σ x r1 (re.ext x)
  | bad => rw [e] at p; exact p
theorem forL_post {f : D → PZ.Env → Sto → RS} {w : Wk} {D' : Ends} {g : TG} {tb : TS} {J : It} {m0 : Gh} {H0 : Hp} (wk : WalkOk W m0 H0 w J) (re : RepE W m0 H0 σ ρ) (rs : RepS W m0 H0 S)
    (hb : ∀ (x : V) (d : D) m H σ ρ S Dx, RepE W m H σ ρ → RepS W m H S → Rep W m H x d → PostS W Wx m H (f d ρ S) Dx → g x σ H fun σ2 H2 => tb Dx σ2 H2)
    (p : PostS W Wx m0 H0 (forL f w w.its ρ S) D') :
    ∃ Wi : Nat → Nat → L2.St → Hp → Prop, (∃ m, Wi 0 m σ H0) ∧ ∀ i m σ H, Wi i m σ H →
      (J.stop i H ∧ D'.nx σ H) ∨ (J.go i H ∧ ∃ N : L2.St → Hp → Prop, (∀ σ' H', N σ' H' → ∃ m', m' < m ∧ Wi (i + 1) m' σ' H') ∧ ∀ x H', J.yld i H x H' → g x σ H' fun σ2 H2 => tb { D' with nx := N, ct := N, bk := D'.nx } σ2 H2) := by
  obtain ⟨Gd, Y, wl, hG, hY⟩ := wk.ex
  refine for_it wl (fun i σ H => ∃ m ρ S, Ext m0 H0 m H ∧ RepE W m H σ ρ ∧ RepS W m H S ∧ PostS W Wx m H (forL f w (w.its.drop i) ρ S) D') ⟨m0, ρ, S, Ext.refl _ _, re, rs, p⟩ ?_ ?_ ?_
  · rintro i σ H hi ⟨m, ρ, S, x, re, rs, p⟩
    exact hG m H S x.w rs (forL_ok p)
  · rintro i x σ H H' hi ⟨m, ρ, S, xt, re, rs, p⟩ y
    obtain ⟨d, hd, x2, rs2, r2⟩ := hY m H S i x H' xt.w rs (forL_ok p) hi y
    have e : w.its.drop i = d :: w.its.drop (i + 1) := by
      obtain ⟨h1, h2⟩ := List.getElem?_eq_some_iff.mp hd
      rw [List.drop_eq_getElem_cons h1, h2]
    rw [e] at p
    have hok := forL_ok p
    simp only [forL] at p
    rw [if_pos hok] at p
    have p2 := turn_post (PostS.ext p x2)
    refine hb x d m H' σ ρ S _ (re.ext x2) rs2 r2 ?_
    cases hr : f d ρ S with
    | nx ρ' S' => 
      rw [hr] at p2
      exact fun m3 H3 σ3 x3 rs3 re3 => let ⟨m4, ρ4, S4, x4, re4, rs4, p4⟩ := p2 m3 H3 σ3 x3 rs3 re3; ⟨m4, ρ4, S4, (xt.trans x2).trans x4, re4, rs4, p4⟩
    | ct ρ' S' =>
      rw [hr] at p2
      exact fun m3 H3 σ3 x3 rs3 re3 => let ⟨m4, ρ4, S4, x4, re4, rs4, p4⟩ := p2 m3 H3 σ3 x3 rs3 re3; ⟨m4, ρ4, S4, (xt.trans x2).trans x4, re4, rs4, p4⟩
    | rt d S' => rw [hr] at p2; exact p2
    | exc c ρ' S' => rw [hr] at p2; exact p2
    | bad => rw [hr] at p2; exact p2
  · rintro σ H ⟨m, ρ, S, x, re, rs, p⟩
    have hok := forL_ok p
    rw [List.drop_length] at p
    simp only [forL] at p
    rw [if_pos hok] at p
    exact p m H σ (Ext.refl _ _) rs re
theorem ss_for (O : Okx W Wx X) (hp : PassesOwn (model X.prog X.w) X.A X.env X.xe) (hi : SI W Wx X G tgt iter it) (hg : SG W X tgt tg) (hb : SSs W Wx X G body cs) (hs : ∀ x, foldedSetIterable iter X.env x = pure x := by intro _; rfl) : SS W Wx X G (.For tgt iter body [] pos) (.loop tg it cs) := by
  refine PS.imp (ps_for hp O.calm hi hg hb hs) fun D' σ H h => ?_
  obtain ⟨m, ρ, S, re, rs, p⟩ := h
  refine ⟨m, ρ, S, re, rs, ?_⟩
  have q := of_wk (f := evi G it) (k := fun w s => if w.lk = none then forL (fun x ρ s => match bindT tg x ρ with
    | some ρ' => evSs G cs ρ' s
    | none => .bad) w w.its ρ s else .bad) p re
  cases hv : evi G it ρ S with
  | exc c s => rw [hv] at q; exact q
  | bad => rw [hv] at q; exact q
  | ok w s =>
    rw [hv] at q
    intro m1 H1 x1 rs1 J wk
    have p1 := q m1 H1 x1 rs1
    dsimp only at p1
    by_cases hl : w.lk = none
    · rw [if_pos hl] at p1
      refine forL_post wk (re.ext x1) rs1 ?_ p1
      intro x d m H σ ρ S Dx re rs r p
      cases hb : bindT tg d ρ with
      | none => rw [hb] at p; exact p.elim
      | some ρ' =>
        rw [hb] at p
        exact ⟨m, ρ, d, ρ', re, r, hb, fun σ' re' _ => ⟨m, ρ', S, re', rs, p⟩⟩
    · rw [if_neg hl] at p1
      exact p1.elim
/-! ### while -/
theorem ss_whl (O : Okx W Wx X) (hp : PassesOwn (model X.prog X.w) X.A X.env X.xe) (hc : ST W Wx X G c cc) (hb : SSs W Wx X G body cs) : SS W Wx X G (.While c body [] pos) (.whl cc cs) := by
  refine PS.imp (ps_while hp hc hb) fun D' σ H h => ?_
  obtain ⟨m, ρ, S, re, rs, p⟩ := h
  refine ⟨fun n σ H => ∃ m ρ S, RepE W m H σ ρ ∧ RepS W m H S ∧ PostS W Wx m H (whlL (fun ρ => (ev G cc ρ).bl) (fun ρ s => evSs G cs ρ s) n ρ S) D', ⟨turns, m, ρ, S, re, rs, p⟩, ?_⟩
  rintro n σ H ⟨m, ρ, S, re, rs, p⟩
  cases n with
  | zero => exact p.elim
  | succ n =>
    refine tT_stm (k := fun k s => match k with
      | true => ((fun ρ s => evSs G cs ρ s) ρ s).turn (whlL (fun ρ => (ev G cc ρ).bl) (fun ρ s => evSs G cs ρ s) n)
      | false => .nx ρ s) re rs p fun m1 H1 k S1 x1 re1 rs1 p1 => ?_
    cases k with
    | false => rw [if_neg (by decide)]; exact p1 m1 H1 σ (Ext.refl _ _) rs1 re1
    | true =>
      rw [if_pos rfl]
      refine ⟨fun σ' H' => ∃ m ρ S, RepE W m H' σ' ρ ∧ RepS W m H' S ∧ PostS W Wx m H' (whlL (fun ρ => (ev G cc ρ).bl) (fun ρ s => evSs G cs ρ s) n ρ S) D', fun σ' H' q => ⟨n, Nat.lt_succ_self n, q⟩, m1, ρ, S1, re1, rs1, ?_⟩
      have p2 := turn_post p1
      dsimp only at p2
      cases hr : evSs G cs ρ S1 with
      | nx ρ' S' =>
        rw [hr] at p2
        exact fun m3 H3 σ3 x3 rs3 re3 => let ⟨m4, ρ4, S4, x4, re4, rs4, p4⟩ := p2 m3 H3 σ3 x3 rs3 re3; ⟨m4, ρ4, S4, re4, rs4, p4⟩
      | ct ρ' S' =>
        rw [hr] at p2
        exact fun m3 H3 σ3 x3 rs3 re3 => let ⟨m4, ρ4, S4, x4, re4, rs4, p4⟩ := p2 m3 H3 σ3 x3 rs3 re3; ⟨m4, ρ4, S4, re4, rs4, p4⟩
      | rt d S' => rw [hr] at p2; exact p2
      | exc c ρ' S' => rw [hr] at p2; exact p2
      | bad => rw [hr] at p2; exact p2
end
end PZ
end
section
/-! Compr: comprehensions. -/
set_option linter.all false
set_option maxRecDepth 100000
set_option maxHeartbeats 4000000
set_option Elab.async false
namespace PZ
open PySem PySem.Spec PyProof.Rows L2
abbrev Wx0 : WX := fun _ _ _ _ => False
section
variable {W : Wl} {Wx : WX} {X : Cx} {G : Glo} {m m' : Gh} {H H' : Hp} {S : Sto} {σ : L2.St} {ρ : PZ.Env} {a b c e elt tgt iter : Expr} {ca cb cc ce : CE} {es ifs : List Expr} {ces : CEs} {pos p apos cpos : Pos} {α β : Type} {cs : CSs} {tg : Tg} {it : IT} {body : List Stmt}
theorem TupAt.weak {K : PySem.W.Frag} {a : Addr} {xs : List V} (h : TupAt K m H a xs) (hm : ∀ a, a ∈ m' → a ∈ m) : TupAt K m' H a xs := by
  rcases h with ⟨h1, h2⟩ | h
  · exact .inl ⟨fun z => h1 (hm a z), h2⟩
  · exact .inr h
mutual
theorem Rep.weak (hl : m'.l = m.l) (hm : ∀ a, a ∈ m' → a ∈ m) : ∀ {v : V} {d : D}, Rep W m H v d → Rep W m' H v d
  | _, _, .non => .non
  | _, _, .bl b => .bl b
  | _, _, .int i => .int i
  | _, _, .str e h => .str e h
  | _, _, .tup h r => .tup (h.weak hm) (Reps.weak hl hm r)
  | _, _, .lst h e r => .lst (fun z => h (hm _ z)) e (Reps.weak hl hm r)
  | _, _, .kt h e r => .kt (fun z => h (hm _ z)) e (Reps.weak hl hm r)
  | _, _, .scr h => .scr (h.imp (fun z => ⟨fun y => z.1 (hm _ y), z.2⟩) id)
  | _, _, .ref h => .ref (by rw [hl]; exact h)
  | _, _, .fn => .fn
  | _, _, .exv h => .exv h
theorem Reps.weak (hl : m'.l = m.l) (hm : ∀ a, a ∈ m' → a ∈ m) : ∀ {vs : List V} {ds : List D}, Reps W m H vs ds → Reps W m' H vs ds
  | _, _, .nil => .nil
  | _, _, .cons r t => .cons (Rep.weak hl hm r) (Reps.weak hl hm t)
end
theorem RepO.weak (hl : m'.l = m.l) (hm : ∀ a, a ∈ m' → a ∈ m) {a : Addr} {o : MO} (r : RepO W m H a o) : RepO W m' H a o := by
  cases o with
  | lst l => obtain ⟨xs, h, q⟩ := r; exact ⟨xs, h, q.weak hl hm⟩
  | dic t lk kvs =>
    cases t with
    | false => obtain ⟨ks, h, q⟩ := r; exact ⟨ks, h, pimp (fun _ _ z => ⟨z.1, z.2.weak hl hm⟩) q⟩
    | true => obtain ⟨ks, h, q⟩ := r; exact ⟨ks, h, pimp (fun _ _ z => ⟨z.1, z.2.weak hl hm⟩) q⟩
  | ins c fs => obtain ⟨dx, fl, h, q⟩ := r; exact ⟨dx, fl, h, pimp (fun _ _ z => ⟨z.1, z.2.weak hl hm⟩) q⟩
theorem RepS.show_ (r : RepS W m H S) (p : Addr) : RepS W (m.show_ p) H S :=
  ⟨r.len, r.nd, fun a ha => r.hid a (List.mem_filter.mp ha).1, fun n a o h1 h2 => RepO.weak (m := m) (m' := m.show_ p) rfl (fun _ z => Gh.mem_show (p := p) z) (r.obj n a o h1 h2), r.tab⟩
theorem ne_mem {a p : Addr} (h : a ∉ m) (hp : p ∈ m) : a ≠ p := fun z => h (by rw [z]; exact hp)
theorem TupAt.puth {K : PySem.W.Frag} {a p : Addr} {o : HO} {xs : List V} (h : TupAt K m H a xs) (hp : p ∈ m) : TupAt K m (upd H p o) a xs := by
  rcases h with ⟨h1, h2⟩ | h
  · have : a ≠ p := fun z => h1 (z ▸ hp)
    rcases h2 with h2 | ⟨u, h2⟩
    · exact .inl ⟨h1, .inl (by rw [upd_ne this]; exact h2)⟩
    · exact .inl ⟨h1, .inr ⟨u, by rw [upd_ne this]; exact h2⟩⟩
  · exact .inr h
mutual
theorem Rep.puth {p : Addr} {o : HO} (hp : p ∈ m) : ∀ {v : V} {d : D}, Rep W m H v d → Rep W m (upd H p o) v d
  | _, _, .non => .non
  | _, _, .bl b => .bl b
  | _, _, .int i => .int i
  | _, _, .str e h => .str e h
  | _, _, .tup h r => .tup (h.puth hp) (Reps.puth hp r)
  | _, _, .lst h e r => .lst h (by rw [upd_ne (ne_mem h hp)]; exact e) (Reps.puth hp r)
  | _, _, .kt h e r => .kt h (by rw [upd_ne (ne_mem h hp)]; exact e) (Reps.puth hp r)
  | _, _, .scr h => .scr (h.imp (fun z => ⟨z.1, let ⟨o, e⟩ := z.2; ⟨o, by rw [upd_ne (ne_mem z.1 hp)]; exact e⟩⟩) id)
  | _, _, .ref h => .ref h
  | _, _, .fn => .fn
  | _, _, .exv h => .exv h
theorem Reps.puth {p : Addr} {o : HO} (hp : p ∈ m) : ∀ {vs : List V} {ds : List D}, Reps W m H vs ds → Reps W m (upd H p o) vs ds
  | _, _, .nil => .nil
  | _, _, .cons r t => .cons (Rep.puth hp r) (Reps.puth hp t)
end
theorem RepO.puth {a p : Addr} {o : HO} {u : MO} (hp : p ∈ m) (hne : a ≠ p) (r : RepO W m H a u) : RepO W m (upd H p o) a u := by
  cases u with
  | lst l => obtain ⟨xs, h, q⟩ := r; exact ⟨xs, by rw [upd_ne hne]; exact h, q.puth hp⟩
  | dic t lk kvs =>
    cases t with
    | false => obtain ⟨ks, h, q⟩ := r; exact ⟨ks, by rw [upd_ne hne]; exact h, pimp (fun _ _ z => ⟨z.1, z.2.puth hp⟩) q⟩
    | true => obtain ⟨ks, h, q⟩ := r; exact ⟨ks, by rw [upd_ne hne]; exact h, pimp (fun _ _ z => ⟨z.1, z.2.puth hp⟩) q⟩
  | ins c fs => obtain ⟨dx, fl, h, q⟩ := r; exact ⟨dx, fl, by rw [upd_ne hne]; exact h, pimp (fun _ _ z => ⟨z.1, z.2.puth hp⟩) q⟩
/-- a hidden list written -/
theorem RepS.puth (r : RepS W m H S) {p : Addr} {o : HO} (h : p ∈ m.h) (ho : plainO o = true) : RepS W m (upd H p o) S := by
  obtain ⟨h1, u, e, hp⟩ := r.hid p h
  refine ⟨r.len, r.nd, fun a ha => ?_, fun n a v g1 g2 => (r.obj n a v g1 g2).puth (.inr h) fun z => h1 (by rw [← z]; exact List.mem_of_getElem? g1), tabs_put r.tab e hp⟩
  obtain ⟨g1, w, ew, hw⟩ := r.hid a ha
  refine ⟨g1, ?_⟩
  by_cases z : a = p
  · subst z; exact ⟨o, upd_same, ho⟩
  · exact ⟨w, by rw [upd_ne z]; exact ew, hw⟩
theorem Ext.showAt {m0 : Gh} {H0 : Hp} (x : Ext m0 H0 m H) {p : Addr} (h0 : p ∉ m0) : Ext m0 H0 (m.show_ p) H :=
  ⟨x.pre, fun a ha => List.mem_filter.mpr ⟨x.hid a ha, by simpa using fun z : a = p => h0 (by rw [← z]; exact .inr ha)⟩, x.keepL, x.there, x.freshL, fun a ha => x.freshH a (List.mem_filter.mp ha).1⟩
/-- what was not there may be written anew -/
theorem Ext.putNew {m0 : Gh} {H0 : Hp} (x : Ext m0 H0 m H) {p : Addr} {o : HO} (h0 : H0 p = none) : Ext m0 H0 m (upd H p o) :=
  ⟨x.pre, x.hid, fun a u e h n => by rw [upd_ne (ne_of_none e h0)]; exact x.keepL a u e h n, fun a u e => by
    rw [upd_ne (ne_of_none e h0)]; exact x.there a u e, x.freshL, x.freshH⟩
theorem Gh.not_show (m : Gh) (p : Addr) (h : p ∉ m.l) : p ∉ m.show_ p := by
  rintro (z | z)
  · exact h z
  · have := (List.mem_filter.mp z).2
    simp at this
/-! ### the block's test -/
def STs (W : Wl) (X : Cx) (G : Glo) (ifs : List Expr) (c : CE) : Prop := PTs X ifs (tT W Wx0 fun ρ => (ev G c ρ).bl)
theorem PTs.imp {X : Cx} {e : List Expr} {t t' : TT} (h : PTs X e t) (i : ∀ σ H Q, t' σ H Q → t σ H Q) : PTs X e t' := ⟨fun pins s σ H Q I q => h.run pins s σ H Q I (i σ H Q q)⟩
theorem sts_nil : STs W X G [] (.c (.bl true)) := by
  refine PTs.imp pts_nil fun σ H Q h => ?_
  obtain ⟨m, ρ, S, re, rs, p⟩ := h
  exact p m H (Ext.refl _ _) rs
theorem sts_one (h : ST W Wx0 X G c cc) : STs W X G [c] cc := pts_one h
/-! ### lists -/
def compF (G : Glo) (e : CE) (tg : Tg) (cnd : CE) (ρ : PZ.Env) : D → M (Option D) := fun x s => match bindT tg x (wipeE ρ tg.slots) with
  | some ρ' => ((ev G cnd ρ').bl.bind fun k => match k with
    | true => (ev G e ρ').bind fun y => M.ret (some y)
    | false => M.ret none) s
  | none => .bad
theorem ev_comp : ev G (.comp ce tg it cc) ρ = (evi G it ρ).bind fun w => M.nolk w ((compL (compF G ce tg cc ρ) w w.its []).bind fun l => M.ret (.lst l)) := rfl
theorem wipe_wipe {σ : L2.St} (vs : List Nat) : L2.wipe (L2.wipe σ vs) vs = L2.wipe σ vs := by
  have key : ∀ (us : List Nat) (σ : L2.St), (∀ i ∈ us, i ∈ vs) → L2.wipe (L2.wipe σ us) vs = L2.wipe σ vs := by
    intro us
    induction us with
    | nil => intro σ _; rfl
    | cons u us ih =>
      intro σ h
      show L2.wipe ((L2.wipe σ us).set u none) vs = L2.wipe σ vs
      rw [wipe_set (h u (List.mem_cons_self ..)), ih σ fun i hi => h i (List.mem_cons_of_mem _ hi)]
  exact key vs σ fun _ h => h
theorem compL_ok {f : D → M (Option D)} {w : Wk} {l acc : List D} {K : Gh → Hp → List D → Sto → Prop} (p : PostA W Wx σ m H (compL f w l acc S) K) : w.ok S = true := by
  cases l with
  | nil =>
    simp only [compL] at p
    split at p
    · assumption
    · exact p.elim
  | cons x xs =>
    simp only [compL] at p
    split at p
    · assumption
    · exact p.elim
theorem calm_post {r : R α} {g : α → M β} {K : Gh → Hp → β → Sto → Prop} (p : PostA W Wx σ m H (r.calm.bind g) K) : ∃ a s, r = .ok a s ∧ PostA W Wx σ m H (g a s) K := by
  cases r with
  | ok a s => exact ⟨a, s, rfl, p⟩
  | exc c s => exact p.elim
  | bad => exact p.elim
theorem bl_post {f : M D} {g : Bool → M α} {a : α} {s : Sto} (h : (f.bl.bind g) S = .ok a s) : ∃ k S1, f.bl S = .ok k S1 ∧ g k S1 = .ok a s := by
  replace h : ((f.bl S).bind g) = .ok a s := h
  cases z : f.bl S with
  | ok k S1 => rw [z] at h; exact ⟨k, S1, rfl, h⟩
  | exc c s => rw [z] at h; cases h
  | bad => rw [z] at h; cases h
theorem bind_post {f : M β} {g : β → M α} {a : α} {s : Sto} (h : (f.bind g) S = .ok a s) : ∃ k S1, f S = .ok k S1 ∧ g k S1 = .ok a s := by
  replace h : ((f S).bind g) = .ok a s := h
  cases z : f S with
  | ok k S1 => rw [z] at h; exact ⟨k, S1, rfl, h⟩
  | exc c s => rw [z] at h; cases h
  | bad => rw [z] at h; cases h
theorem comp_core {own : List (Str × Nat)} (hv : own.map (·.2) = tg.slots) {Q : VK} (h : tM W Wx (ev G (.comp ce tg it cc)) σ H Q) : tLc (tI W Wx (evi G it)) (tG W tg) (tT W Wx0 fun ρ => (ev G cc ρ).bl) (tM W Wx0 (ev G ce)) (own.map (·.2)) σ H Q := by
  obtain ⟨m, ρ, S, re, rs, p⟩ := h
  rw [ev_comp] at p
  refine ⟨m, ρ, S, re, rs, ?_⟩
  replace p : PostA W Wx σ m H ((evi G it ρ S).bind fun w => M.nolk w ((compL (compF G ce tg cc ρ) w w.its []).bind fun l => M.ret (.lst l))) (KV1 W Q) := p
  cases hw : evi G it ρ S with
  | exc c s => rw [hw] at p; exact p
  | bad => rw [hw] at p; exact p
  | ok w S1 =>
    rw [hw] at p
    intro m1 H1 x1 rs1 J wk D hD
    have p1 := PostA.ext p x1
    clear p
    replace p1 : PostA W Wx σ m1 H1 (if w.lk = none then ((compL (compF G ce tg cc ρ) w w.its [] S1).bind fun l => M.ret (.lst l)) else .bad) (KV1 W Q) := p1
    split at p1
    case isFalse => exact p1.elim
    have p2 : PostA W Wx σ m1 H1 (compL (compF G ce tg cc ρ) w w.its [] S1) (fun m' H' l S' => ∀ v, Rep W m' H' v (.lst l) → Q v H') := by
      cases hc : compL (compF G ce tg cc ρ) w w.its [] S1 with
      | ok l s => rw [hc] at p1; exact p1
      | exc c s => rw [hc] at p1; exact p1
      | bad => rw [hc] at p1; exact p1
    clear p1
    obtain ⟨Gd, Y, wl, hG, hY⟩ := wk.ex
    have re1 := re.ext x1
    have hDm : D ∉ m1 := rs1.out hD
    rw [hv]
    refine lc_it wl (fun i H => ∃ m S xs acc, Ext m1 H1 m H ∧ RepS W m H S ∧ D ∈ m.h ∧ H D = some (.lst xs) ∧ Reps W m H xs acc ∧ PostA W Wx σ m1 H1 (compL (compF G ce tg cc ρ) w (w.its.drop i) acc S) (fun m' H' l S' => ∀ v, Rep W m' H' v (.lst l) → Q v H'))
      ⟨m1.hide D, S1, [], [], ext_hide hD, rs1.hide hD rfl, List.mem_cons_self .., upd_same, .nil, p2⟩ ?_ ?_ ?_
    · rintro i H2 hi ⟨m2, S2, xs, acc, x2, rs2, hm, hx, rx, p⟩
      exact hG m2 H2 S2 x2.w rs2 (compL_ok p)
    · rintro i x H2 H3 hi ⟨m2, S2, xs, acc, x2, rs2, hm, hx, rx, p⟩ y
      have hok := compL_ok p
      obtain ⟨d, hd, x3, rs3, r3⟩ := hY m2 H2 S2 i x H3 x2.w rs2 hok hi y
      have edrop : w.its.drop i = d :: w.its.drop (i + 1) := by
        obtain ⟨h1, h2⟩ := List.getElem?_eq_some_iff.mp hd
        rw [List.drop_eq_getElem_cons h1, h2]
      rw [edrop] at p
      simp only [compL] at p
      rw [if_pos hok] at p
      obtain ⟨o, S4, hf, p4⟩ := calm_post p
      unfold compF at hf
      cases hb : bindT tg d (wipeE ρ tg.slots) with
      | none => rw [hb] at hf; cases hf
      | some ρ' =>
        rw [hb] at hf
        obtain ⟨k, S5, hk, hf⟩ := bl_post hf
        have hkeep : ∀ {m' : Gh} {H' : Hp}, Ext m2 H3 m' H' → H' D = some (.lst xs) ∧ D ∈ m'.h := by
          intro m' H' x
          have h1 : D ∉ m2.l := (rs2.hid D hm).1
          exact ⟨x.keepL _ _ (x3.keepL _ _ hx h1 fun _ z => nomatch z) h1 (fun _ z => nomatch z), x.hid _ hm⟩
        refine ⟨m2, wipeE ρ tg.slots, d, ρ', RepE.wipe ((re1.ext x2).ext x3) _, r3, hb, fun σ2 re2 kp => ⟨?_, ?_⟩⟩
        · rw [kp _ fun i hi => hi, wipe_wipe]
        · refine ⟨m2, ρ', S2, re2, rs3, ?_⟩
          show PostA W Wx0 σ2 m2 H3 ((ev G cc ρ').bl S2) _
          rw [hk]
          intro m5 H5 x5 rs5
          cases k with
          | false =>
            cases hf
            show if false = true then _ else _
            rw [if_neg (by decide)]
            obtain ⟨g1, g2⟩ := hkeep x5
            exact ⟨m5, S4, xs, acc, (x2.trans x3).trans x5, rs5, g2, g1, (rx.ext x3).ext x5, p4⟩
          | true =>
            obtain ⟨yd, S6, hy, hf⟩ := bind_post hf
            cases hf
            show if true = true then _ else _
            rw [if_pos rfl]
            refine ⟨m5, ρ', S5, re2.ext x5, rs5, ?_⟩
            rw [hy]
            intro m6 H6 x6 rs6 v r6
            obtain ⟨g1, g2⟩ := hkeep (x5.trans x6)
            have p5 : PostA W Wx σ m1 H1 ((if acc.length < line then compL (compF G ce tg cc ρ) w (w.its.drop (i + 1)) (acc ++ [yd]) else M.bad) S4) (fun m' H' l S' => ∀ v, Rep W m' H' v (.lst l) → Q v H') := p4
            have rx6 := ((rx.ext x3).ext x5).ext x6
            split at p5
            · rename_i hl
              refine ⟨xs, g1, by rw [rx.length]; exact Nat.lt_of_lt_of_le hl line_ok, m6, S4, xs ++ [v], acc ++ [yd], ?_, rs6.puth g2 rfl, g2, upd_same, ?_, p5⟩
              · exact (((x2.trans x3).trans x5).trans x6).putNew hD
              · exact (rx6.append (.cons r6 .nil)).puth (.inr g2)
            · exact p5.elim
    · rintro H2 ⟨m2, S2, xs, acc, x2, rs2, hm, hx, rx, p⟩
      have hok := compL_ok p
      rw [List.drop_length] at p
      simp only [compL] at p
      rw [if_pos hok] at p
      have h1 : D ∉ m2.l := (rs2.hid D hm).1
      exact p (m2.show_ D) H2 (x2.showAt hDm) (rs2.show_ D) _ (.lst (Gh.not_show m2 D h1) hx (Reps.weak (m := m2) (m' := m2.show_ D) rfl (fun _ z => Gh.mem_show (p := D) z) rx))
theorem se_comp {scope : Scope} {own : List (Str × Nat)} (O : Okx W Wx X) (hi : SI W Wx X G tgt iter it) (ok : BlkOk X.N X.env.scope scope own) (hv : own.map (·.2) = tg.slots)
    (hg : ∀ (s : Shared) (H : Hp) (C : Addr) (cl : List (Str × Addr)) (fp : List Addr), SG W (X.blk s H scope (compEnvC scope cl C X.env) fp) tgt tg)
    (ht : ∀ (s : Shared) (H : Hp) (C : Addr) (cl : List (Str × Addr)) (fp : List Addr), STs W (X.blk s H scope (compEnvC scope cl C X.env) fp) G ifs cc)
    (he : ∀ (s : Shared) (H : Hp) (C : Addr) (cl : List (Str × Addr)) (fp : List Addr), SE W Wx0 (X.blk s H scope (compEnvC scope cl C X.env) fp) G elt ce) (hs : ∀ x, foldedSetIterable iter X.env x = pure x := by intro _; rfl) :
    SE W Wx X G (.ListComp elt [⟨tgt, iter, ifs, 0⟩] scope pos) (.comp ce tg it cc) :=
  PE.imp (pe_lc O.calm O.nd hi ok hg ht he hs) fun σ H Q h => comp_core hv h
/-- name = [..] -/
theorem ss_setLc {i : Nat} {y : Str} {py spos : Pos} {scope : Scope} {own : List (Str × Nat)} (O : Okx W Wx X) (hy : X.N[i]? = some y) (hyl : X.env.scope.names.lookup y = some .local) (hsw : swapsWith (.ListComp elt [⟨tgt, iter, ifs, 0⟩] scope pos) (some (.Name y py)) spos.line X.env = pure true) (hi : SI W Wx X G tgt iter it) (ok : BlkOk X.N X.env.scope scope own) (hv : own.map (·.2) = tg.slots)
    (hg : ∀ (s : Shared) (H : Hp) (C : Addr) (cl : List (Str × Addr)) (fp : List Addr), SG W (X.blk s H scope (compEnvC scope cl C X.env) fp) tgt tg)
    (ht : ∀ (s : Shared) (H : Hp) (C : Addr) (cl : List (Str × Addr)) (fp : List Addr), STs W (X.blk s H scope (compEnvC scope cl C X.env) fp) G ifs cc)
    (he : ∀ (s : Shared) (H : Hp) (C : Addr) (cl : List (Str × Addr)) (fp : List Addr), SE W Wx0 (X.blk s H scope (compEnvC scope cl C X.env) fp) G elt ce) (hs : ∀ x, foldedSetIterable iter X.env x = pure x := by intro _; rfl) :
    SS W Wx X G (.Assign [.Name y py] (.ListComp elt [⟨tgt, iter, ifs, 0⟩] scope pos) spos) (.asg (.v i) (.comp ce tg it cc)) := by
  refine PS.imp (ps_setLc O.calm O.nd hy hyl hsw hi ok hg ht he hs) fun D σ H h => ?_
  obtain ⟨m, ρ, S, re, rs, p⟩ := h
  refine comp_core hv (tM_stm re rs p fun m1 H1 d S1 v x1 re1 rs1 r1 p1 => ?_)
  obtain ⟨m2, ρ2, d2, ρ2', re2, r2, hb, q⟩ := asg_post re1 rs1 r1 p1
  simp only [bindT] at hb
  split at hb
  · cases hb
    exact q _ (re2.set r2) (Keeps.set i _ σ)
  · cases hb
theorem Okx.blk {s : Shared} {H : Hp} {scope : Scope} {cenv : PySem.Env} {fp : List Addr} (O : Okx W Wx X) : Okx W Wx0 (X.blk s H scope cenv fp) := ⟨⟨O.hK, O.hu, O.nd⟩, O.calm, L2.takes0⟩
end
end PZ
end
section
/-! Rse: raise, formatted texts, calls of an instance's methods. -/
set_option linter.all false
set_option maxRecDepth 100000
set_option maxHeartbeats 4000000
set_option Elab.async false
namespace PZ
open PySem PySem.Spec PyProof.Rows L2
section
variable {W : Wl} {Wx : WX} {X : Cx} {G : Glo} {m m' : Gh} {H H' : Hp} {S : Sto} {σ : L2.St} {ρ : PZ.Env} {a b c e : Expr} {ca cb cc ce : CE} {es ifs : List Expr} {ces : CEs} {pos p apos cpos : Pos} {x : Str}
/-- an own class of exceptions -/
structure ExC (W : Wl) (mg : Str → Option Value) (i : Nat) (x : Str) : Prop where
  ex : ∃ (B newId initId : String) (bmB : List Value), ExcBaseFacts B newId initId bmB ∧ PySem.W.excIn W.K (W.cad i) bmB newId = true
  gC : mg x = some (.ref (W.cad i))
  kC : PySem.W.keepIn W.K (.ref (W.cad i)) = true
  s1 : PySem.W.subIn W.K (.ref (W.cad i)) (.type "BaseException") = some true
  s2 : PySem.W.typeIn W.K (.ref (W.cad i)) = some (.type "type")
theorem ss_rse {i : Nat} {t : Str} {j : Nat} {p2 pos2 : Pos} (O : Okx W Wx X) (E : ExC W X.mg i x) (hg : Gl X x) (hdb : (x == ("__debug__" : Str)) = false := by decide) : SS W Wx X G (.Raise (some (.Call (.Name x p) [.Constant (.str t) j p2] [] pos)) none pos2) (.rse i) := by
  obtain ⟨B, newId, initId, bmB, F, q⟩ := E.ex
  have kC := E.kC
  have s1 := E.s1
  have s2 := E.s2
  rw [← O.hK] at q kC s1 s2
  refine PS.imp (ps_raise O.calm O.tk (pmk_own F q E.gC kC (raises_own s1 s2) hg hdb)) fun D σ H h => ?_
  obtain ⟨m, ρ, S, re, rs, p⟩ := h
  exact p m H σ (Ext.refl _ _) rs re
/-! ### formatted texts -/
def SJ (W : Wl) (Wx : WX) (X : Cx) (G : Glo) (es : List Expr) (cs : CEs) : Prop := ∃ ts, PJ X es ts ∧ ∀ (acc : Str) (accS : Tx) (σ : L2.St) (H : Hp) (Q : Str → Hp → Prop) (m : Gh) (ρ : PZ.Env) (S : Sto), acc.cps.toList = accS → accS.all (· < 0x110000) = true → RepE W m H σ ρ → RepS W m H S →
  PostA W Wx σ m H (evj G cs accS ρ S) (fun m' H' t _ => ∀ x : Str, x.cps.toList = t → t.all (· < 0x110000) = true → Q x H') → tJs ts acc σ H Q
theorem sj_nil : SJ W Wx X G [] .nil := ⟨[], .nil, fun acc accS σ H Q m ρ S e a re rs p => p m H (Ext.refl _ _) rs acc e a⟩
theorem sj_step {r : Tx → M Tx} {K : Gh → Hp → Tx → Sto → Prop} {d : D} {v : V} {accS : Tx} (rs : RepS W m H S) (rv : Rep W m H v d) (p : PostA W Wx σ m H (((M.opt (pieceT d)).bind fun t => if accS.length + t.length ≤ line then r (accS ++ t) else M.bad) S) K) :
    ∃ t, pieceT d = some t ∧ accS.length + t.length ≤ line ∧ PostA W Wx σ m H (r (accS ++ t) S) K := by
  obtain ⟨t, e, p1⟩ := opt_bind p
  split at p1
  · exact ⟨t, e, ‹_›, p1⟩
  · exact p1.elim
theorem app_T {x y : Str} {s t : Tx} (hx : x.cps.toList = s) (hy : y.cps.toList = t) : (x ++ y).cps.toList = s ++ t := by
  have := TL.tl_append x y
  rw [show TL.tl x = s from hx, show TL.tl y = t from hy] at this
  exact this
theorem sj_val (he : SE W Wx X G e ce) (h : SJ W Wx X G es ces) : SJ W Wx X G (.FormattedValue e (-1) none pos :: es) (.cons ce ces) := by
  obtain ⟨ts, pj, f⟩ := h
  refine ⟨_, .cons (pe_fmt he) pj, fun acc accS σ H Q m ρ S ea aa re rs p => ?_⟩
  refine tM_bind re rs p fun m1 H1 d S1 v x1 re1 rs1 r1 p1 => ?_
  obtain ⟨t, et, hl, p2⟩ := sj_step (r := fun a => evj G ces a ρ) rs1 r1 p1
  have fin : ∀ y : Str, y.cps.toList = t → t.all (· < 0x110000) = true → ∃ y' : Str, V.str y = V.str y' ∧ (acc ++ y').length ≤ sizeLine ∧ tJs ts (acc ++ y') σ H1 Q := fun y ey ay =>
    ⟨y, rfl, by rw [len_T (app_T ea ey), List.length_append]; exact Nat.le_trans hl line_ok, f _ _ σ H1 Q m1 ρ S1 (app_T ea ey) (all_append aa ay) re1 rs1 p2⟩
  cases d <;> try (cases et; done)
  · rename_i i
    simp only [pieceT] at et
    split at et
    · rename_i hi
      cases et; cases r1
      exact .inr ⟨i, rfl, by omega, fin _ (tl_toString i) (intT_lt i)⟩
    · cases et
  · cases et
    obtain ⟨y, rfl, ey, ay⟩ := r1.val.str
    exact .inl ⟨y, rfl, by rw [len_T ey]; exact Nat.le_trans (Nat.le_trans (Nat.le_add_left _ _) hl) line_ok, fin y ey (all_T ey ay)⟩
theorem sj_con {t : Str} {s : Tx} {j : Nat} (h : SJ W Wx X G es ces) (hs : t.cps.toList = s := by rfl) (ha : s.all (· < 0x110000) = true := by decide +kernel) : SJ W Wx X G (.Constant (.str t) j pos :: es) (.cons (.c (.str s)) ces) := by
  obtain ⟨ts, pj, f⟩ := h
  refine ⟨_, .cons pe_str pj, fun acc accS σ H Q m ρ S ea aa re rs p => ?_⟩
  obtain ⟨t', et, hl, p2⟩ := sj_step (d := .str s) (v := .str t) (r := fun a => evj G ces a ρ) rs (.str hs (by rw [← Array.all_toList, hs]; exact ha)) p
  cases et
  exact ⟨t, rfl, by rw [len_T (app_T ea hs), List.length_append]; exact Nat.le_trans hl line_ok, f _ _ σ H Q m ρ S (app_T ea hs) (all_append aa ha) re rs p2⟩
theorem se_fstr {e2 : Expr} (h : SJ W Wx X G (e :: e2 :: es) ces) : SE W Wx X G (.JoinedStr (e :: e2 :: es) pos) (.fstr ces) := by
  obtain ⟨ts, pj, f⟩ := h
  refine PE.imp (pe_joined pj) fun σ H Q h => ?_
  obtain ⟨m, ρ, S, re, rs, p⟩ := h
  refine f Str.empty [] σ H _ m ρ S rfl rfl re rs ?_
  replace p : PostA W Wx σ m H ((evj G ces [] ρ S).bind fun t => M.ret (.str t)) (KV1 W Q) := p
  cases hv : evj G ces [] ρ S with
  | ok t s => rw [hv] at p; exact fun m' H' x rs' y ey ay => p m' H' x rs' _ (.str ey (by rw [← Array.all_toList, ey]; exact ay))
  | exc c s => rw [hv] at p; exact p
  | bad => rw [hv] at p; exact p
theorem se_fs1 (he : SE W Wx X G e ce) : SE W Wx X G (.JoinedStr [.FormattedValue e (-1) none pos] p) (.fstr (.cons ce .nil)) := by
  refine PE.imp (pe_joined1 (pe_fmt he)) fun σ H Q h => ?_
  obtain ⟨m, ρ, S, re, rs, p⟩ := h
  have e1 : ev G (.fstr (.cons ce .nil)) ρ S = ((ev G ce ρ).bind fun x => (M.opt (pieceT x)).bind fun t => if ([] : Tx).length + t.length ≤ line then M.ret (.str ([] ++ t)) else M.bad) S := by
    show ((ev G ce ρ S).bind fun x => (M.opt (pieceT x)).bind fun t => if ([] : Tx).length + t.length ≤ line then evj G .nil ([] ++ t) ρ else M.bad).bind (fun t => M.ret (D.str t)) = _
    show _ = (ev G ce ρ S).bind _
    cases ev G ce ρ S with
    | exc c s => rfl
    | bad => rfl
    | ok d s =>
      show (((M.opt (pieceT d)).bind fun t => if ([] : Tx).length + t.length ≤ line then evj G .nil ([] ++ t) ρ else M.bad) s).bind (fun t => M.ret (D.str t)) = ((M.opt (pieceT d)).bind _) s
      cases pieceT d with
      | none => rfl
      | some t =>
        show ((if ([] : Tx).length + t.length ≤ line then evj G .nil ([] ++ t) ρ else M.bad) s).bind _ = (if ([] : Tx).length + t.length ≤ line then M.ret (D.str ([] ++ t)) else M.bad) s
        split <;> rfl
  rw [e1] at p
  refine tM_bind re rs p fun m1 H1 d S1 v x1 re1 rs1 r1 p1 => ?_
  obtain ⟨t, et, p2⟩ := opt_bind p1
  split at p2
  case isFalse => exact p2.elim
  rename_i hl
  cases d <;> try (cases et; done)
  · rename_i i
    simp only [pieceT] at et
    split at et
    · rename_i hi
      cases et; cases r1
      exact .inr ⟨i, rfl, by omega, p2 m1 H1 (Ext.refl _ _) rs1 _ (.str (tl_toString i) (by rw [← Array.all_toList, tl_toString]; exact intT_lt i))⟩
    · cases et
  · cases et
    obtain ⟨y, rfl, ey, ay⟩ := r1.val.str
    exact .inl ⟨y, rfl, by rw [len_T ey]; exact Nat.le_trans (Nat.le_trans (Nat.le_add_left _ _) hl) line_ok, p2 m1 H1 (Ext.refl _ _) rs1 _ (.str ey ay)⟩
end
end PZ
end
section
/-! Defs: a def computes what the evaluator says. -/
set_option linter.all false
set_option maxRecDepth 100000
set_option maxHeartbeats 4000000
set_option Elab.async false
namespace PZ
open PySem PySem.Spec PyProof.Rows L2
section
variable {W : Wl} {m m' : Gh} {H H' : Hp} {S S' : Sto} {n : Nat}
def Gh.cut (m : Gh) (n : Nat) : Gh := ⟨m.l.take n, m.h⟩
theorem Gh.mem_cut {m : Gh} {n : Nat} {a : Addr} (h : a ∈ m.cut n) : a ∈ m := by
  rcases h with h | h
  · exact .inl (List.mem_of_mem_take h)
  · exact .inr h
mutual
theorem Rep.cut : ∀ {v : V} {d : D}, Rep W m H v d → d.upto n = true → Rep W (m.cut n) H v d
  | _, _, .non, _ => .non
  | _, _, .bl b, _ => .bl b
  | _, _, .int i, _ => .int i
  | _, _, .str e h, _ => .str e h
  | _, _, .tup h r, u => .tup (h.weak fun _ z => Gh.mem_cut z) (Reps.cut r (by simpa [D.upto] using u))
  | _, _, .lst h e r, u => .lst (fun z => h (Gh.mem_cut z)) e (Reps.cut r (by simpa [D.upto] using u))
  | _, _, .kt h e r, u => .kt (fun z => h (Gh.mem_cut z)) e (Reps.cut r (by simpa [D.upto] using u))
  | _, _, .scr h, _ => .scr (h.imp (fun z => ⟨fun y => z.1 (Gh.mem_cut y), z.2⟩) id)
  | _, _, .ref (n := k) h, u => .ref (by
      have hk : k < n := by simpa [D.upto] using u
      show (m.l.take n)[k]? = _
      rw [List.getElem?_take_of_lt hk]; exact h)
  | _, _, .fn, _ => .fn
  | _, _, .exv h, _ => .exv h
theorem Reps.cut : ∀ {vs : List V} {ds : List D}, Reps W m H vs ds → D.uptos n ds = true → Reps W (m.cut n) H vs ds
  | _, _, .nil, _ => .nil
  | _, _, .cons r t, u => by
    simp only [D.uptos, Bool.and_eq_true] at u
    exact .cons (Rep.cut r u.1) (Reps.cut t u.2)
end
theorem pimpA {α β : Type} {F G : α → β → Prop} {q : β → Bool} : ∀ {l₁ : List α} {l₂ : List β}, (∀ a b, q b = true → F a b → G a b) → l₂.all q = true → Paired F l₁ l₂ → Paired G l₁ l₂
  | _, _, _, _, .nil => .nil
  | _, _, f, h, .cons r t => by
    simp only [List.all_cons, Bool.and_eq_true] at h
    exact .cons (f _ _ h.1 r) (pimpA f h.2 t)
theorem RepO.cut {a : Addr} {o : MO} (r : RepO W m H a o) (u : o.upto n = true) : RepO W (m.cut n) H a o := by
  cases o with
  | lst l => obtain ⟨xs, h, q⟩ := r; exact ⟨xs, h, q.cut u⟩
  | dic t lk kvs =>
    cases t with
    | false => obtain ⟨ks, h, q⟩ := r; exact ⟨ks, h, pimpA (q := fun kv : D × D => D.upto n kv.2) (fun _ _ hu z => ⟨z.1, z.2.cut hu⟩) u q⟩
    | true => obtain ⟨ks, h, q⟩ := r; exact ⟨ks, h, pimpA (q := fun kv : D × D => D.upto n kv.2) (fun _ _ hu z => ⟨z.1, z.2.cut hu⟩) u q⟩
  | ins c fs => obtain ⟨dx, fl, h, q⟩ := r; exact ⟨dx, fl, h, pimpA (q := fun kv : Nat × D => D.upto n kv.2) (fun _ _ hu z => ⟨z.1, z.2.cut hu⟩) u q⟩
theorem RepS.cut (r : RepS W m H S) (h : (S.take n).all (MO.upto n) = true) : RepS W (m.cut n) H (S.take n) := by
  refine ⟨by show (m.l.take n).length = _; simp [r.len], r.nd.sublist (List.take_sublist n m.l), fun a ha => ⟨fun z => (r.hid a ha).1 (List.mem_of_mem_take z), (r.hid a ha).2⟩, fun k a o h1 h2 => ?_, r.tab⟩
  have hk : k < n := by
    have := (List.getElem?_eq_some_iff.mp h2).1
    simp at this; omega
  have h1' : m.l[k]? = some a := by
    have : (m.l.take n)[k]? = some a := h1
    rwa [List.getElem?_take_of_lt hk] at this
  have h2' : S[k]? = some o := by rwa [List.getElem?_take_of_lt hk] at h2
  exact (r.obj k a o h1' h2').cut (List.all_eq_true.mp h o (List.mem_of_getElem? h2))
theorem Ext.cut (x : Ext m H m' H') (hn : m.l.length = n) : Ext m H (m'.cut n) H' := by
  obtain ⟨k, e⟩ := x.pre
  have el : (m'.cut n).l = m.l := by
    show m'.l.take n = _
    rw [e, ← hn, List.take_left']; rfl
  exact ⟨⟨[], by rw [el, List.append_nil]⟩, x.hid, x.keepL, x.there, fun a ha => .inl (by rw [el] at ha; exact ha), x.freshH⟩
theorem trunc_post {d : D} {Q : VK} {E : XK} (hn : m.l.length = n) (p : PostC W m H (trunc n d S) Q E) : ∀ m' H' v, Ext m H m' H' → RepS W m' H' S → Rep W m' H' v d → Q v H' := by
  intro m' H' v x rs r
  unfold trunc at p
  split at p
  · exact p m' H' v x rs r
  · split at p
    · rename_i hall
      split at p
      · rename_i hu
        exact p (m'.cut n) H' v (x.cut hn) (rs.cut hall) (r.cut hu)
      · rename_i hu
        split at p
        · rename_i k
          cases z : S[k]? with
          | none => rw [z] at p; exact p m' H' v x rs r
          | some o =>
            rw [z] at p
            cases o with
            | dic t lk kvs => exact p m' H' v x rs r
            | ins c fs => exact p m' H' v x rs r
            | lst l =>
              simp only at p
              split at p
              · rename_i hul
                obtain ⟨a, rfl, ha⟩ := r.refV
                obtain ⟨xs, hx, q⟩ := lst_at rs ha z
                refine p (m'.cut n) H' _ (x.cut hn) (rs.cut hall) (.lst ?_ hx (q.cut hul))
                have hk : ¬ k < n := by simpa [D.upto] using hu
                rintro (hz | hz)
                · obtain ⟨j, hj⟩ := List.getElem?_of_mem (show a ∈ m'.l.take n from hz)
                  have hjn : j < n := by
                    have := (List.getElem?_eq_some_iff.mp hj).1
                    simp at this; omega
                  rw [List.getElem?_take_of_lt hjn] at hj
                  obtain ⟨i1, e1⟩ := List.getElem?_eq_some_iff.mp hj
                  obtain ⟨i2, e2⟩ := List.getElem?_eq_some_iff.mp ha
                  have := (List.getElem_inj rs.nd).mp (e1.trans e2.symm)
                  omega
                · exact (rs.hid a hz).1 (Gh.mem ha)
              · exact p m' H' v x rs r
        · exact p m' H' v x rs r
    · exact p m' H' v x rs r
theorem truncE_post {c : Nat} {Q : VK} {E : XK} (hn : m.l.length = n) (p : PostC W m H (truncE n c S) Q E) : ∀ m' H', Ext m H m' H' → RepS W m' H' S → E (.ref (W.cad c)) none H' := by
  intro m' H' x rs
  unfold truncE at p
  split at p
  · exact p m' H' x rs
  · split at p
    · rename_i hall
      exact p (m'.cut n) H' (x.cut hn) (rs.cut hall)
    · exact p m' H' x rs
theorem fin_post {r : RS} {k : Bool} {Q : VK} {E : XK} (hn : m.l.length = n) (p : PostC W m H (finS k n r) Q E) : PostS W (fun c d _ H => E c d H) m H r { nx := fun _ H' => Q .non H', rt := Q } := by
  cases r with
  | nx ρ s =>
    intro m' H' σ' x rs re
    simp only [finS] at p
    split at p
    · exact p m' H' .non x rs .non
    · exact trunc_post hn p m' H' .non x rs .non
  | ct ρ s => exact (show False from p).elim
  | rt d s =>
    intro m' H' v x rs r
    simp only [finS] at p
    split at p
    · exact p m' H' v x rs r
    · exact trunc_post hn p m' H' v x rs r
  | exc c ρ s =>
    intro m' H' σ' x rs re
    simp only [finS] at p
    split at p
    · exact p m' H' x rs
    · exact truncE_post hn p m' H' x rs
  | bad => exact p
end
/-- the context of a def's body -/
abbrev cxB (P : Program) (w : World) (K : PySem.W.Frag) (mg : Str → Option Value) (base : Heap) (N : List Str) (qual : Str) (scope : Scope) (f : Addr) (cdv : Value) (A : Around) (out : List PySem.Env) (s : Shared) (H : Hp) (E : XK) : Cx := cxOf (L2.CX P w) P w K mg base N qual scope f cdv A out s H E
/-- a def keeps its promise: what its body computes -/
theorem def_sound {gr : Bool} {P : Program} {w : World} {W : Wl} {mg : Str → Option Value} {base : Heap} {x qual : Str} {params : Arguments} {body : List Stmt} {scope : Scope} {dvs : List V} {kws : List (Str × V)} {i : Nat} {fd : FuncData} {N ps : List Str} {k : Nat} {G : Glo} {d : Def}
    (F : FunD W.K x qual params body scope dvs kws (W.fad i) fd) (Sc : FnScope N ps scope) (hnn : d.nn = N.length) (hnp : d.np = ps.length)
    (hbody : ∀ (cdv : Value) (A : Around) (out : List PySem.Env) (s : Shared) (H : Hp) (E : XK), Room k (cxB P w W.K mg base N qual scope (W.fad i) cdv A out s H E).A → Okx W (fun c d _ H => E c d H) (cxB P w W.K mg base N qual scope (W.fad i) cdv A out s H E) → (gr = true → (cxB P w W.K mg base N qual scope (W.fad i) cdv A out s H E).A.guards = some []) → CdOf W.K (W.fad i) qual cdv →
      PassesOwn (model P w) (cxB P w W.K mg base N qual scope (W.fad i) cdv A out s H E).A (cxB P w W.K mg base N qual scope (W.fad i) cdv A out s H E).env (cxB P w W.K mg base N qual scope (W.fad i) cdv A out s H E).xe →
      SSs W (fun c d _ H => E c d H) (cxB P w W.K mg base N qual scope (W.fad i) cdv A out s H E) G body d.body) :
    FnG gr P w W.K mg base (k + 1) (W.fad i) fd ps (spF W ps.length (evDef G d)) := by
  refine bodyG F Sc (fun vs H Q E h => h.1) fun cdv A out s H vs Q E hr hg hcd h => ?_
  obtain ⟨hl, m, ds, S, rs, r, p⟩ := h
  refine ⟨_, hbody cdv A out s H E hr ⟨⟨rfl, ?_, Sc.nd⟩, rfl, takes_of rfl rfl rfl rfl⟩ hg hcd (passes_of rfl), m, env0 N.length ds, S, RepE.start r, rs, ?_⟩
  · have := hr.un
    show (A.deeper _).units + 65 < cLine
    omega
  · have hd : ds.length = d.np := by rw [hnp, ← hl, r.length]
    unfold evDef at p
    rw [if_pos hd, hnn] at p
    exact fin_post rs.len p
end PZ
end
section
/-! Glue: list(), stores at items, short names with what is looked up by itself. -/
set_option linter.all false
set_option maxRecDepth 100000
set_option maxHeartbeats 4000000
set_option Elab.async false
namespace PZ
open PySem PySem.Spec PyProof.Rows L2
section
variable {W : Wl} {Wx : WX} {X : Cx} {G : Glo} {m m' : Gh} {H H' : Hp} {S : Sto} {σ : L2.St} {ρ : PZ.Env} {a b c e o : Expr} {ca cb cc ce co : CE} {es ifs : List Expr} {ces : CEs} {pos p apos cpos : Pos} {x : Str}
theorem key_rep : ∀ {k : Key} {d : D}, KeyR k d → Rep W m H (kV k) d
  | .inl i, .int j, h => by
    have : i = j := h
    subst this; exact .int i
  | .inr x, .str s, h => .str h.1 h.2
  | .inl _, .non, h => h.elim
  | .inl _, .bl _, h => h.elim
  | .inl _, .str _, h => h.elim
  | .inl _, .tup _, h => h.elim
  | .inl _, .lst _, h => h.elim
  | .inl _, .kt _, h => h.elim
  | .inl _, .scr _, h => h.elim
  | .inl _, .ref _, h => h.elim
  | .inl _, .fn _, h => h.elim
  | .inl _, .exv _, h => h.elim
  | .inr _, .non, h => h.elim
  | .inr _, .bl _, h => h.elim
  | .inr _, .int _, h => h.elim
  | .inr _, .tup _, h => h.elim
  | .inr _, .lst _, h => h.elim
  | .inr _, .kt _, h => h.elim
  | .inr _, .scr _, h => h.elim
  | .inr _, .ref _, h => h.elim
  | .inr _, .fn _, h => h.elim
  | .inr _, .exv _, h => h.elim
theorem keys_reps {F : V → D → Prop} : ∀ {ks : List (Key × V)} {kvs : List (D × D)}, Paired (fun p q => KeyR p.1 q.1 ∧ F p.2 q.2) ks kvs → Reps W m H (ks.map fun kv => kV kv.1) (kvs.map (·.1))
  | _, _, .nil => .nil
  | _, _, .cons r t => .cons (key_rep r.1) (keys_reps t)
theorem cb_list (hK : X.K = W.K) (hc : X.calm = true) : CallR X (.type "list") (rB W (biM .list)) := by
  intro pns s σ H vs us Q I rv h
  obtain ⟨m, ds, S, rs, r, p⟩ := h
  have main : ∀ v d d', vs = [v] → Val W m H v d → biD .list [d] = some d' → Fin W m H S d' Q → wpAny (model X.prog X.w) X.A (call (.type "list") us) (EP X pns σ Q) X.xe s := by
    rintro v d d' rfl vd e k
    cases d <;> try (cases e; done)
    · cases e
      obtain ⟨a, xs, rfl, t, q⟩ := vd.tup
      exact call_list_of pns s σ H _ us Q I rv ⟨a, xs, rfl, .inr (by rw [hK]; exact t.sq), fun l hl => finL rs k hl q⟩
    · cases e
      obtain ⟨a, xs, rfl, t, q⟩ := vd.lst
      exact call_list_of pns s σ H _ us Q I rv ⟨a, xs, rfl, .inl (.of t), fun l hl => finL rs k hl q⟩
  match ds, r, p with
  | [], _, p => exact p.elim
  | a :: b :: l, r, p =>
    obtain ⟨d', e2, k⟩ := optEnd (show PostN W m H (M.opt (biD .list (rd S a :: rd S b :: l.map (rd S))) S) (KV1 W Q) from p)
    exact absurd e2 (by cases rd S a <;> exact fun z => nomatch z)
  | [d], r, p =>
    obtain ⟨v, rfl, r1⟩ := Reps.one r
    by_cases hd : ∃ n, d = .ref n
    · obtain ⟨n, rfl⟩ := hd
      obtain ⟨a, rfl, hn⟩ := r1.refV
      obtain ⟨o, ho, q⟩ := rs.at hn
      have e : biM .list [.ref n] S = (match Bi.list, S[n]? with
        | .len, some (.dic false _ kvs) => .ok (.int kvs.length) S
        | .len, some (.dic true false kvs) => .ok (.int kvs.length) S
        | .sortedD, some (.dic false false kvs) => M.opt (biD .sorted [.lst (kvs.map (·.1))]) S
        | .list, some (.dic false false kvs) => .ok (.lst (kvs.map (·.1))) S
        | .isI, some (.dic false false _) => .ok (.bl false) S
        | .isB, some (.dic false false _) => .ok (.bl false) S
        | .isS, some (.dic false false _) => .ok (.bl false) S
        | .isT, some (.dic false false _) => .ok (.bl false) S
        | b, _ => M.opt (biD b [rd S (.ref n)]) S) := rfl
      rw [e, ho] at p
      have hrd := Rep.rd rs (.ref hn : Rep W m H (.ref a) (.ref n))
      match o, q, p with
      | .ins c fs, _, p =>
        obtain ⟨d', e2, k⟩ := optEnd p
        exact main _ _ _ rfl hrd e2 k
      | .lst l, q, p =>
        obtain ⟨d', e2, k⟩ := optEnd p
        exact main _ _ _ rfl hrd e2 k
      | .dic true lk kvs, q, p =>
        obtain ⟨d', e2, k⟩ := optEnd p
        exact main _ _ _ rfl hrd e2 k
      | .dic false true kvs, q, p =>
        obtain ⟨d', e2, k⟩ := optEnd p
        exact main _ _ _ rfl hrd e2 k
      | .dic false false kvs, q, p =>
        obtain ⟨ks, hx, qx⟩ := q
        refine call_list_dK hc pns s σ H _ us Q I rv ⟨a, ks, rfl, hx, fun l hl => ?_⟩
        exact p m _ (ext_new hl) (rs.new hl) _ (.lst (rs.out hl) upd_same (keys_reps qx))
    · have e : biM .list [d] S = M.opt (biD .list [rd S d]) S := by
        cases d <;> first | rfl | exact absurd ⟨_, rfl⟩ hd
      obtain ⟨d', e2, k⟩ := biOpt (vs := []) rs e p
      exact main _ _ _ rfl (r1.rd rs) e2 k
/-! ### o[i] = e, a list of the store -/
def rSt (W : Wl) : TSet := fun x y v H Q => ∃ m dx dy d S, RepS W m H S ∧ Rep W m H x dx ∧ Rep W m H y dy ∧ Rep W m H v d ∧ (∃ n l k j, dx = .ref n ∧ S[n]? = some (.lst l) ∧ dy = .int k ∧ ixN l.length k = some j ∧ ∀ m' H', Ext m H m' H' → RepS W m' H' (S.set n (.lst (l.set j d))) → Q H')
theorem pst_list : PSet X (rSt W) := by
  intro pns s σ H o i v ov iv u Q I ro ri rv h
  obtain ⟨m, dx, dy, d, S, rs, r1, r2, r3, n, l, k, j, rfl, hn, rfl, hj, q⟩ := h
  obtain ⟨a, rfl, ha⟩ := r1.refV
  cases r2
  obtain ⟨xs, hx, qx⟩ := lst_at rs ha hn
  have hj' : L2.ixN xs.length k = some j := by rw [qx.length]; exact hj
  exact set_list pns s σ H _ _ v ov iv u Q I ro ri rv ⟨a, xs, k, j, rfl, rfl, hx, hj', q m _ (ext_put (Gh.mem ha)) (put_lst rs ha (qx.set r3 j))⟩
theorem tM_chain {g : PZ.D → M Unit} {k : Sto → RS} {Q : VK} {D' : Ends} (re : RepE W m H σ ρ) (rs : RepS W m H S) (p : PostS W Wx m H (RS.of (((ev G ce ρ).bind g) S) ρ fun _ s => k s) D')
    (h : ∀ m1 H1 d S1 v, Ext m H m1 H1 → RepE W m1 H1 σ ρ → RepS W m1 H1 S1 → Rep W m1 H1 v d → PostS W Wx m1 H1 (RS.of (g d S1) ρ fun _ s => k s) D' → Q v H1) : tM W Wx (ev G ce) σ H Q := by
  refine ⟨m, ρ, S, re, rs, ?_⟩
  replace p : PostS W Wx m H (RS.of ((ev G ce ρ S).bind g) ρ fun _ s => k s) D' := p
  cases e : ev G ce ρ S with
  | ok a s =>
    rw [e] at p
    exact fun m1 H1 x r1 v rv => h m1 H1 a s v x (re.ext x) r1 rv (PostS.ext p x)
  | exc c s =>
    rw [e] at p
    exact fun m1 H1 x r1 => p m1 H1 σ x r1 (re.ext x)
  | bad => rw [e] at p; exact p
/-- a list's item -/
theorem ss_seti (O : Okx W Wx X) {tpos : Pos} (he : SE W Wx X G e ce) (ho : SE W Wx X G o co) (hi : SE W Wx X G a ca)
    (ha : ∀ v, assign (.Subscript o a tpos) X.env v = (holding [v] (eval o X.env) >>= fun ov => holding [v, ov] (eval a X.env) >>= fun iv => standAt tpos >>= fun _ => holding [v, ov, iv] (setItem ov iv v) >>= fun _ => release [v, ov, iv] []) := by intro _; rfl)
    (hs : swapsWithSole [.Subscript o a tpos] e pos.line X.env = pure false := by rfl) (hw : swappedStores [.Subscript o a tpos] e X.env = pure none := by rfl) (h1 : (assignEach [.Subscript o a tpos] X.env).map (·.2) = [assign (.Subscript o a tpos) X.env] := by rfl) :
    SS W Wx X G (.Assign [.Subscript o a tpos] e pos) (.setL co ca ce) := by
  refine PS.imp (ps_asg he (pg_sub ho hi (pst_list (W := W)) ha) hs hw h1) fun D' σ H h => ?_
  obtain ⟨m, ρ, S, re, rs, p⟩ := h
  refine tM_chain re rs p fun m1 H1 d S1 v x1 re1 rs1 r1 p1 => ?_
  refine tM_chain re1 rs1 p1 fun m2 H2 d2 S2 v2 x2 re2 rs2 r2 p2 => ?_
  refine tM_chain re2 rs2 p2 fun m3 H3 d3 S3 v3 x3 re3 rs3 r3 p3 => ?_
  refine ⟨m3, d2, d3, d, S3, rs3, r2.ext x3, r3, (r1.ext x2).ext x3, ?_⟩
  cases d2 <;> try (exact (show False from p3).elim)
  rename_i n
  cases z : S3[n]? with
  | none => simp only [setLM, z] at p3; exact p3.elim
  | some u =>
    cases u with
    | dic t lk kvs => simp only [setLM, z] at p3; exact p3.elim
    | ins c fs => simp only [setLM, z] at p3; exact p3.elim
    | lst l =>
      simp only [setLM, z] at p3
      cases d3 <;> try (exact (show False from p3).elim)
      rename_i k
      simp only at p3
      cases hj : ixN l.length k with
      | none => rw [hj] at p3; exact p3.elim
      | some j =>
        rw [hj] at p3
        exact ⟨n, l, k, j, rfl, z, rfl, hj, fun m' H' x rs' => p3 m' H' σ x rs' (re3.ext x)⟩
end
/-! ### short names -/
section
variable {W : Wl} {Wx : WX} {X : Cx} {G : Glo} {pos : Pos}
theorem sv (i : Nat) {x : Str} (hN : X.N[i]? = some x := by rfl) (hv : Vis X.env.scope x := by first | exact Or.inl rfl | exact Or.inr (Or.inl rfl) | exact Or.inr (Or.inr rfl)) (hd : (x == ("__debug__" : Str)) = false := by decide) (hcd : (x == ("__classdict__" : Str)) = false := by decide) : SE W Wx X G (.Name x pos) (.v i) := se_v hN hv hd hcd
theorem tv (i : Nat) {x : Str} (O : Okb W X) (hi : X.N[i]? = some x := by rfl) (hx : Loc X.env.scope x := by first | exact Or.inl rfl | exact Or.inr rfl) (hf : X.fn x = true ∨ X.env.scope.names.lookup x = some .local := by first | exact .inl rfl | exact .inr rfl | assumption) : SG W X (.Name x pos) (.v i) := sg_v O.nd hi hx hf
end
/-! ### constants of the module -/
theorem gc_int {W : Wl} {mg : Str → Option Value} {x : Str} {i : Int} (h : ∃ t, mg x = some (.int i t)) : GcAt W mg x (.int i) := let ⟨t, e⟩ := h; ⟨_, .int i, e, ⟨t, rfl⟩, fun _ _ => .int i⟩
theorem gc_str {W : Wl} {mg : Str → Option Value} {x z : Str} {s : Tx} (h : ∃ t, mg x = some (.str z t)) (e : z.cps.toList = s) (a : z.cps.all (· < 0x110000) = true) : GcAt W mg x (.str s) := let ⟨t, q⟩ := h; ⟨_, .str z, q, ⟨t, rfl⟩, fun _ _ => .str e a⟩
end PZ
namespace PZ
open PySem PySem.Spec PyProof.Rows L2
section
variable {W : Wl} {Wx : WX} {X : Cx}
theorem oadd (O : Okb W X) : OpR X (binaryOp .Add) (rD W (opM .add)) := opr_add O.hK
theorem osub (O : Okb W X) : OpR X (binaryOp .Sub) (rD W (opM .sub)) := opr_sub
theorem omul (O : Okb W X) : OpR X (binaryOp .Mult) (rD W (opM .mul)) := opr_mul
theorem ofdiv (O : Okb W X) : OpR X (binaryOp .FloorDiv) (rD W (opM .fdiv)) := opr_fdiv
theorem omod (O : Okb W X) : OpR X (binaryOp .Mod) (rD W (opM .mod)) := opr_mod
theorem opow (O : Okb W X) : OpR X (binaryOp .Pow) (rD W (opM .pow)) := opr_pow
theorem oshl (O : Okb W X) : OpR X (binaryOp .LShift) (rD W (opM .shl)) := opr_shl
theorem oshr (O : Okb W X) : OpR X (binaryOp .RShift) (rD W (opM .shr)) := opr_shr
theorem oband (O : Okb W X) : OpR X (binaryOp .BitAnd) (rD W (opM .band)) := opr_band
theorem oeq (O : Okb W X) : OpR X (compareOp .Eq) (rD W (opM .eq)) := opr_eq O.hK (Nat.lt_of_le_of_lt (Nat.le_succ _) O.hu)
theorem one_ (O : Okb W X) : OpR X (compareOp .NotEq) (rD W (opM .ne)) := opr_ne O.hK (Nat.lt_of_le_of_lt (Nat.le_succ _) O.hu)
theorem olt (O : Okb W X) : OpR X (compareOp .Lt) (rD W (opM .lt)) := opr_lt O.hK (Nat.lt_of_le_of_lt (Nat.le_succ _) O.hu)
theorem ole (O : Okb W X) : OpR X (compareOp .LtE) (rD W (opM .le)) := opr_le
theorem ogt (O : Okb W X) : OpR X (compareOp .Gt) (rD W (opM .gt)) := opr_gt
theorem oge (O : Okb W X) : OpR X (compareOp .GtE) (rD W (opM .ge)) := opr_ge
theorem oin (O : Okb W X) : OpR X (compareOp .In) (rD W (opM .isin)) := opr_in O.hK O.hu
theorem onotin (O : Okb W X) : OpR X (compareOp .NotIn) (rD W (opM .notin)) := opr_notin O.hK O.hu
theorem ois (O : Okb W X) : OpR X (compareOp .Is) (rD W (opM .isN)) := opr_isN
theorem oisn (O : Okb W X) : OpR X (compareOp .IsNot) (rD W (opM .isNN)) := opr_isNN
end
end PZ
end
section
/-! Srt: sorted of a list, startswith, range with a step. -/
set_option linter.all false
set_option maxRecDepth 100000
set_option maxHeartbeats 4000000
set_option Elab.async false
namespace PZ
open PySem PySem.Spec PyProof.Rows L2
section
variable {W : Wl} {Wx : WX} {X : Cx} {G : Glo} {m m' : Gh} {H H' : Hp} {S : Sto} {σ : L2.St} {ρ : PZ.Env} {a b c e o tg : Expr} {ca cb cc ce co : CE} {es ifs : List Expr} {ces : CEs} {pos p apos cpos : Pos} {x : Str}
theorem pfx_start {x y : Str} {s t : Tx} (hx : x.cps.toList = s) (hy : y.cps.toList = t) : Txt.startswith x y = pfx t s := by
  by_cases h : t = []
  · subst h
    have : y = Str.empty := T_eq hy
    subst this
    show (decide (0 + 0 ≤ x.length) && Builtin.Str.subAt x Str.empty 0) = _
    have e1 : Builtin.Str.subAt x Str.empty 0 = true := by
      unfold Builtin.Str.subAt; simp [Str.empty, Str.length]
    rw [e1]; simp [pfx]
  · have hy' : TL.tl y ≠ [] := by rw [show TL.tl y = t from hy]; exact h
    have := TL.at_iff (x := x) hy' 0
    rw [show TL.tl y = t from hy, show TL.tl x = s from hx, List.drop_zero] at this
    unfold Txt.startswith
    cases hb : pfx t s with
    | true =>
      have h2 := this.mpr hb
      obtain ⟨h3, h4⟩ := h2
      rw [h4, Bool.and_true]
      exact decide_eq_true h3
    | false =>
      cases hz : (decide (0 + y.length ≤ x.length) && Builtin.Str.subAt x y 0) with
      | false => rfl
      | true =>
        rw [Bool.and_eq_true, decide_eq_true_eq] at hz
        have h5 : TL.pre t s = true := this.mp hz
        rw [show TL.pre t s = pfx t s from rfl, hb] at h5
        cases h5
theorem me_startswith : MtR X "str.startswith" (rM W (meM .startswith)) := by
  intro pns s σ H x vs v us Q I rx rv h
  obtain ⟨m, dx, ds, S, rs, r1, r2, p⟩ := h
  cases dx <;> try (exact p.elim)
  rename_i z
  match ds, r2, p with
  | [], _, p => exact p.elim
  | .str _ :: _ :: _, _, p => exact p.elim
  | .int _ :: _, _, p => exact p.elim
  | .non :: _, _, p => exact p.elim
  | .bl _ :: _, _, p => exact p.elim
  | .tup _ :: _, _, p => exact p.elim
  | .lst _ :: _, _, p => exact p.elim
  | .kt _ :: _, _, p => exact p.elim
  | .scr _ :: _, _, p => exact p.elim
  | .ref _ :: _, _, p => exact p.elim
  | .fn _ :: _, _, p => exact p.elim
  | .exv _ :: _, _, p => exact p.elim
  | [.str c], r2, p =>
    obtain ⟨y, rfl, e, a⟩ := r1.val.str
    obtain ⟨w, rfl, e2, a2⟩ := str_one r2
    refine mt_startswith pns s σ H _ _ v us Q I rx rv ⟨y, w, rfl, rfl, ?_⟩
    rw [pfx_start e e2]
    exact PostN.okV p (Ext.refl _ _) rs (.bl _)
/-! ### sorted(list) -/
theorem each_of {F : Value → D → Prop} : ∀ {vs : List V} {us : List Value} {ds : List D}, Vals vs us → Reps W m H vs ds → (∀ v u d, RelV v u → Rep W m H v d → F u d) → PySem.W.EachIs F us ds
  | _, _, _, .nil, .nil, _ => .nil
  | _, _, _, .cons r t, .cons q z, f => .cons (f _ _ _ r q) (each_of t z f)
theorem of_each : ∀ {us : List Value} {ds : List D}, PySem.W.EachIs (fun u d => ∃ v, RelV v u ∧ Rep W m H v d) us ds → ∃ vs, Vals vs us ∧ Reps W m H vs ds
  | _, _, .nil => ⟨[], .nil, .nil⟩
  | _, _, .cons r t => by
    obtain ⟨v, h1, h2⟩ := r
    obtain ⟨vs, h3, h4⟩ := of_each t
    exact ⟨v :: vs, .cons h1 h3, .cons h2 h4⟩
theorem sortable_ok {l : List D} (h : sortable l = true) : PySem.W.AllAlike (l.map D.toP) ∧ PySem.W.Sortable (l.map D.toP) ∧ ∀ d ∈ l, d.pure = true ∧ d.dep ≤ 60 := by
  unfold sortable at h
  simp only [Bool.and_eq_true, Bool.or_eq_true] at h
  obtain ⟨h1, h2, h3⟩ := h
  refine ⟨?_, ?_, ?_⟩
  · intro d hd d' hd'
    obtain ⟨b, hb, rfl⟩ := List.mem_map.mp hd
    obtain ⟨b', hb', rfl⟩ := List.mem_map.mp hd'
    exact List.all_eq_true.mp (List.all_eq_true.mp h1 b hb) b' hb'
  · rcases h2 with h2 | h2
    · left
      intro d hd
      obtain ⟨b, hb, rfl⟩ := List.mem_map.mp hd
      have := List.all_eq_true.mp h2 b hb
      cases b <;> try (cases this; done)
      rename_i t
      cases t with
      | nil => cases this
      | cons x r => exact ⟨_, _, rfl⟩
    · right
      intro d hd
      obtain ⟨b, hb, rfl⟩ := List.mem_map.mp hd
      have := List.all_eq_true.mp h2 b hb
      cases b <;> try (cases this; done)
      · exact ⟨(fun z => nomatch z), fun _ z => nomatch z⟩
      · exact ⟨(fun z => nomatch z), fun _ z => nomatch z⟩
  · intro d hd
    have := List.all_eq_true.mp h3 d hd
    obtain ⟨⟨p1, _⟩, d1, _⟩ := shallow_pts this
    exact ⟨p1, d1⟩
theorem cb_sortedL (hK : X.K = W.K) (hu : X.A.units + 65 < cLine) : CallR X (.builtin "sorted") (fun vs H Q => ∃ m d S l, vs.length = 1 ∧ RepS W m H S ∧ Reps W m H vs [d] ∧ rd S d = .lst l ∧ PostN W m H (M.opt (biD .sorted [.lst l]) S) (KV1 W Q)) := by
  intro pns s σ H vs us Q I rv h
  obtain ⟨m, d, S, l, _, rs, r, hl, p⟩ := h
  obtain ⟨v, rfl, r1⟩ := Reps.one r
  obtain ⟨u, rfl, ru⟩ := rv.one
  have vd := r1.rd rs
  rw [hl] at vd
  obtain ⟨a, xs, rfl, hx, q⟩ := vd.lst
  cases ru
  obtain ⟨d', e, k⟩ := optEnd p
  simp only [biD] at e
  split at e
  case isFalse => cases e
  rename_i hs
  cases e
  obtain ⟨al, so, pu⟩ := sortable_ok hs
  obtain ⟨hz, its, n, rvs, hlen, ho⟩ := I.lstM hx
  have isl : s.heap.IsList a its.toArray := ⟨_, ho, rfl, n, rfl⟩
  refine PySem.W.sorted_data (enc := D.toP) (bs := l) (R := fun u d => ∃ v, RelV v u ∧ Rep W m H v d) isl (each_of rvs q fun v u d h1 h2 => ⟨v, h1, h2⟩) ?_ al so (by rw [← q.length]; exact hz) (fun b hb => ?_) fun out hout eo => ?_
  · have : ∀ {vs : List V} {us : List Value} {ds : List D}, (∀ d ∈ ds, d.pure = true) → Vals vs us → Reps W m H vs ds → PySem.W.EachIs (fun v b => ∃ as, Reads s.heap v (D.toP b) as) us ds := by
      intro vs us ds hp r q
      induction r generalizing ds with
      | nil => cases q; exact .nil
      | cons r t ih =>
        cases q with
        | cons q z =>
          refine .cons ?_ (ih (fun d hd => hp d (List.mem_cons_of_mem _ hd)) z)
          exact Dp.reads I _ _ _ (by rw [hK]; exact q.dp (hp _ (List.mem_cons_self ..))) r
    exact this (fun d hd => (pu d hd).1) rvs q
  · have h1 := dep_toP b
    have h2 := (pu b hb).2
    omega
  · obtain ⟨ws, hw1, hw2⟩ := of_each eo
    obtain ⟨c, hc⟩ := PyProof.Rows.sortedAll_at s.heap its out.toArray
    have hn : H (s.heap.objs.size + 1) = none := I.hok.fresh (Nat.le_succ _)
    have hlw : ws.length ≤ sizeLine := by rw [hw1.length, hout, ← q.length]; exact hz
    refine ⟨.ref (s.heap.objs.size + 1), upd H (s.heap.objs.size + 1) (.lst ws), I.laid (t' := s.toks) (fun b o => PyProof.Rows.sortedAll_old) (Nat.le_succ _) ⟨hlw, out, c, hw1, hc⟩, rfl, finL rs k hn hw2⟩
theorem cb_sorted (hK : X.K = W.K) (hu : X.A.units + 65 < cLine) : CallR X (.builtin "sorted") (rB W (biM .sorted)) := by
  intro pns s σ H vs us Q I rv h
  obtain ⟨m, ds, S, rs, r, p⟩ := h
  rw [biE (by decide) (by decide) (by decide)] at p
  match ds, r, p with
  | [], _, p => exact p.elim
  | a :: b :: l, r, p =>
    replace p : PostN W m H (M.opt (biD .sorted (rd S a :: rd S b :: l.map (rd S))) S) (KV1 W Q) := p
    cases hz : rd S a <;> rw [hz] at p <;> exact p.elim
  | [d], r, p =>
    replace p : PostN W m H (M.opt (biD .sorted [rd S d]) S) (KV1 W Q) := p
    cases hz : rd S d <;> rw [hz] at p <;> try (exact p.elim)
    rename_i l
    exact cb_sortedL hK hu pns s σ H vs us Q I rv ⟨m, d, S, l, r.length, rs, r, hz, p⟩
/-! ### range(a, b, c) -/
theorem rngC_get : ∀ (n : Nat) (lo k : Int) (i : Nat), i < n → (rngC lo k n)[i]? = some (.int (lo + (i : Nat) * k))
  | 0, _, _, _, h => absurd h (Nat.not_lt_zero _)
  | n + 1, lo, k, 0, _ => by simp [rngC]
  | n + 1, lo, k, i + 1, h => by
    simp only [rngC, List.getElem?_cons_succ]
    rw [rngC_get n (lo + k) k i (by omega)]
    have : lo + k + (i : Int) * k = lo + ((i + 1 : Nat) : Int) * k := by
      have e : ((i + 1 : Nat) : Int) = (i : Int) + 1 := by omega
      rw [e, Int.add_mul, Int.one_mul]; omega
    rw [this]
theorem rngC_len : ∀ (n : Nat) (lo k : Int), (rngC lo k n).length = n
  | 0, _, _ => rfl
  | n + 1, lo, k => by simp [rngC, rngC_len n]
theorem wk_rngC {lo k : Int} {n : Nat} : WalkOk W m H ⟨rngC lo k n, [], none⟩ (Itc lo k n) := by
  refine ⟨_, _, by have := walk_rangeC (lo := lo) (c := k) (n := n); rw [show n = (rngC lo k n).length from (rngC_len n lo k).symm] at this; simpa [rngC_len] using this, fun m' H' S _ rs _ => trivial, fun m' H' S i v H2 x' rs _ hi y => ?_⟩
  obtain ⟨rfl, rfl⟩ := y
  exact ⟨.int (lo + (i : Nat) * k), rngC_get n lo k i (by simpa [rngC_len] using hi), Ext.refl _ _, rs, .int _⟩
theorem three_bind {β : Type} {g : List D → M β} : ((evs G (.cons ca (.cons cb (.cons cc .nil))) ρ).bind g) S = ((ev G ca ρ).bind fun x => (ev G cb ρ).bind fun y => (ev G cc ρ).bind fun z => g [x, y, z]) S := by
  show ((ev G ca ρ S).bind fun x => (evs G (.cons cb (.cons cc .nil)) ρ).bind fun xs => M.ret (x :: xs)).bind g = (ev G ca ρ S).bind _
  cases ev G ca ρ S with
  | exc c s => rfl
  | bad => rfl
  | ok x s =>
    have := two_bind (G := G) (ca := cb) (cb := cc) (ρ := ρ) (S := s) (g := fun xs => g (x :: xs))
    show ((evs G (.cons cb (.cons cc .nil)) ρ s).bind fun xs => M.ret (x :: xs)).bind g = ((ev G cb ρ).bind fun y => (ev G cc ρ).bind fun z => g [x, y, z]) s
    rw [← this]
    show _ = (evs G (.cons cb (.cons cc .nil)) ρ s).bind fun xs => g (x :: xs)
    cases evs G (.cons cb (.cons cc .nil)) ρ s <;> rfl
theorem si_rng3 (O : Okx W Wx X) (hg : Gl X "range") (hm : X.mg "range" = none) (ha : SA W Wx X G [a, b, c] (.cons ca (.cons cb (.cons cc .nil)))) (hs : starEach [a, b, c] X.env = (false, eval a X.env) :: starEach [b, c] X.env := by rfl) (hpl : (backTo pos (starEach [b, c] X.env)).any (·.1) = false := by rfl) : SI W Wx X G tg (.Call (.Name "range" p) [a, b, c] [] pos) (.rng3 ca cb cc) := by
  refine PI.imp (pi_range3 hg hm ha hs hpl) fun σ H R h => ?_
  obtain ⟨m, ρ, S, re, rs, p⟩ := h
  have p' : PostA W Wx σ m H (((evs G (.cons ca (.cons cb (.cons cc .nil))) ρ).bind fun xs => M.opt (match xs with
    | [.int i, .int j, .int k] => if PySem.Builtin.Range.small i j k && (decide (k ≠ 0) && decide (k.natAbs < 1000)) then some (⟨rngC i k (rngN i j k), [], none⟩ : Wk) else none
    | _ => none)) S) (KW W R) := by
    rw [three_bind]
    refine (show ((ev G ca ρ).bind fun x => (ev G cb ρ).bind fun y => (ev G cc ρ).bind fun z => M.opt (match x, y, z with
      | .int i, .int j, .int k => if PySem.Builtin.Range.small i j k && (decide (k ≠ 0) && decide (k.natAbs < 1000)) then some (⟨rngC i k (rngN i j k), [], none⟩ : Wk) else none
      | _, _, _ => none)) S = ((ev G ca ρ).bind fun x => (ev G cb ρ).bind fun y => (ev G cc ρ).bind fun z => M.opt (match [x, y, z] with
      | [.int i, .int j, .int k] => if PySem.Builtin.Range.small i j k && (decide (k ≠ 0) && decide (k.natAbs < 1000)) then some (⟨rngC i k (rngN i j k), [], none⟩ : Wk) else none
      | _ => none)) S from ?_) ▸ p
    congr 1
    funext x
    congr 1
    funext y
    congr 1
    funext z
    cases x <;> cases y <;> try rfl
    cases z <;> rfl
  refine tL_bind re rs p' fun m1 H1 ds S1 vs x1 re1 rs1 r1 p1 => ?_
  obtain ⟨w, hw, k⟩ := PostA.opt rs1 p1
  match ds, r1, hw with
  | [.int i, .int j, .int c], r1, hw =>
    simp only at hw
    split at hw
    · rename_i hj
      cases hw
      cases r1 with
      | cons r r1 =>
        obtain ⟨v, u, rfl, r', r''⟩ := Reps.two r1
        cases r; cases r'; cases r''
        simp only [Bool.and_eq_true, decide_eq_true_eq] at hj
        exact ⟨i, j, c, rngN i j c, rfl, ⟨hj.2.1, by omega, hj.1, PyProof.Rows.rangeSize_toNat i j c⟩, k _ wk_rngC⟩
    · cases hw
/-! ### [::-1] of a list -/
theorem se_rev {k : Nat} {p1 p2 p3 : Pos} (O : Okx W Wx X) (he : SE W Wx X G e ce) : SE W Wx X G (.Subscript e (.Slice none none (some (.UnaryOp .USub (.Constant (.int 1) k p1) p2)) p3) pos) (.rev ce) := by
  refine PE.imp (pe_revL he) fun σ H Q h => ?_
  obtain ⟨m, ρ, S, re, rs, p⟩ := h
  refine tM_bind re rs p fun m1 H1 d S1 v x1 re1 rs1 r1 p1 => ?_
  obtain ⟨d', e', q⟩ := PostA.opt rs1 p1
  have vd := r1.rd rs1
  cases z : PZ.rd S1 d <;> rw [z] at e' vd <;> try (cases e'; done)
  cases e'
  obtain ⟨a, xs, rfl, t, q'⟩ := vd.lst
  refine ⟨a, xs, rfl, .of t, fun l hl => ?_⟩
  obtain ⟨d2, e2, q2⟩ := PostA.opt (W := W) (Wx := Wx) (σ := σ) rs1 p1
  rw [z] at e2; cases e2
  have p3 : PostA W Wx σ m1 H1 (M.opt (revD (PZ.rd S1 d)) S1) (KV1 W Q) := p1
  rw [z] at p3
  exact p3 m1 _ (ext_new hl) (rs1.new hl) _ (.lst (rs1.out hl) upd_same (q'.reverse.ext (ext_new hl)))
end
end PZ
end
section
/-! DictC: dict comprehensions with keys that are ints or texts. -/
set_option linter.all false
set_option maxRecDepth 100000
set_option maxHeartbeats 4000000
set_option Elab.async false
namespace PZ
open PySem PySem.Spec PyProof.Rows L2
section
variable {W : Wl} {Wx : WX} {X : Cx} {G : Glo} {m m' : Gh} {H H' : Hp} {S : Sto} {σ : L2.St} {ρ : PZ.Env} {a b c e kx elt tgt iter : Expr} {ca cb cc ce ck : CE} {es ifs : List Expr} {ces : CEs} {pos p apos cpos : Pos} {α β : Type} {tg : Tg} {it : IT}
/-- pairs by their keys, both sides -/
abbrev KvR (W : Wl) (m : Gh) (H : Hp) : List (Key × V) → List (D × D) → Prop := Paired fun p q => KeyR p.1 q.1 ∧ Rep W m H p.2 q.2
theorem any_rel {k : Key} {kd : D} (hk : KeyR k kd) : ∀ {ks : List (Key × V)} {kvs : List (D × D)}, KvR W m H ks kvs → (ks.any fun kv => decide (kv.1 = k)) = kvs.any fun kv => decide (kv.1 = kd)
  | _, _, .nil => rfl
  | _, _, .cons r t => by
    simp only [List.any_cons]
    rw [any_rel hk t]
    congr 1
    exact decide_eq_decide.mpr (keyR_inj r.1 hk)
theorem map_rel {k : Key} {kd : D} {v : V} {d : D} (hk : KeyR k kd) (r : Rep W m H v d) : ∀ {ks : List (Key × V)} {kvs : List (D × D)}, KvR W m H ks kvs → KvR W m H (ks.map fun kv => if kv.1 = k then (kv.1, v) else kv) (kvs.map fun kv => if kv.1 = kd then (kv.1, d) else kv)
  | _, _, .nil => .nil
  | p :: _, q :: _, .cons z t => by
    refine .cons ?_ (map_rel hk r t)
    by_cases h : p.1 = k
    · dsimp only
      rw [if_pos h, if_pos ((keyR_inj z.1 hk).mp h)]; exact ⟨z.1, r⟩
    · dsimp only
      rw [if_neg h, if_neg fun y => h ((keyR_inj z.1 hk).mpr y)]; exact z
theorem app_rel {ks ls : List (Key × V)} {kvs lvs : List (D × D)} : KvR W m H ks kvs → KvR W m H ls lvs → KvR W m H (ks ++ ls) (kvs ++ lvs)
  | .nil, s => s
  | .cons r t, s => .cons r (app_rel t s)
theorem put_rel {k : Key} {kd : D} {v : V} {d : D} {ks : List (Key × V)} {kvs : List (D × D)} (hk : KeyR k kd) (r : Rep W m H v d) (q : KvR W m H ks kvs) : KvR W m H (putK ks k v) (kput kvs kd d) := by
  unfold putK kput
  rw [any_rel hk q]
  split
  · exact map_rel hk r q
  · exact app_rel q (.cons ⟨hk, r⟩ .nil)
theorem KvR.ext {ks : List (Key × V)} {kvs : List (D × D)} (q : KvR W m H ks kvs) (x : Ext m H m' H') : KvR W m' H' ks kvs := pimp (fun _ _ z => ⟨z.1, z.2.ext x⟩) q
theorem KvR.puth {ks : List (Key × V)} {kvs : List (D × D)} {p : Addr} {o : HO} (q : KvR W m H ks kvs) (hp : p ∈ m) : KvR W m (upd H p o) ks kvs := pimp (fun _ _ z => ⟨z.1, z.2.puth hp⟩) q
/-! ### a hidden object becomes one of the store -/
def Gh.adopt (m : Gh) (p : Addr) : Gh := ⟨m.l ++ [p], m.h.filter (· ≠ p)⟩
theorem Gh.mem_adopt {m : Gh} {p a : Addr} (hp : p ∈ m.h) (h : a ∈ m.adopt p) : a ∈ m := by
  rcases h with h | h
  · rcases List.mem_append.mp (show a ∈ m.l ++ [p] from h) with h | h
    · exact .inl h
    · rw [List.mem_singleton] at h; subst h; exact .inr hp
  · exact .inr (List.mem_filter.mp h).1
mutual
theorem Rep.grow (hl : ∀ (n : Nat) (a : Addr), m.l[n]? = some a → m'.l[n]? = some a) (hm : ∀ a, a ∈ m' → a ∈ m) : ∀ {v : V} {d : D}, Rep W m H v d → Rep W m' H v d
  | _, _, .non => .non
  | _, _, .bl b => .bl b
  | _, _, .int i => .int i
  | _, _, .str e h => .str e h
  | _, _, .tup h r => .tup (h.weak hm) (Reps.grow hl hm r)
  | _, _, .lst h e r => .lst (fun z => h (hm _ z)) e (Reps.grow hl hm r)
  | _, _, .kt h e r => .kt (fun z => h (hm _ z)) e (Reps.grow hl hm r)
  | _, _, .scr h => .scr (h.imp (fun z => ⟨fun y => z.1 (hm _ y), z.2⟩) id)
  | _, _, .ref h => .ref (hl _ _ h)
  | _, _, .fn => .fn
  | _, _, .exv h => .exv h
theorem Reps.grow (hl : ∀ (n : Nat) (a : Addr), m.l[n]? = some a → m'.l[n]? = some a) (hm : ∀ a, a ∈ m' → a ∈ m) : ∀ {vs : List V} {ds : List D}, Reps W m H vs ds → Reps W m' H vs ds
  | _, _, .nil => .nil
  | _, _, .cons r t => .cons (Rep.grow hl hm r) (Reps.grow hl hm t)
end
theorem adopt_get {m : Gh} {p : Addr} : ∀ (n : Nat) (a : Addr), m.l[n]? = some a → (m.adopt p).l[n]? = some a := fun n a h => by
  show (m.l ++ [p])[n]? = _
  rw [List.getElem?_append_left (List.getElem?_eq_some_iff.mp h).1]; exact h
theorem RepO.adopt {p a : Addr} {o : MO} (hp : p ∈ m.h) (r : RepO W m H a o) : RepO W (m.adopt p) H a o := by
  cases o with
  | lst l => obtain ⟨xs, h, q⟩ := r; exact ⟨xs, h, q.grow adopt_get fun _ z => Gh.mem_adopt hp z⟩
  | dic t lk kvs =>
    cases t with
    | false => obtain ⟨ks, h, q⟩ := r; exact ⟨ks, h, pimp (fun _ _ z => ⟨z.1, z.2.grow adopt_get fun _ z => Gh.mem_adopt hp z⟩) q⟩
    | true => obtain ⟨ks, h, q⟩ := r; exact ⟨ks, h, pimp (fun _ _ z => ⟨z.1, z.2.grow adopt_get fun _ z => Gh.mem_adopt hp z⟩) q⟩
  | ins c fs => obtain ⟨dx, fl, h, q⟩ := r; exact ⟨dx, fl, h, pimp (fun _ _ z => ⟨z.1, z.2.grow adopt_get fun _ z => Gh.mem_adopt hp z⟩) q⟩
theorem RepS.adopt (r : RepS W m H S) {p : Addr} {u : MO} (hp : p ∈ m.h) (q : RepO W m H p u) : RepS W (m.adopt p) H (S ++ [u]) := by
  refine ⟨by simp [Gh.adopt, r.len], ?_, fun a ha => ?_, fun n a v h1 h2 => ?_, r.tab⟩
  · show (m.l ++ [p]).Nodup
    rw [List.nodup_append]
    refine ⟨r.nd, by simp, fun x hx y hy => ?_⟩
    rw [List.mem_singleton] at hy
    rintro rfl
    exact (r.hid p hp).1 (hy ▸ hx)
  · obtain ⟨h1, h2⟩ := List.mem_filter.mp (show a ∈ m.h.filter (· ≠ p) from ha)
    obtain ⟨g1, g2⟩ := r.hid a h1
    refine ⟨fun z => ?_, g2⟩
    rcases List.mem_append.mp (show a ∈ m.l ++ [p] from z) with z | z
    · exact g1 z
    · rw [List.mem_singleton] at z; simp [z] at h2
  · replace h1 : (m.l ++ [p])[n]? = some a := h1
    by_cases hn : n < m.l.length
    · rw [List.getElem?_append_left hn] at h1
      rw [List.getElem?_append_left (by rw [← r.len]; exact hn)] at h2
      exact (r.obj n a v h1 h2).adopt hp
    · have e : n = m.l.length := by
        have := (List.getElem?_eq_some_iff.mp h1).1
        simp at this; omega
      subst e
      rw [List.getElem?_append_right (Nat.le_refl _), Nat.sub_self] at h1
      rw [r.len, List.getElem?_append_right (Nat.le_refl _), Nat.sub_self] at h2
      simp at h1 h2
      subst h1 h2
      exact q.adopt hp
theorem Ext.adoptAt {m0 : Gh} {H0 : Hp} (x : Ext m0 H0 m H) {p : Addr} (h0 : p ∉ m0) (hn : H0 p = none) : Ext m0 H0 (m.adopt p) H := by
  obtain ⟨k, e⟩ := x.pre
  refine ⟨⟨k ++ [p], by show m.l ++ [p] = _; rw [e, List.append_assoc]⟩, fun a ha => List.mem_filter.mpr ⟨x.hid a ha, by simpa using fun z : a = p => h0 (by rw [← z]; exact .inr ha)⟩, x.keepL, x.there, fun a ha => ?_, fun a ha => x.freshH a (List.mem_filter.mp ha).1⟩
  rcases List.mem_append.mp (show a ∈ m.l ++ [p] from ha) with z | z
  · exact x.freshL a z
  · rw [List.mem_singleton] at z; subst z; exact .inr (.none hn)
/-! ### the comprehension -/
def dcompF (G : Glo) (k e : CE) (tg : Tg) (cnd : CE) (ρ : PZ.Env) : D → M (Option (D × D)) := fun x s => match bindT tg x (wipeE ρ tg.slots) with
  | some ρ' => ((ev G cnd ρ').bl.bind fun b => match b with
    | true => (ev G k ρ').bind fun kx => (ev G e ρ').bind fun y => M.ret (some (kx, y))
    | false => M.ret none) s
  | none => .bad
theorem ev_dcomp : ev G (.dcomp false ck ce tg it cc) ρ = (evi G it ρ).bind fun w => M.nolk w ((dcompL false (dcompF G ck ce tg cc ρ) w w.its []).bind fun l => fun s => .ok (.ref s.length) (s ++ [.dic false false l])) := rfl
theorem dcompL_ok {t : Bool} {f : D → M (Option (D × D))} {w : Wk} {l : List D} {acc : List (D × D)} {K : Gh → Hp → List (D × D) → Sto → Prop} (p : PostA W Wx σ m H (dcompL t f w l acc S) K) : w.ok S = true := by
  cases l with
  | nil =>
    simp only [dcompL] at p
    split at p
    · assumption
    · exact p.elim
  | cons x xs =>
    simp only [dcompL] at p
    split at p
    · assumption
    · exact p.elim
theorem dcomp_core {own : List (Str × Nat)} (hv : own.map (·.2) = tg.slots) {Q : VK} (h : tM W Wx (ev G (.dcomp false ck ce tg it cc)) σ H Q) : tDc (tI W Wx (evi G it)) (tG W tg) (tT W Wx0 fun ρ => (ev G cc ρ).bl) (tM W Wx0 (ev G ck)) (tM W Wx0 (ev G ce)) (own.map (·.2)) σ H Q := by
  obtain ⟨m, ρ, S, re, rs, p⟩ := h
  rw [ev_dcomp] at p
  refine ⟨m, ρ, S, re, rs, ?_⟩
  replace p : PostA W Wx σ m H ((evi G it ρ S).bind fun w => M.nolk w ((dcompL false (dcompF G ck ce tg cc ρ) w w.its []).bind fun l => fun s => .ok (.ref s.length) (s ++ [.dic false false l]))) (KV1 W Q) := p
  cases hw : evi G it ρ S with
  | exc c s => rw [hw] at p; exact p
  | bad => rw [hw] at p; exact p
  | ok w S1 =>
    rw [hw] at p
    intro m1 H1 x1 rs1 J wk D hD
    have p1 := PostA.ext p x1
    clear p
    replace p1 : PostA W Wx σ m1 H1 (if w.lk = none then ((dcompL false (dcompF G ck ce tg cc ρ) w w.its [] S1).bind fun l => fun s => .ok (.ref s.length) (s ++ [.dic false false l])) else .bad) (KV1 W Q) := p1
    split at p1
    case isFalse => exact p1.elim
    have p2 : PostA W Wx σ m1 H1 (dcompL false (dcompF G ck ce tg cc ρ) w w.its [] S1) (fun m' H' l S' => ∀ m2, Ext m1 H1 m2 H' → RepS W m2 H' (S' ++ [.dic false false l]) → ∀ v, Rep W m2 H' v (.ref S'.length) → Q v H') := by
      cases hc : dcompL false (dcompF G ck ce tg cc ρ) w w.its [] S1 with
      | ok l s => rw [hc] at p1; exact fun m' H' _ _ m2 x2 rs2 v r => p1 m2 H' x2 rs2 v r
      | exc c s => rw [hc] at p1; exact fun m' H' x rs' => p1 m' H' x rs'
      | bad => rw [hc] at p1; exact p1
    clear p1
    obtain ⟨Gd, Y, wl, hG, hY⟩ := wk.ex
    have re1 := re.ext x1
    have hDm : D ∉ m1 := rs1.out hD
    rw [hv]
    let Fin : Gh → Hp → List (PZ.D × PZ.D) → Sto → Prop := fun m' H' l S' => ∀ m2, Ext m1 H1 m2 H' → RepS W m2 H' (S' ++ [.dic false false l]) → ∀ v, Rep W m2 H' v (.ref S'.length) → Q v H'
    let Pv : Nat → Hp → Prop := fun i H => ∃ m S ks acc, Ext m1 H1 m H ∧ RepS W m H S ∧ D ∈ m.h ∧ H D = some (.dK ks) ∧ KvR W m H ks acc ∧ PostA W Wx σ m1 H1 (dcompL false (dcompF G ck ce tg cc ρ) w (w.its.drop i) acc S) Fin
    refine ⟨fun i n H => n = w.its.length - i ∧ i ≤ w.its.length ∧ Pv i H, ⟨w.its.length, rfl, Nat.zero_le _, m1.hide D, S1, [], [], ext_hide hD, rs1.hide hD rfl, List.mem_cons_self .., upd_same, .nil, p2⟩, ?_⟩
    rintro i n H2 ⟨rfl, hi, m2, S2, ks, acc, x2, rs2, hm, hx, rx, p⟩
    have hok := dcompL_ok p
    have g := hG m2 H2 S2 x2.w rs2 hok
    have h1 : D ∉ m2.l := (rs2.hid D hm).1
    by_cases hlt : i < w.its.length
    · refine .inr ⟨wl.goes i H2 hlt g, Pv (i + 1), fun H' q => ⟨w.its.length - (i + 1), by omega, rfl, hlt, q⟩, fun x H3 yy => ?_⟩
      have y := wl.yields i H2 x H3 hlt g yy
      obtain ⟨d, hd, x3, rs3, r3⟩ := hY m2 H2 S2 i x H3 x2.w rs2 hok hlt y
      have edrop : w.its.drop i = d :: w.its.drop (i + 1) := by
        obtain ⟨h1, h2⟩ := List.getElem?_eq_some_iff.mp hd
        rw [List.drop_eq_getElem_cons h1, h2]
      rw [edrop] at p
      simp only [dcompL] at p
      rw [if_pos hok] at p
      obtain ⟨o, S4, hf, p4⟩ := calm_post p
      unfold dcompF at hf
      cases hb : bindT tg d (wipeE ρ tg.slots) with
      | none => rw [hb] at hf; cases hf
      | some ρ' =>
        rw [hb] at hf
        obtain ⟨k, S5, hk, hf⟩ := bl_post hf
        have hkeep : ∀ {m' : Gh} {H' : Hp}, Ext m2 H3 m' H' → H' D = some (.dK ks) ∧ D ∈ m'.h := by
          intro m' H' x
          exact ⟨x.keepL _ _ (x3.keepL _ _ hx h1 fun _ z => nomatch z) h1 (fun _ z => nomatch z), x.hid _ hm⟩
        refine ⟨m2, wipeE ρ tg.slots, d, ρ', RepE.wipe ((re1.ext x2).ext x3) _, r3, hb, fun σ2 re2 kp => ⟨?_, ?_⟩⟩
        · rw [kp _ fun i hi => hi, wipe_wipe]
        · refine ⟨m2, ρ', S2, re2, rs3, ?_⟩
          show PostA W Wx0 σ2 m2 H3 ((ev G cc ρ').bl S2) _
          rw [hk]
          intro m5 H5 x5 rs5
          cases k with
          | false =>
            cases hf
            show if false = true then _ else _
            rw [if_neg (by decide)]
            obtain ⟨g1, g2⟩ := hkeep x5
            exact ⟨m5, S4, ks, acc, (x2.trans x3).trans x5, rs5, g2, g1, (rx.ext x3).ext x5, p4⟩
          | true =>
            obtain ⟨kd, S6, hkv, hf⟩ := bind_post hf
            obtain ⟨yd, S7, hy, hf⟩ := bind_post hf
            cases hf
            show if true = true then _ else _
            rw [if_pos rfl]
            refine ⟨m5, ρ', S5, re2.ext x5, rs5, ?_⟩
            rw [hkv]
            intro m6 H6 x6 rs6 v6 r6
            refine ⟨m6, ρ', S6, (re2.ext x5).ext x6, rs6, ?_⟩
            rw [hy]
            intro m7 H7 x7 rs7 v7 r7
            obtain ⟨g1, g2⟩ := hkeep ((x5.trans x6).trans x7)
            have p5 : PostA W Wx σ m1 H1 ((if keyOk false kd = true ∧ acc.length < line then dcompL false (dcompF G ck ce tg cc ρ) w (w.its.drop (i + 1)) (kput acc kd yd) else M.bad) S4) Fin := p4
            have rx7 := (((rx.ext x3).ext x5).ext x6).ext x7
            split at p5
            · rename_i hl
              obtain ⟨key, rfl, hkey⟩ := keyR_rep r6 (show keyFlat kd = true from hl.1)
              have hlen : ks.length = acc.length := Paired.length rx
              refine ⟨ks, key, rfl, g1, by rw [hlen]; exact Nat.lt_of_lt_of_le hl.2 line_ok, m7, S4, putK ks key v7, kput acc kd yd, ?_, rs7.puth g2 rfl, g2, upd_same, ?_, p5⟩
              · exact ((((x2.trans x3).trans x5).trans x6).trans x7).putNew hD
              · exact (put_rel hkey r7 rx7).puth (.inr g2)
            · exact p5.elim
    · have e : i = w.its.length := by omega
      subst e
      refine .inl ⟨wl.stops H2 g, ?_⟩
      rw [List.drop_length] at p
      simp only [dcompL] at p
      rw [if_pos hok] at p
      refine p m2 H2 x2 rs2 (m2.adopt D) (x2.adoptAt hDm hD) (rs2.adopt hm ⟨ks, hx, rx⟩) _ (.ref ?_)
      show (m2.l ++ [D])[S2.length]? = _
      rw [← rs2.len, List.getElem?_append_right (Nat.le_refl _), Nat.sub_self]; rfl
theorem se_dcomp {scope : Scope} {own : List (Str × Nat)} (O : Okx W Wx X) (hi : SI W Wx X G tgt iter it) (ok : BlkOk X.N X.env.scope scope own) (hv : own.map (·.2) = tg.slots)
    (hg : ∀ (s : Shared) (H : Hp) (C : Addr) (cl : List (Str × Addr)) (fp : List Addr), SG W (X.blk s H scope (compEnvC scope cl C X.env) fp) tgt tg)
    (ht : ∀ (s : Shared) (H : Hp) (C : Addr) (cl : List (Str × Addr)) (fp : List Addr), STs W (X.blk s H scope (compEnvC scope cl C X.env) fp) G ifs cc)
    (hk : ∀ (s : Shared) (H : Hp) (C : Addr) (cl : List (Str × Addr)) (fp : List Addr), SE W Wx0 (X.blk s H scope (compEnvC scope cl C X.env) fp) G kx ck)
    (he : ∀ (s : Shared) (H : Hp) (C : Addr) (cl : List (Str × Addr)) (fp : List Addr), SE W Wx0 (X.blk s H scope (compEnvC scope cl C X.env) fp) G elt ce) (hs : ∀ x, foldedSetIterable iter X.env x = pure x := by intro _; rfl) :
    SE W Wx X G (.DictComp kx elt [⟨tgt, iter, ifs, 0⟩] scope pos) (.dcomp false ck ce tg it cc) :=
  PE.imp (pe_dc O.calm O.nd hi ok hg ht hk he hs) fun σ H Q h => dcomp_core hv h
end
end PZ
end
section
/-! DictO: {}, d.get(k, x), d[k] = v. -/
set_option linter.all false
set_option maxRecDepth 100000
set_option maxHeartbeats 4000000
set_option Elab.async false
namespace PZ
open PySem PySem.Spec PyProof.Rows L2
section
variable {W : Wl} {Wx : WX} {X : Cx} {G : Glo} {m m' : Gh} {H H' : Hp} {S : Sto} {σ : L2.St} {ρ : PZ.Env} {a b c e f o : Expr} {ca cb cc ce cf co : CE} {es ifs : List Expr} {ces : CEs} {pos p apos cpos : Pos}
theorem push_dic {Q : VK} {t : Bool} {q : Addr} {u : HO} (rs : RepS W m H S) (hq : H q = none) (hu : RepO W (m.push q) (upd H q u) q (.dic t false [])) (p : PostA W Wx σ m H (.ok (.ref S.length) (S ++ [.dic t false []]) : PZ.R D) (KV1 W Q)) : Q (.ref q) (upd H q u) := by
  refine p (m.push q) _ (ext_push hq) (rs.push hq hu) _ (.ref ?_)
  show (m.l ++ [q])[_]? = _
  rw [← rs.len, List.getElem?_append_right (Nat.le_refl _), Nat.sub_self]; rfl
theorem se_dnewK : SE W Wx X G (.Dict [] [] pos) (.dict false .nil .nil) := by
  refine PE.imp pe_dnewK fun σ H Q h => ?_
  obtain ⟨m, ρ, S, re, rs, p⟩ := h
  exact fun q hq => push_dic (t := false) rs hq ⟨[], upd_same, .nil⟩ p
theorem se_dnewT : SE W Wx X G (.Dict [] [] pos) (.dict true .nil .nil) := by
  refine PE.imp pe_dnewT fun σ H Q h => ?_
  obtain ⟨m, ρ, S, re, rs, p⟩ := h
  exact fun q hq => push_dic (t := true) rs hq ⟨[], upd_same, .nil⟩ p
theorem isD_of {t : Bool} {a : Addr} {kvs : List (D × D)} (r : RepO W m H a (.dic t false kvs)) : IsD H a := by
  cases t with
  | false => obtain ⟨ks, h, _⟩ := r; exact .inl ⟨ks, .inl h⟩
  | true => obtain ⟨ks, h, _⟩ := r; exact .inr ⟨ks, .inl h⟩
theorem ty_get2 {d : D} (h : ∃ s', meTy .get2 d S = .ok () s') : meTy .get2 d S = .ok () S ∧ ∃ n t kvs, d = .ref n ∧ S[n]? = some (.dic t false kvs) := by
  obtain ⟨s', h⟩ := h
  cases d <;> try (cases h; done)
  rename_i n
  simp only [meTy] at h ⊢
  cases z : S[n]? with
  | none => rw [z] at h; cases h
  | some o =>
    rw [z] at h
    cases o with
    | lst l => cases h
    | ins c fs => cases h
    | dic t lk kvs =>
      cases lk with
      | true => cases h
      | false => exact ⟨rfl, n, t, kvs, rfl, z⟩
theorem se_get2 (O : Okx W Wx X) (ho : SE W Wx X G o co) (he : SE W Wx X G e ce) (hf : SE W Wx X G f cf) (mm : M2 X o "get" apos e f cpos := by exact ⟨rfl, rfl, rfl, rfl⟩) : SE W Wx X G (.Call (.Attribute o "get" apos) [e, f] [] cpos) (.me .get2 co (.cons ce (.cons cf .nil))) := by
  refine PE.imp (pe_dget2 (Nat.lt_of_le_of_lt (Nat.add_le_add_left (by decide : 1 ≤ 65) _) O.hu) ho he hf mm) fun σ H Q h => ?_
  obtain ⟨m, ρ, S, re, rs, p⟩ := h
  refine tM_bind re rs p fun m1 H1 d S1 v x1 re1 rs1 r1 p1 => ?_
  have p1' : PostA W Wx σ m1 H1 ((meTy .get2 d S1).bind fun _ => (evs G (.cons ce (.cons cf .nil)) ρ).bind fun xs => meM .get2 d xs) (KV1 W Q) := p1
  cases z : meTy .get2 d S1 with
  | exc c s => exact absurd z (meTy_nox .get2 d c s)
  | bad => rw [z] at p1'; exact p1'.elim
  | ok u s' =>
    obtain ⟨e1, n, t, kvs, rfl, hn⟩ := ty_get2 ⟨s', z⟩
    rw [e1] at p1'
    have p2 : PostA W Wx σ m1 H1 (((evs G (.cons ce (.cons cf .nil)) ρ).bind fun xs => meM .get2 (.ref n) xs) S1) (KV1 W Q) := p1'
    rw [two_bind] at p2
    obtain ⟨a, rfl, ha⟩ := r1.refV
    obtain ⟨o1, ho1, q1⟩ := rs1.at ha
    rw [hn] at ho1; cases ho1
    refine ⟨a, rfl, isD_of q1, ?_⟩
    refine tM_bind re1 rs1 p2 fun m2 H2 kd S2 y x2 re2 rs2 r2 p3 => ?_
    refine tM_bind re2 rs2 p3 fun m3 H3 xd S3 zv x3 re3 rs3 r3 p4 => ?_
    have ha3 := (x2.trans x3).get ha
    obtain ⟨o3, ho3, q3⟩ := rs3.at ha3
    simp only [meM, ho3] at p4
    cases o3 with
    | lst l => exact p4.elim
    | ins c fs => exact p4.elim
    | dic t3 lk3 kvs3 =>
      simp only at p4
      split at p4
      · rename_i hk
        obtain ⟨ov, dg, hrel⟩ := dget_rep q3 (r2.ext x3) hk
        refine ⟨ov, dg, ?_⟩
        obtain ⟨_, g1, g2⟩ := hrel
        cases hg : kget kvs3 kd with
        | none =>
          rw [hg] at p4
          rw [g2 hg]
          exact p4 m3 H3 (Ext.refl _ _) rs3 _ r3
        | some wd =>
          rw [hg] at p4
          obtain ⟨v, rfl, rv⟩ := g1 wd hg
          exact p4 m3 H3 (Ext.refl _ _) rs3 _ rv
      · exact p4.elim
/-! ### d[k] = v -/
theorem putT_rel {k : List Key} {kd : D} {l : List D} {v : V} {d : D} {ks : List (List Key × V)} {kvs : List (D × D)} (e : kd = .kt l) (hk : KeyRs k l) (r : Rep W m H v d) (q : Paired (fun p q => (∃ l, q.1 = .kt l ∧ KeyRs p.1 l) ∧ Rep W m H p.2 q.2) ks kvs) : Paired (fun p q => (∃ l, q.1 = .kt l ∧ KeyRs p.1 l) ∧ Rep W m H p.2 q.2) (putK ks k v) (kput kvs kd d) := by
  have inj : ∀ {k1 : List Key} {d1 : D}, (∃ l, d1 = .kt l ∧ KeyRs k1 l) → (k1 = k ↔ d1 = kd) := by
    rintro k1 d1 ⟨l1, rfl, h1⟩
    rw [keyRs_inj h1 hk, e]; simp
  have anyr : ∀ {ks : List (List Key × V)} {kvs : List (D × D)}, Paired (fun p q => (∃ l, q.1 = .kt l ∧ KeyRs p.1 l) ∧ Rep W m H p.2 q.2) ks kvs → (ks.any fun kv => decide (kv.1 = k)) = kvs.any fun kv => decide (kv.1 = kd) := by
    intro ks kvs q
    induction q with
    | nil => rfl
    | cons z t ih =>
      simp only [List.any_cons]
      rw [ih]
      congr 1
      exact decide_eq_decide.mpr (inj z.1)
  have mapr : ∀ {ks : List (List Key × V)} {kvs : List (D × D)}, Paired (fun p q => (∃ l, q.1 = .kt l ∧ KeyRs p.1 l) ∧ Rep W m H p.2 q.2) ks kvs → Paired (fun p q => (∃ l, q.1 = .kt l ∧ KeyRs p.1 l) ∧ Rep W m H p.2 q.2) (ks.map fun kv => if kv.1 = k then (kv.1, v) else kv) (kvs.map fun kv => if kv.1 = kd then (kv.1, d) else kv) := by
    intro ks kvs q
    induction q with
    | nil => exact .nil
    | @cons a b _ _ z t ih =>
      refine .cons ?_ ih
      dsimp only
      by_cases h : a.1 = k
      · rw [if_pos h, if_pos ((inj z.1).mp h)]; exact ⟨z.1, r⟩
      · rw [if_neg h, if_neg fun y => h ((inj z.1).mpr y)]; exact z
  have appr : ∀ {ks ls : List (List Key × V)} {kvs lvs : List (D × D)}, Paired (fun p q => (∃ l, q.1 = .kt l ∧ KeyRs p.1 l) ∧ Rep W m H p.2 q.2) ks kvs → Paired (fun p q => (∃ l, q.1 = .kt l ∧ KeyRs p.1 l) ∧ Rep W m H p.2 q.2) ls lvs → Paired (fun p q => (∃ l, q.1 = .kt l ∧ KeyRs p.1 l) ∧ Rep W m H p.2 q.2) (ks ++ ls) (kvs ++ lvs) := by
    intro ks ls kvs lvs q q'
    induction q with
    | nil => exact q'
    | cons z t ih => exact .cons z ih
  unfold putK kput
  rw [anyr q]
  split
  · exact mapr q
  · exact appr q (.cons ⟨⟨l, e, hk⟩, r⟩ .nil)
def rSd (W : Wl) : TSet := fun x y v H Q => ∃ m dx dy d S, RepS W m H S ∧ Rep W m H x dx ∧ Rep W m H y dy ∧ Rep W m H v d ∧ (∃ n t kvs, dx = .ref n ∧ S[n]? = some (.dic t false kvs) ∧ keyOk t dy = true ∧ kvs.length < line ∧ ∀ m' H', Ext m H m' H' → RepS W m' H' (S.set n (.dic t false (kput kvs dy d))) → Q H')
theorem pst_dict (hu : X.A.units + 1 < cLine) : PSet X (rSd W) := by
  intro pns s σ H o i v ov iv u Q I ro ri rv h
  obtain ⟨m, dx, dy, d, S, rs, r1, r2, r3, n, t, kvs, rfl, hn, hk, hl, q⟩ := h
  obtain ⟨a, rfl, ha⟩ := r1.refV
  obtain ⟨o1, ho1, q1⟩ := rs.at ha
  rw [hn] at ho1; cases ho1
  have xe : ∀ {u : HO}, (∀ ps, u ≠ .tbl ps) → Ext m H m (upd H a u) := fun z => ext_put (Gh.mem ha) z
  cases t with
  | false =>
    obtain ⟨ks, hx, qx⟩ := q1
    obtain ⟨k, rfl, kr⟩ := keyR_rep r2 hk
    have hlen : ks.length = kvs.length := Paired.length qx
    have hx' : H a = some (.dK ks) := hx
    refine set_dict hu pns s σ H _ _ v ov iv u Q I ro ri rv ⟨a, _, rfl, DPut.k hx' (by rw [hlen]; exact Nat.lt_of_lt_of_le hl line_ok), q m _ (xe fun _ z => nomatch z) (rs.put ha ⟨_, upd_same, ?_⟩)⟩
    exact KvR.ext (put_rel kr r3 qx) (xe fun _ z => nomatch z)
  | true =>
    obtain ⟨ks, hx, qx⟩ := q1
    cases dy <;> try (cases hk; done)
    rename_i l
    cases r2 with
    | @kt b xs _ h1 h2 h3 =>
      obtain ⟨k, rfl, kr⟩ := keyRs_rep h3 hk
      have hlen : ks.length = kvs.length := Paired.length qx
      have hx' : H a = some (.dT ks) := hx
      have xt : ∀ kk, Ext m H m (upd H a (.dT kk)) := fun kk => xe fun _ z => nomatch z
      refine set_dict hu pns s σ H _ _ v ov iv u Q I ro ri rv ⟨a, _, rfl, DPut.t hx' h2 (by rw [hlen]; exact Nat.lt_of_lt_of_le hl line_ok), q m _ (xt _) (rs.put ha ⟨_, upd_same, ?_⟩)⟩
      exact pimp (fun _ _ z => ⟨z.1, z.2.ext (xt _)⟩) (putT_rel rfl kr r3 qx)
theorem ss_setd (O : Okx W Wx X) {tpos : Pos} (he : SE W Wx X G e ce) (ho : SE W Wx X G o co) (hi : SE W Wx X G a ca)
    (ha : ∀ v, assign (.Subscript o a tpos) X.env v = (holding [v] (eval o X.env) >>= fun ov => holding [v, ov] (eval a X.env) >>= fun iv => standAt tpos >>= fun _ => holding [v, ov, iv] (setItem ov iv v) >>= fun _ => release [v, ov, iv] []) := by intro _; rfl)
    (hs : swapsWithSole [.Subscript o a tpos] e pos.line X.env = pure false := by rfl) (hw : swappedStores [.Subscript o a tpos] e X.env = pure none := by rfl) (h1 : (assignEach [.Subscript o a tpos] X.env).map (·.2) = [assign (.Subscript o a tpos) X.env] := by rfl) :
    SS W Wx X G (.Assign [.Subscript o a tpos] e pos) (.setD co ca ce) := by
  refine PS.imp (ps_asg he (pg_sub ho hi (pst_dict (W := W) (Nat.lt_of_le_of_lt (Nat.add_le_add_left (by decide : 1 ≤ 65) _) O.hu)) ha) hs hw h1) fun D' σ H h => ?_
  obtain ⟨m, ρ, S, re, rs, p⟩ := h
  refine tM_chain re rs p fun m1 H1 d S1 v x1 re1 rs1 r1 p1 => ?_
  refine tM_chain re1 rs1 p1 fun m2 H2 d2 S2 v2 x2 re2 rs2 r2 p2 => ?_
  refine tM_chain re2 rs2 p2 fun m3 H3 d3 S3 v3 x3 re3 rs3 r3 p3 => ?_
  refine ⟨m3, d2, d3, d, S3, rs3, r2.ext x3, r3, (r1.ext x2).ext x3, ?_⟩
  cases d2 <;> try (exact (show False from p3).elim)
  rename_i n
  cases z : S3[n]? with
  | none => simp only [setDM, z] at p3; exact p3.elim
  | some u =>
    cases u with
    | lst l => simp only [setDM, z] at p3; exact p3.elim
    | ins c fs => simp only [setDM, z] at p3; exact p3.elim
    | dic t lk kvs =>
      cases lk with
      | true => simp only [setDM, z] at p3; exact p3.elim
      | false =>
        simp only [setDM, z] at p3
        split at p3
        · rename_i hk
          exact ⟨n, t, kvs, rfl, z, hk.1, hk.2, fun m' H' x rs' => p3 m' H' σ x rs' (re3.ext x)⟩
        · exact p3.elim
end
end PZ
end
section
/-! DictS: name = {.. for ..}. -/
set_option linter.all false
set_option maxRecDepth 100000
set_option maxHeartbeats 4000000
set_option Elab.async false
namespace PZ
open PySem PySem.Spec PyProof.Rows L2
section
variable {W : Wl} {Wx : WX} {X : Cx} {G : Glo} {m : Gh} {H : Hp} {S : Sto} {σ : L2.St} {ρ : PZ.Env} {kx elt tgt iter : Expr} {cc ce ck : CE} {ifs : List Expr} {pos : Pos} {tg : Tg} {it : IT}
theorem swapD {gs : List Comprehension} {sc : Scope} {ps py : Pos} {y : Str} {l : Nat} {en : PySem.Env} (hk : en.scope.kind = .function) (hy : en.scope.names.lookup y = some .local) (hl : (py.line == ps.line) = true)
    (hn : (sc.names.any fun (n, k) => n == y && (k == .local || k == .cell)) = false) : swapsWith (.DictComp kx elt gs sc ps) (some (.Name y py)) l en = pure true := by
  have k1 : en.kindOf y = some .local := hy
  have k2 : en.blockKind = .function := by
    unfold Env.blockKind
    rw [hk]; rfl
  unfold swapsWith
  simp only [k2, k1, hn, Expr.pos, hl]
  rfl
theorem ss_setDc {i : Nat} {y : Str} {py spos : Pos} {scope : Scope} {own : List (Str × Nat)} (O : Okx W Wx X) (hy : X.N[i]? = some y) (hyl : X.env.scope.names.lookup y = some .local) (hsw : swapsWith (.DictComp kx elt [⟨tgt, iter, ifs, 0⟩] scope pos) (some (.Name y py)) spos.line X.env = pure true)
    (hi : SI W Wx X G tgt iter it) (ok : BlkOk X.N X.env.scope scope own) (hv : own.map (·.2) = tg.slots)
    (hg : ∀ (s : Shared) (H : Hp) (C : Addr) (cl : List (Str × Addr)) (fp : List Addr), SG W (X.blk s H scope (compEnvC scope cl C X.env) fp) tgt tg)
    (ht : ∀ (s : Shared) (H : Hp) (C : Addr) (cl : List (Str × Addr)) (fp : List Addr), STs W (X.blk s H scope (compEnvC scope cl C X.env) fp) G ifs cc)
    (hk : ∀ (s : Shared) (H : Hp) (C : Addr) (cl : List (Str × Addr)) (fp : List Addr), SE W Wx0 (X.blk s H scope (compEnvC scope cl C X.env) fp) G kx ck)
    (he : ∀ (s : Shared) (H : Hp) (C : Addr) (cl : List (Str × Addr)) (fp : List Addr), SE W Wx0 (X.blk s H scope (compEnvC scope cl C X.env) fp) G elt ce) (hs : ∀ x, foldedSetIterable iter X.env x = pure x := by intro _; rfl) :
    SS W Wx X G (.Assign [.Name y py] (.DictComp kx elt [⟨tgt, iter, ifs, 0⟩] scope pos) spos) (.asg (.v i) (.dcomp false ck ce tg it cc)) := by
  refine ⟨fun pns s σ H D I h => ?_⟩
  obtain ⟨m, ρ, S, re, rs, p⟩ := h
  have t : tDc (tI W Wx (evi G it)) (tG W tg) (tT W Wx0 fun ρ => (ev G cc ρ).bl) (tM W Wx0 (ev G ck)) (tM W Wx0 (ev G ce)) (own.map (·.2)) σ H (fun x H1 => D.nx (σ.set i (some x)) H1) := by
    refine dcomp_core hv (tM_stm re rs p fun m1 H1 d S1 v x1 re1 rs1 r1 p1 => ?_)
    obtain ⟨m2, ρ2, d2, ρ2', re2, r2, hb, q⟩ := asg_post re1 rs1 r1 p1
    simp only [bindT] at hb
    split at hb
    · cases hb
      exact q _ (re2.set r2) (Keeps.set i _ σ)
    · cases hb
  rw [exec_Assign_Name_used _ _ _ _ hsw]
  refine wpAny_bind (wpAny_standAt (wpAny_bind ?_))
  show wpAny _ X.A (comprehension (.DictComp kx elt [⟨tgt, iter, ifs, 0⟩] scope pos) scope X.env (firstIterPos [⟨tgt, iter, ifs, 0⟩] pos) newDict false (eval iter X.env) (some (assign (.Name y py) X.env)) >>= fun _ => pure ()) _ _ s
  refine wpAny_bind (thn (dc_core (Qf := fun _ s' => SP X pns D .next s') O.calm O.nd I hi ok hg ht hk he hs t fun L C s' mm H' J q hn f => ?_) fun _ s' hq => wpAny_pure (wpAny_pure hq))
  show wpAny _ _ (assign (.Name y py) X.env (.ref L)) _ _ _
  obtain ⟨f0, f1, f2, f3, f4, f5⟩ := f
  refine wpAny_assign_Name (store_ok2 (v := V.ref L) J O.nd hy (.inl hyl) rfl (fun s2 J2 ⟨a, sb, ha⟩ => ?_) (.inr hyl))
  have ne : C ≠ a := by
    intro e
    rcases ha with z | z
    · exact f1 (e.trans z)
    · exact f4 y a z e.symm
  exact ⟨mm, hn.sameBut sb ne, fun h3 sb3 => ⟨_, H', J2.turned (t' := s2.toks) (fun b o hb e => (sb3.2 b hb).trans e) f0 f1 f3 f4 f5, q⟩⟩
/-- a slice that is to be written -/
theorem se_newHi {a b : Expr} {ca cb : CE} {p : Pos} (O : Okx W Wx X) (ha : SE W Wx X G a ca) (hb : SE W Wx X G b cb) : SE W Wx X G (.Subscript a (.Slice none (some b) none p) pos) (.new (.slHi ca cb)) := by
  refine PE.imp (pe_slice sl_list ha po_none (po_some hb)) fun σ H Q h => ?_
  obtain ⟨m, ρ, S, re, rs, p⟩ := h
  have e : ev G (.new (.slHi ca cb)) ρ S = ((ev G ca ρ).bind fun x => (ev G cb ρ).bind fun j => (M.opt (intD j)).bind fun j => fun s => (M.opt (sliceD (rd s x) none (some j)) s).bind fun x => match x with
      | .lst l => fun s => .ok (.ref s.length) (s ++ [.lst l])
      | _ => M.bad) S := by
    show ((ev G ca ρ S).bind fun x => (ev G cb ρ).bind fun j => (M.opt (intD j)).bind fun j => fun s => M.opt (sliceD (rd s x) none (some j)) s).bind _ = (ev G ca ρ S).bind _
    cases ev G ca ρ S with
    | exc c s => rfl
    | bad => rfl
    | ok x s =>
      show ((ev G cb ρ s).bind fun j => (M.opt (intD j)).bind fun j => fun s => M.opt (sliceD (rd s x) none (some j)) s).bind _ = (ev G cb ρ s).bind _
      cases ev G cb ρ s with
      | exc c s => rfl
      | bad => rfl
      | ok j s =>
        show ((M.opt (intD j) s).bind fun j => fun s => M.opt (sliceD (rd s x) none (some j)) s).bind _ = (M.opt (intD j) s).bind _
        cases intD j <;> rfl
  rw [e] at p
  refine tM2 re rs p fun m1 H1 d d' S1 v v' x re1 rs1 r r' p1 => ?_
  obtain ⟨i, ei, p2⟩ := opt_bind p1
  have vd := r.rd rs1
  refine ⟨i, intD_of r' ei, ?_⟩
  cases z : PZ.rd S1 d <;> simp only [z] at p2 vd
  case lst l =>
    obtain ⟨ad, xs, rfl, t, q⟩ := vd.lst
    refine ⟨ad, xs, rfl, .of t, fun pl hp => ?_⟩
    exact push_lst rs1 (cutL_rep q none (some i)) hp p2
  case str s =>
    exfalso
    simp only [sliceD] at p2
    split at p2 <;> exact p2
  case scr ns =>
    cases (show Rep W m1 H1 v (.scr ns) from vd) with
    | scr h1 =>
      rename_i ad
      refine ⟨ad, _, rfl, (by rw [O.hK]; exact h1.sq), fun pl hp => ?_⟩
      have q : Reps W m1 H1 (ns.map V.int) (ns.map D.int) := by
        clear z p2 h1 vd
        induction ns with
        | nil => exact .nil
        | cons n ns ih => exact .cons (.int n) ih
      have q2 := cutL_rep q none (some i)
      have e2 : cutL (ns.map D.int) none (some i) = (cutL ns none (some i)).map D.int := by
        unfold cutL
        rw [List.length_map, List.map_take, List.map_drop]
      rw [e2] at q2
      exact push_lst rs1 q2 hp p2
  all_goals exact (show False from p2).elim
end
end PZ
end
section
/-! SortD: sorted(a dict). -/
set_option linter.all false
set_option maxRecDepth 100000
set_option maxHeartbeats 4000000
set_option Elab.async false
namespace PZ
open PySem PySem.Spec PyProof.Rows L2
section
variable {W : Wl} {X : Cx} {m : Gh} {H : Hp} {S : Sto}
theorem key_far {h : Heap} {far : Addr} : ∀ {vs : List V} {us : List Value} {ds : List D}, Vals vs us → Reps W m H vs ds → (∀ d ∈ ds, keyFlat d = true) → PySem.W.EachIs (fun u b => ∃ as, Reads h u (D.toP b) as ∧ far ∉ as) us ds
  | _, _, _, .nil, .nil, _ => .nil
  | _, _, _, .cons (a := v) (b := u) r t, .cons (d := d) q z, f => by
    refine .cons ?_ (key_far t z fun d hd => f d (List.mem_cons_of_mem _ hd))
    have hd := f d (List.mem_cons_self ..)
    cases d <;> try (cases hd; done)
    · cases q
      obtain ⟨t, rfl⟩ := r
      exact ⟨[], .int _ _, by simp⟩
    · obtain ⟨x, rfl, e, a⟩ := q.val.str
      obtain ⟨t, rfl⟩ := r
      rw [T_eq e]
      exact ⟨[], .str _ _, by simp⟩
theorem kv_flat : ∀ {ks : List (Key × V)} {kvs : List (D × D)}, KvR W m H ks kvs → ∀ d ∈ kvs.map (·.1), keyFlat d = true
  | _, _, .nil, d, hd => nomatch hd
  | p :: _, q :: _, .cons r t, d, hd => by
    rcases List.mem_cons.mp hd with e | hd
    · rw [e]
      obtain ⟨hk, _⟩ := r
      show keyFlat q.1 = true
      revert hk
      cases p.1 <;> cases q.1 <;> intro hk <;> first | exact hk.elim | rfl
    · exact kv_flat t d hd
theorem cb_sortedDict (hK : X.K = W.K) (hu : X.A.units + 65 < cLine) (hc : X.calm = true) : CallR X (.builtin "sorted") (rB W (biM .sortedD)) := by
  intro pns s σ H vs us Q I rv h
  obtain ⟨m, ds, S, rs, r, p⟩ := h
  match ds, r, p with
  | [], _, p => exact p.elim
  | a :: b :: l, r, p => exact (show False from p).elim
  | [d], r, p =>
    cases d <;> try (exact (show False from p).elim)
    rename_i n
    obtain ⟨v, rfl, r1⟩ := Reps.one r
    obtain ⟨a, rfl, hn⟩ := r1.refV
    obtain ⟨u, rfl, ru⟩ := rv.one
    cases ru
    obtain ⟨o, ho, q⟩ := rs.at hn
    have e : biM .sortedD [.ref n] S = (match S[n]? with
      | some (.dic false false kvs) => M.opt (biD .sorted [.lst (kvs.map (·.1))]) S
      | _ => .bad) := by
      show biR .sortedD n S = _
      unfold biR
      cases S[n]? with
      | none => rfl
      | some o =>
        cases o with
        | lst l => rfl
        | ins c fs => rfl
        | dic t lk kvs => cases t <;> cases lk <;> rfl
    rw [e, ho] at p
    cases o with
    | lst l => exact p.elim
    | ins c fs => exact p.elim
    | dic t lk kvs =>
      cases t with
      | true => cases lk <;> exact p.elim
      | false =>
        cases lk with
        | true => exact p.elim
        | false =>
          obtain ⟨ks, hx, qx⟩ := q
          obtain ⟨d', e2, k⟩ := optEnd p
          simp only [biD] at e2
          split at e2
          case isFalse => cases e2
          rename_i hs
          cases e2
          obtain ⟨al, so, pu⟩ := sortable_ok hs
          have hx' : H a = some (.dK ks) := hx
          obtain ⟨z, lo, ws, rel, dd⟩ := dk_rd I.hok (.inl hx')
          obtain ⟨ep, hat⟩ := dd.dictAt
          have hlw : ks.length = ws.length := Paired.length rel
          have hlk : ks.length = kvs.length := Paired.length qx
          have hflat := kv_flat qx
          refine Calls.call_function_entry PyProof.Rows.kind_sorted PyProof.Rows.plain_sorted PyProof.Rows.entry_sorted (PyProof.Rows.args_sorted1 _) ?_
          unfold Builtin.«sorted»
          refine wpAny_bind (m := checkCount "sorted" 1 1 _) (wpAny_pure ?_)
          refine wpAny_bind (PySem.W.kdu_collect (A := X.A.in1) (PySem.W.kdl_dict (knd := mixKind X.prog X.w) (kvs := ws) (ep := ep) lo) (I.ok.hd hc) hat (by rw [← hlw]; exact z) fun h' tk acc hk hacc => ?_)
          have hal : acc.toList.length = ws.length := by rw [Array.length_toList]; exact hacc.1
          have vals : Vals (ks.map fun p => kV p.1) acc.toList := by
            have e3 : (ws.map fun p => kV p.1) = ks.map fun p => kV p.1 := by
              have := rel.keys
              have h1 : (ws.map fun p => kV p.1) = (ws.map (·.1)).map kV := by rw [List.map_map]; rfl
              have h2 : (ks.map fun p => kV p.1) = (ks.map (·.1)).map kV := by rw [List.map_map]; rfl
              rw [h1, h2, ← this]
            rw [← e3]
            exact keys_at hal fun j v ej => hacc.2 j v (by rw [← Array.getElem?_toList]; exact ej)
          have I1 : Inv X pns σ H { s with heap := h', toks := tk } := I.kept hk
          have hsz : acc.toList.length ≤ sizeLine := by rw [hal, ← hlw]; exact z
          refine wpAny_bind (wpAny_newList ?_ hsz)
          have hoL : (h'.push (seqObj "list" acc.toList.toArray 0)).get? h'.objs.size = some (seqObj "list" acc.toList.toArray 0) := Heap.get?_push_size _ rfl
          have reps : Reps W m H (ks.map fun p => kV p.1) (kvs.map (·.1)) := keys_reps qx
          have hfr : H h'.objs.size = none := I1.hok.fresh (Nat.le_refl _)
          refine wpAny_bind (wpAny_holding (PySem.W.list_sort_data (enc := D.toP) (bs := kvs.map (·.1)) (R := fun u d => ∃ v, RelV v u ∧ Rep W m H v d) (s := { s with heap := h'.push (seqObj "list" acc.toList.toArray 0), toks := tk }) hoL (each_of vals reps fun v u d h1 h2 => ⟨v, h1, h2⟩) (key_far vals reps hflat) al so (by rw [List.length_map, ← hlk]; exact z) (fun b hb => ?_) fun out hout eo => ?_))
          · have h1 := dep_toP b
            have h2 : b.dep = 0 := by
              have := hflat b hb
              cases b <;> try (cases this; done)
              · rfl
              · rfl
            show X.A.in1.units + 1 + _ < _
            have h3 : X.A.in1.units = X.A.units + 1 := rfl
            omega
          · obtain ⟨xs, hw1, hw2⟩ := of_each eo
            obtain ⟨c, hc'⟩ := PyProof.Rows.sortedHeap_at (vs := acc.toList) (out := out.toArray) hoL
            have hl2 : xs.length ≤ sizeLine := by rw [hw1.length, hout, List.length_map, ← hlk]; exact z
            refine wpAny_pure ⟨_, rfl, .ref h'.objs.size, upd H h'.objs.size (.lst xs), I1.laid (t' := tk) (fun b u e => ?_) (Nat.le_refl _) ⟨hl2, out, c, hw1, hc'⟩, rfl, finL rs k hfr hw2⟩
            have hb : b < h'.objs.size := Heap.lt_size e
            rw [PyProof.Rows.sortedHeap_old (Nat.ne_of_lt hb) (by rw [Heap.size_push]; exact Nat.lt_succ_of_lt hb)]
            exact Heap.get?_push_of_some _ e
end
end PZ
end
section
/-! EnumD: enumerate of a list, a tuple or a text. -/
set_option linter.all false
set_option maxRecDepth 100000
set_option maxHeartbeats 4000000
set_option Elab.async false
namespace PZ
open PySem PySem.Spec PyProof.Rows L2
open Sem (wp)
theorem meets_enum1 {v : Value} {o : Obj} {Hh : Heap → Prop} (B : Begins v o Hh) :
    Meets (Builtin.«enumerate.__new__» ⟨[.type "enumerate", v], []⟩) (fun _ R s => Hh s.heap ∧
      R (.ok (.ret (.ref (s.heap.push o).objs.size))) { s with heap := (s.heap.push o).push { cls := .type "enumerate", data := .fields #[.none, .bool false, .ref s.heap.objs.size, rawInt 0, .none, .none] } }) :=
  .of_wp fun prog w A R s h => by
    obtain ⟨hp, g, d, tk, os⟩ := s; obtain ⟨h1, h⟩ := h
    have hsub := sub_enumerate
    have q1 : ∀ {A' : Around} {E : Value → Shared → Prop} {Q : Value → Shared → Prop}, Q (.ref hp.objs.size) ⟨hp.push o, g, d, tk, os⟩ → wpAny (model prog w) A' (pyIter v) Q E ⟨hp, g, d, tk, os⟩ :=
      fun q => B.iter prog w _ _ ⟨hp, g, d, tk, os⟩ _ h1 q
    wp_walk using q1
    refine wpAny_stack_any fun st => wpAny_pure ?_
    split
    · rename_i c _ _ _ _ _
      cases (c == Value.type "enumerate")
      · wp_walk using q1
        exact ⟨_, rfl, h⟩
      · wp_walk using q1
        exact ⟨_, rfl, h⟩
    · wp_walk using q1
      exact ⟨_, rfl, h⟩
theorem enum1_begins {prog : Program} {w : World} {A : Around} {E : Value → Shared → Prop} {s : Shared} {v : Value} {o : Obj} {Hh : Heap → Prop} {Q : Value → Shared → Prop} (B : Begins v o Hh) (h1 : Hh s.heap)
    (h : ∀ h', IsEnum h' (s.heap.objs.size + 1) s.heap.objs.size 0 .none → h'.get? s.heap.objs.size = some o → h'.objs.size = s.heap.objs.size + 2 →
      (∀ b o, s.heap.get? b = some o → h'.get? b = some o) → Q (.ref (s.heap.objs.size + 1)) { s with heap := h' }) :
    wpAny (model prog w) A (call (.type "enumerate") [v]) Q E s := by
  refine callType_new F.called_enumerate (by decide) (F.typeCall_enumerate_1 _) (F.newCall_enumerate_1 _) (fun obj => F.args_object_init_2 obj _) F.entry_enumerate_new
    (meets_enum1 B) ⟨h1, ?_⟩
  have hz : (s.heap.push o).objs.size = s.heap.objs.size + 1 := Heap.size_push ..
  show _ ∧ _
  rw [hz]
  have he : IsEnum ((s.heap.push o).push { cls := .type "enumerate", data := .fields #[.none, .bool false, .ref s.heap.objs.size, rawInt 0, .none, .none] }) (s.heap.objs.size + 1) s.heap.objs.size 0 .none := by
    have := Heap.get?_push_size (s.heap.push o) (o := { cls := .type "enumerate", data := .fields #[.none, .bool false, .ref s.heap.objs.size, rawInt 0, .none, .none] }) rfl
    rw [hz] at this; exact this
  refine ⟨⟨_, he, rfl⟩, h _ he (Heap.get?_push_of_some _ (Heap.get?_push_size _ B.free)) (by rw [Heap.size_push, hz]) fun b o x => Heap.get?_push_of_some _ (Heap.get?_push_of_some _ x)⟩
section
variable {X : Cx} {pns : List (Addr × Obj)} {σ : L2.St} {H : Hp} {s : Shared}
def Itde (K : PySem.W.Frag) (s1 : Src) : It :=
  ⟨fun i H => s1.ok K H ∧ i < s1.len, fun i H v H' => ∃ T x, v = .ref T ∧ H T = none ∧ H' = upd H T (.tup [.int (i : Int), x]) ∧ s1.get i = some x, fun i H => s1.ok K H ∧ i = s1.len⟩
theorem turn_ed {P : Program} {w : World} {K : PySem.W.Frag} {elts : List Expr} {kk : Nat} {tpos : Pos} {z i1 : Addr} (s1 : Src) (D : z ≠ i1) :
    Turn P w K (.Tuple elts kk tpos) (Itde K s1) [z, i1] z (fun i h => (∃ old, IsEnum h z i1 (0 + (i : Int)) old) ∧ s1.it i1 i h) where
  mem := by simp
  obj := fun i h st c hc => by
    obtain ⟨⟨old, hz⟩, h1⟩ := st
    simp only [List.mem_cons, List.not_mem_nil, or_false] at hc
    rcases hc with q | q
    · rw [q]; exact ⟨_, hz, fun v q => nomatch q⟩
    · rw [q]; exact Src.it_obj h1
  keep := fun i h h' st k => by
    obtain ⟨⟨old, hz⟩, h1⟩ := st
    exact ⟨⟨old, k z (by simp) _ hz⟩, Src.it_at h1 fun o q => k i1 (by simp) o q⟩
  item := by
    intro X hP hw hK hc i pins s σ H E I hf st hg
    subst hP hw hK
    obtain ⟨hz, h1⟩ := st
    obtain ⟨ok1, hi⟩ := hg
    have fz := hf z (by simp)
    have f1 := hf i1 (by simp)
    obtain ⟨n1, P1, St1, D1, e1, g1, k1, p1⟩ := Src.draws X.A.in1 (I.ok.hd hc) I ok1 f1 h1
    have W := GoesN.enumFrom (elts := elts) (x1 := kk) (pos := tpos) 0 D1 z D (fp_sep I ok1 D fz) (fp_mem _ _)
    refine W.goes i s _ E (by rw [e1]; exact hi) ⟨hz, g1⟩ fun v h' tk hY st' hk htk => ?_
    obtain ⟨T, t, x, rfl, hT, hx, hIs⟩ := hY
    obtain ⟨vx, gx, rx⟩ := p1 i x hx
    have hn : H T = none := I.hok.fresh hT
    have ez : (0 : Int) + (i : Int) = (i : Int) := Int.zero_add _
    rw [ez] at hIs
    refine ⟨.ref T, upd H T (.tup [.int (i : Int), vx]), turn_new (ch := [z, i1]) I hk (fun b hb => hf b hb) hT (.cons ⟨t, rfl⟩ (.cons rx .nil)) (by show 2 ≤ sizeLine; decide) hIs, rfl, ⟨T, vx, rfl, hn, rfl, gx⟩, ⟨st'.1, k1 _ _ st'.2⟩, fun b hb => ?_⟩
    by_cases hbT : b = T
    · subst hbT
      exfalso
      have : b < s.heap.objs.size := by
        simp only [List.mem_cons, List.not_mem_nil, or_false] at hb
        rcases hb with q | q
        · rw [q]; obtain ⟨_, q⟩ := hz; exact Heap.lt_size q
        · rw [q]; obtain ⟨_, q, _⟩ := Src.it_obj h1; exact Heap.lt_size q
      exact absurd (Nat.lt_of_lt_of_le this hT) (Nat.lt_irrefl _)
    · rw [upd_ne hbT]; exact (hf b hb).1
  done := by
    intro X hP hw hK hc i pins s σ H E I hf st hg
    subst hP hw hK
    obtain ⟨hz, h1⟩ := st
    obtain ⟨ok1, hi⟩ := hg
    have fz := hf z (by simp)
    have f1 := hf i1 (by simp)
    obtain ⟨n1, P1, St1, D1, e1, g1, k1, p1⟩ := Src.draws X.A.in1 (I.ok.hd hc) I ok1 f1 h1
    have W := GoesN.enumFrom (elts := elts) (x1 := kk) (pos := tpos) 0 D1 z D (fp_sep I ok1 D fz) (fp_mem _ _)
    rw [← e1] at hi
    subst hi
    exact W.stops s _ E ⟨hz, g1⟩ fun h' tk hk htk => I.turnedL (t' := tk) (ch := [z, i1]) hk fun b hb => hf b hb
  self := fun A i s Q E st h => by
    obtain ⟨⟨_, he⟩, _⟩ := st
    exact wpAny_pyIter_enum he h
def iEd (K : PySem.W.Frag) (ta : TA) : TI := fun σ H R => ta σ H fun vs H1 => ∃ s1 : Src, vs = [s1.val] ∧ s1.ok K H1 ∧ R (Itde K s1) H1
theorem pi_ed {e : Expr} {ta : TA} {p pos tpos : Pos} {elts : List Expr} {kk : Nat} (hg : Gl X "enumerate") (hm : X.mg "enumerate" = none) (ha : PA X [e] ta)
    (hs : starEach [e] X.env = [(false, eval e X.env)] := by rfl) :
    PI X (.Tuple elts kk tpos) (.Call (.Name "enumerate" p) [e] [] pos) (iEd X.K ta) := by
  refine ⟨fun pins s σ H R I h => ?_⟩
  refine Call_ (ld_blt I hg hm boot_enumerate (PyProof.Rows.callWith_type1 (thn (ha.run pos pins s σ H _ I h) fun us sA ⟨vs, H1, I1, r1, q1⟩ => ?_) hs rfl))
  obtain ⟨s1, rfl, ok1, q⟩ := q1
  obtain ⟨u1, rfl, r⟩ := r1.one
  obtain ⟨o1, B1, b1, c1, d1⟩ := s1.begins I1 ok1 r
  refine enum1_begins b1 c1 fun h' he g1 hsz hk => wpAny_pyIter_enum he ?_
  have I2 : Inv X pins σ H1 { sA with heap := h' } := I1.kept (t' := sA.toks) hk
  refine ⟨sA.heap.objs.size + 1, [sA.heap.objs.size + 1, sA.heap.objs.size], _, _, H1, rfl, I2, turn_ed s1 (Nat.succ_ne_self _), ⟨⟨_, he⟩, d1 h' _ g1⟩, fun b hb => ?_, q⟩
  have hle : sA.heap.objs.size ≤ b := by
    simp only [List.mem_cons, List.not_mem_nil, or_false] at hb
    rcases hb with z | z
    · rw [z]; exact Nat.le_add_right _ _
    · rw [z]; exact Nat.le_refl _
  exact I1.fpOk hle (I1.hok.fresh hle)
end
section
variable {W : Wl} {Wx : WX} {X : Cx} {G : Glo} {m m' : Gh} {H H' : Hp} {S : Sto} {σ : L2.St} {ρ : PZ.Env} {a b c e tgt iter : Expr} {ca cb cc ce : CE} {es : List Expr} {ces : CEs} {pos p apos cpos : Pos}
theorem enumL_len : ∀ (l : List D) (n : Nat), (enumL l n).length = l.length
  | [], n => by simp [enumL]
  | x :: l, n => by simp only [enumL, List.length_cons, enumL_len l]
theorem enumL_get : ∀ {l : List D} {i n : Nat} {x : D}, l[i]? = some x → (enumL l n)[i]? = some (.tup [.int ((n + i : Nat) : Int), x])
  | [], _, _, _, h => by simp at h
  | p :: l, 0, n, x, h => by
    simp only [List.getElem?_cons_zero, Option.some.injEq] at h
    subst h; rfl
  | p :: l, i + 1, n, x, h => by
    simp only [List.getElem?_cons_succ] at h
    simp only [enumL, List.getElem?_cons_succ]
    rw [enumL_get h]
    have : n + 1 + i = n + (i + 1) := by omega
    rw [this]
theorem si_enum {elts : List Expr} {kk : Nat} {tpos : Pos} (O : Okx W Wx X) (hg : Gl X "enumerate") (hm : X.mg "enumerate" = none) (ha : SE W Wx X G a ca)
    (hs : starEach [a] X.env = [(false, eval a X.env)] := by rfl) :
    SI W Wx X G (.Tuple elts kk tpos) (.Call (.Name "enumerate" p) [a] [] pos) (.enum ca) := by
  refine PI.imp (pi_ed hg hm (sa_cons ha sa_nil hs) hs) fun σ H R h => ?_
  obtain ⟨m, ρ, S, re, rs, p⟩ := h
  have p' : PostA W Wx σ m H (((evs G (.cons ca .nil) ρ).bind fun xs => M.opt (match xs with
    | [x] => (seqOf x).map fun l => (⟨enumL l 0, [], none⟩ : Wk)
    | _ => none)) S) (KW W R) := by
    rw [one_bind]
    exact p
  refine tL_bind re rs p' fun m1 H1 ds S1 vs x1 re1 rs1 r1 p1 => ?_
  obtain ⟨w, hw, k⟩ := PostA.opt rs1 p1
  match ds, r1, hw with
  | [], r1, hw => cases hw
  | _ :: _ :: _, r1, hw => cases hw
  | [d], r1, hw =>
    obtain ⟨v, rfl, r⟩ := Reps.one r1
    simp only at hw
    cases z1 : seqOf d with
    | none => rw [z1] at hw; cases hw
    | some l =>
      rw [z1] at hw
      have hw' : (⟨enumL l 0, [], none⟩ : Wk) = w := Option.some.inj hw
      subst hw'
      obtain ⟨s1, rfl, len1, ok1, get1⟩ := src_of O.hK r z1
      refine ⟨s1, rfl, ok1 m1 H1 (Ext.refl _ _).w, k _ ⟨fun H' => s1.ok X.K H', _, ⟨?_, ?_, fun _ _ _ _ _ _ y => y⟩, ?_, ?_⟩⟩
      · intro i H' hi g
        refine ⟨g, ?_⟩
        rw [len1, ← enumL_len l 0]; exact hi
      · intro H' g
        refine ⟨g, ?_⟩
        rw [len1, ← enumL_len l 0]
      · intro m' H' S' x _ _
        exact ok1 m' H' x
      · intro m' H' S' i v H2 x rs' _ hi y
        obtain ⟨T, x1, rfl, hn, rfl, g1⟩ := y
        obtain ⟨e1, h1, q1⟩ := get1 m' H' i x1 x g1
        have hg := enumL_get (n := 0) h1
        rw [Nat.zero_add] at hg
        exact ⟨.tup [.int (i : Int), e1], hg, ext_new hn, rs'.new hn, .tup (.inl ⟨rs'.out hn, .inl upd_same⟩) (.cons (.int _) (.cons (q1.ext (ext_new hn)) .nil))⟩
end
end PZ
end
section
/-! Comp2: list comprehensions with two for. -/
set_option linter.all false
set_option maxRecDepth 100000
set_option maxHeartbeats 4000000
set_option Elab.async false
namespace PZ
open PySem PySem.Spec PyProof.Rows L2
section
variable {W : Wl} {Wx : WX} {X : Cx} {G : Glo} {m m' : Gh} {H H' : Hp} {S : Sto} {σ : L2.St} {ρ : PZ.Env} {a b c e elt tgt iter tgt2 iter2 : Expr} {ca cb cc cc2 ce : CE} {es ifs ifs2 : List Expr} {ces : CEs} {pos p apos cpos : Pos} {α β : Type} {cs : CSs} {tg tg2 : Tg} {it it2 : IT} {body : List Stmt}
def comp2In (G : Glo) (e : CE) (tg2 : Tg) (it2 : IT) (cnd2 : CE) (ρ' : PZ.Env) (acc : List D) : M (List D) := (evi G it2 ρ').bind fun w2 => M.nolk w2 (compL (compF G e tg2 cnd2 ρ') w2 w2.its acc)
def comp2F (G : Glo) (e : CE) (tg : Tg) (cnd : CE) (tg2 : Tg) (it2 : IT) (cnd2 : CE) (ρ : PZ.Env) : List D → D → M (List D) := fun acc x s => match bindT tg x (wipeE (wipeE ρ tg2.slots) tg.slots) with
  | some ρ' => ((ev G cnd ρ').bl.bind fun k => match k with
    | true => comp2In G e tg2 it2 cnd2 ρ' acc
    | false => M.ret acc) s
  | none => .bad
theorem ev_comp2 : ev G (.comp2 ce tg it cc tg2 it2 cc2) ρ = (evi G it ρ).bind fun w => M.nolk w ((compLL (comp2F G ce tg cc tg2 it2 cc2 ρ) w w.its []).bind fun l => M.ret (.lst l)) := rfl
theorem compLL_ok {f : List D → D → M (List D)} {w : Wk} {l acc : List D} {K : Gh → Hp → List D → Sto → Prop} (p : PostA W Wx σ m H (compLL f w l acc S) K) : w.ok S = true := by
  cases l with
  | nil =>
    simp only [compLL] at p
    split at p
    · assumption
    · exact p.elim
  | cons x xs =>
    simp only [compLL] at p
    split at p
    · assumption
    · exact p.elim
theorem wipe_app (σ : L2.St) : ∀ (a b : List Nat), L2.wipe σ (a ++ b) = L2.wipe (L2.wipe σ b) a
  | [], b => rfl
  | x :: a, b => by
    show (L2.wipe σ (a ++ b)).set x none = (L2.wipe (L2.wipe σ b) a).set x none
    rw [wipe_app σ a b]
/-- what a list comprehension's loop gave, taken apart -/
theorem compL_ok' {f : D → M (Option D)} {w : Wk} {l acc r : List D} {S' : Sto} (h : compL f w l acc S = .ok r S') : w.ok S = true := by
  cases l with
  | nil =>
    simp only [compL] at h
    split at h
    · assumption
    · cases h
  | cons x xs =>
    simp only [compL] at h
    split at h
    · assumption
    · cases h
theorem calm_ok {r : PZ.R α} {g : α → M β} {b : β} {s : Sto} (p : r.calm.bind g = .ok b s) : ∃ a s1, r = .ok a s1 ∧ g a s1 = .ok b s := by
  cases r with
  | ok a s1 => exact ⟨a, s1, rfl, p⟩
  | exc c s => cases p
  | bad => cases p
/-- what stood there stands there -/
def Thr (H H' : Hp) : Prop := ∀ a o, H a = some o → (∀ ps, o ≠ .tbl ps) → ∃ o', H' a = some o' ∧ ∀ ps, o' ≠ .tbl ps
/-- Ext, but for the hidden list at D -/
theorem Exw.putH {m0 : Gh} {H0 : Hp} (x : Exw m0 H0 m H) {p : Addr} {o : HO} (h : p ∈ m0) : Exw m0 H0 m (upd H p o) :=
  ⟨x.pre, fun a u e ha n => by rw [upd_ne (ne_mem ha h)]; exact x.keep a u e ha n, x.fresh⟩
theorem Exw.trans {m1 m2 : Gh} {H1 H2 : Hp} (x : Exw m H m1 H1) (y : Ext m1 H1 m2 H2) (ht : Thr H H1) : Exw m H m2 H2 := by
  refine ⟨?_, fun a o e h n => y.keep a o (x.keep a o e h n) (x.out e h n) n, fun a h => ?_⟩
  · obtain ⟨k, ek⟩ := x.pre
    obtain ⟨l, el⟩ := y.pre
    exact ⟨k ++ l, by rw [el, ek, List.append_assoc]⟩
  · rcases y.fresh a h with h | h
    · exact x.fresh a h
    · refine .inr fun o e => ?_
      rcases Classical.em (∃ ps, o = .tbl ps) with z | z
      · exact z
      · obtain ⟨o', e', n'⟩ := ht a o e fun ps q => z ⟨ps, q⟩
        exact (h.not e' n').elim
theorem RepE.puth {p : Addr} {o : HO} (r : RepE W m H σ ρ) (hp : p ∈ m) : RepE W m (upd H p o) σ ρ :=
  ⟨r.len, fun i d e => let ⟨v, h, q⟩ := r.get i d e; ⟨v, h, q.puth hp⟩⟩
theorem comp2_core {own : List (Str × Nat)} (hv : own.map (·.2) = tg.slots ++ tg2.slots) {Q : VK} (h : tM W Wx (ev G (.comp2 ce tg it cc tg2 it2 cc2)) σ H Q) :
    tLc2 (tI W Wx (evi G it)) (tG W tg) (tT W Wx0 fun ρ => (ev G cc ρ).bl) (tI W Wx0 (evi G it2)) (tG W tg2) (tT W Wx0 fun ρ => (ev G cc2 ρ).bl) (tM W Wx0 (ev G ce)) (own.map (·.2)) tg2.slots σ H Q := by
  obtain ⟨m, ρ, S, re, rs, p⟩ := h
  rw [ev_comp2] at p
  refine ⟨m, ρ, S, re, rs, ?_⟩
  replace p : PostA W Wx σ m H ((evi G it ρ S).bind fun w => M.nolk w ((compLL (comp2F G ce tg cc tg2 it2 cc2 ρ) w w.its []).bind fun l => M.ret (.lst l))) (KV1 W Q) := p
  cases hw : evi G it ρ S with
  | exc c s => rw [hw] at p; exact p
  | bad => rw [hw] at p; exact p
  | ok w S1 =>
    rw [hw] at p
    intro m1 H1 x1 rs1 J wk D hD
    have p1 := PostA.ext p x1
    clear p
    replace p1 : PostA W Wx σ m1 H1 (if w.lk = none then ((compLL (comp2F G ce tg cc tg2 it2 cc2 ρ) w w.its [] S1).bind fun l => M.ret (.lst l)) else .bad) (KV1 W Q) := p1
    split at p1
    case isFalse => exact p1.elim
    have p2 : PostA W Wx σ m1 H1 (compLL (comp2F G ce tg cc tg2 it2 cc2 ρ) w w.its [] S1) (fun m' H' l S' => ∀ v, Rep W m' H' v (.lst l) → Q v H') := by
      cases hc : compLL (comp2F G ce tg cc tg2 it2 cc2 ρ) w w.its [] S1 with
      | ok l s => rw [hc] at p1; exact p1
      | exc c s => rw [hc] at p1; exact p1
      | bad => rw [hc] at p1; exact p1
    clear p1
    obtain ⟨Gd, Y, wl, hG, hY⟩ := wk.ex
    have re1 := re.ext x1
    have hDm : D ∉ m1 := rs1.out hD
    let Fin : Gh → Hp → List PZ.D → Sto → Prop := fun m' H' l S' => ∀ v, Rep W m' H' v (.lst l) → Q v H'
    let Pv : Nat → Hp → Prop := fun i H => ∃ m S xs acc, Ext m1 H1 m H ∧ RepS W m H S ∧ D ∈ m.h ∧ H D = some (.lst xs) ∧ Reps W m H xs acc ∧ PostA W Wx σ m1 H1 (compLL (comp2F G ce tg cc tg2 it2 cc2 ρ) w (w.its.drop i) acc S) Fin
    rw [hv]
    refine ⟨fun i n H => n = w.its.length - i ∧ i ≤ w.its.length ∧ Pv i H, ⟨w.its.length, rfl, Nat.zero_le _, m1.hide D, S1, [], [], ext_hide hD, rs1.hide hD rfl, List.mem_cons_self .., upd_same, .nil, p2⟩, ?_⟩
    rintro i n H2 ⟨rfl, hi, m2, S2, xs, acc, x2, rs2, hm, hx, rx, p⟩
    have hok := compLL_ok p
    have g := hG m2 H2 S2 x2.w rs2 hok
    have h1 : D ∉ m2.l := (rs2.hid D hm).1
    by_cases hlt : i < w.its.length
    · refine .inr ⟨wl.goes i H2 hlt g, Pv (i + 1), fun H' q => ⟨w.its.length - (i + 1), by omega, rfl, hlt, q⟩, fun x H3 yy => ?_⟩
      have y := wl.yields i H2 x H3 hlt g yy
      obtain ⟨d, hd, x3, rs3, r3⟩ := hY m2 H2 S2 i x H3 x2.w rs2 hok hlt y
      have edrop : w.its.drop i = d :: w.its.drop (i + 1) := by
        obtain ⟨h1, h2⟩ := List.getElem?_eq_some_iff.mp hd
        rw [List.drop_eq_getElem_cons h1, h2]
      rw [edrop] at p
      simp only [compLL] at p
      rw [if_pos hok] at p
      obtain ⟨acc', S4, hf, p4⟩ := calm_post p
      unfold comp2F at hf
      cases hb : bindT tg d (wipeE (wipeE ρ tg2.slots) tg.slots) with
      | none => rw [hb] at hf; cases hf
      | some ρ' =>
        rw [hb] at hf
        obtain ⟨k, S5, hk, hf⟩ := bl_post hf
        have hkeep : ∀ {m' : Gh} {H' : Hp}, Ext m2 H3 m' H' → H' D = some (.lst xs) ∧ D ∈ m'.h := by
          intro m' H' x
          exact ⟨x.keepL _ _ (x3.keepL _ _ hx h1 fun _ z => nomatch z) h1 (fun _ z => nomatch z), x.hid _ hm⟩
        refine ⟨m2, wipeE (wipeE ρ tg2.slots) tg.slots, d, ρ', ?_, r3, hb, fun σ2 re2 kp => ⟨?_, ?_⟩⟩
        · rw [wipe_app]
          exact RepE.wipe (RepE.wipe ((re1.ext x2).ext x3) _) _
        · rw [kp _ fun i hi => List.mem_append_left _ hi, wipe_wipe]
        · refine ⟨m2, ρ', S2, re2, rs3, ?_⟩
          show PostA W Wx0 σ2 m2 H3 ((ev G cc ρ').bl S2) _
          rw [hk]
          intro m5 H5 x5 rs5
          cases k with
          | false =>
            cases hf
            show if false = true then _ else _
            rw [if_neg (by decide)]
            obtain ⟨g1, g2⟩ := hkeep x5
            exact ⟨m5, S4, xs, acc, (x2.trans x3).trans x5, rs5, g2, g1, (rx.ext x3).ext x5, p4⟩
          | true =>
            show if true = true then _ else _
            rw [if_pos rfl]
            obtain ⟨w2, S6, hw2, hf⟩ := bind_post hf
            refine ⟨m5, ρ', S5, re2.ext x5, rs5, ?_⟩
            rw [hw2]
            intro m6 H6 x6 rs6 J1 wk1
            replace hf : (if w2.lk = none then compL (compF G ce tg2 cc2 ρ') w2 w2.its acc S6 else .bad) = .ok acc' S4 := hf
            split at hf
            case isFalse => cases hf
            obtain ⟨Gd1, Y1, wl1, hG1, hY1⟩ := wk1.ex
            obtain ⟨gx6, gm6⟩ := hkeep (x5.trans x6)
            have x06 : Ext m1 H1 m6 H6 := ((x2.trans x3).trans x5).trans x6
            let Pv1 : Nat → Hp → Prop := fun j H => ∃ m S xs acc, Ext m1 H1 m H ∧ Exw m6 H6 m H ∧ Thr H6 H ∧ RepE W m H σ2 ρ' ∧ RepS W m H S ∧ D ∈ m.h ∧ H D = some (.lst xs) ∧ Reps W m H xs acc ∧ compL (compF G ce tg2 cc2 ρ') w2 (w2.its.drop j) acc S = .ok acc' S4
            refine ⟨fun j n H => n = w2.its.length - j ∧ j ≤ w2.its.length ∧ Pv1 j H, ⟨w2.its.length, rfl, Nat.zero_le _, m6, S6, xs, acc, x06, (Ext.refl _ _).w, fun a o e n => ⟨o, e, n⟩, (re2.ext x5).ext x6, rs6, gm6, gx6, ((rx.ext x3).ext x5).ext x6, hf⟩, ?_⟩
            rintro j n H7 ⟨rfl, hj, m7, S7, ys, acc7, x7, xw7, th7, re7, rs7, hm7, hx7, rx7, c7⟩
            have hok1 := compL_ok' c7
            have g1 := hG1 m7 H7 S7 xw7 rs7 hok1
            have h17 : D ∉ m7.l := (rs7.hid D hm7).1
            by_cases hlt1 : j < w2.its.length
            · refine .inr ⟨wl1.goes j H7 hlt1 g1, Pv1 (j + 1), fun H' q => ⟨w2.its.length - (j + 1), by omega, rfl, hlt1, q⟩, fun x' H8 yy1 => ?_⟩
              have y1 := wl1.yields j H7 x' H8 hlt1 g1 yy1
              obtain ⟨d1, hd1, x8, rs8, r8⟩ := hY1 m7 H7 S7 j x' H8 xw7 rs7 hok1 hlt1 y1
              have edrop1 : w2.its.drop j = d1 :: w2.its.drop (j + 1) := by
                obtain ⟨h1, h2⟩ := List.getElem?_eq_some_iff.mp hd1
                rw [List.drop_eq_getElem_cons h1, h2]
              rw [edrop1] at c7
              simp only [compL] at c7
              rw [if_pos hok1] at c7
              obtain ⟨o, S9, hf1, c8⟩ := calm_ok c7
              unfold compF at hf1
              cases hb1 : bindT tg2 d1 (wipeE ρ' tg2.slots) with
              | none => rw [hb1] at hf1; cases hf1
              | some ρ2 =>
                rw [hb1] at hf1
                obtain ⟨k1, S10, hk1, hf1⟩ := bl_post hf1
                have hkeep1 : ∀ {m' : Gh} {H' : Hp}, Ext m7 H8 m' H' → H' D = some (.lst ys) ∧ D ∈ m'.h := by
                  intro m' H' x
                  exact ⟨x.keepL _ _ (x8.keepL _ _ hx7 h17 fun _ z => nomatch z) h17 (fun _ z => nomatch z), x.hid _ hm7⟩
                refine ⟨m7, wipeE ρ' tg2.slots, d1, ρ2, RepE.wipe (re7.ext x8) _, r8, hb1, fun σ3 re3 kp1 => ⟨?_, ?_⟩⟩
                · rw [kp1 _ fun i hi => hi, wipe_wipe]
                · refine ⟨m7, ρ2, S7, re3, rs8, ?_⟩
                  show PostA W Wx0 σ3 m7 H8 ((ev G cc2 ρ2).bl S7) _
                  rw [hk1]
                  intro m11 H11 x11 rs11
                  have thx : ∀ {m' : Gh} {H' : Hp}, Ext m7 H8 m' H' → Thr H6 H' := fun x a o e n => by
                    obtain ⟨o1, e1, n1⟩ := th7 a o e n
                    exact (x8.trans x).there a o1 e1 n1
                  cases k1 with
                  | false =>
                    cases hf1
                    show if false = true then _ else _
                    rw [if_neg (by decide)]
                    obtain ⟨q1, q2⟩ := hkeep1 x11
                    exact ⟨m11, _, ys, acc7, (x7.trans x8).trans x11, (xw7.trans x8 th7).trans x11 (thx (Ext.refl _ _)), thx x11, (re7.ext x8).ext x11, rs11, q2, q1, (rx7.ext x8).ext x11, c8⟩
                  | true =>
                    obtain ⟨yd, S12, hy, hf1⟩ := bind_post hf1
                    cases hf1
                    show if true = true then _ else _
                    rw [if_pos rfl]
                    refine ⟨m11, ρ2, S10, re3.ext x11, rs11, ?_⟩
                    rw [hy]
                    intro m12 H12 x12 rs12 v r12
                    obtain ⟨q1, q2⟩ := hkeep1 (x11.trans x12)
                    replace c8 : (if acc7.length < line then compL (compF G ce tg2 cc2 ρ') w2 (w2.its.drop (j + 1)) (acc7 ++ [yd]) else M.bad) S9 = .ok acc' S4 := c8
                    have rx12 := ((rx7.ext x8).ext x11).ext x12
                    split at c8
                    · rename_i hl
                      refine ⟨ys, q1, by rw [rx12.length]; exact Nat.lt_of_lt_of_le hl line_ok, m12, S9, ys ++ [v], acc7 ++ [yd], ?_, ?_, ?_, ?_, rs12.puth q2 rfl, q2, upd_same, ?_, c8⟩
                      · exact (((x7.trans x8).trans x11).trans x12).putNew hD
                      · exact (((xw7.trans x8 th7).trans x11 (thx (Ext.refl _ _))).trans x12 (thx x11)).putH (.inr gm6)
                      · intro a o e n
                        by_cases z : a = D
                        · subst z; exact ⟨_, upd_same, fun _ q => nomatch q⟩
                        · rw [upd_ne z]; exact thx (x11.trans x12) a o e n
                      · exact RepE.puth (((re7.ext x8).ext x11).ext x12) (.inr q2)
                      · exact (rx12.append (.cons r12 .nil)).puth (.inr q2)
                    · cases c8
            · have e : j = w2.its.length := by omega
              subst e
              refine .inl ⟨wl1.stops H7 g1, ?_⟩
              rw [List.drop_length] at c7
              simp only [compL] at c7
              rw [if_pos hok1] at c7
              cases c7
              exact ⟨m7, _, ys, _, x7, rs7, hm7, hx7, rx7, p4⟩
    · have e : i = w.its.length := by omega
      subst e
      refine .inl ⟨wl.stops H2 g, ?_⟩
      rw [List.drop_length] at p
      simp only [compLL] at p
      rw [if_pos hok] at p
      exact p (m2.show_ D) H2 (x2.showAt hDm) (rs2.show_ D) _ (.lst (Gh.not_show m2 D h1) hx (Reps.weak (m := m2) (m' := m2.show_ D) rfl (fun _ z => Gh.mem_show (p := D) z) rx))
theorem se_comp2 {scope : Scope} {own : List (Str × Nat)} (O : Okx W Wx X) (hi : SI W Wx X G tgt iter it) (ok : BlkOk X.N X.env.scope scope own) (hv : own.map (·.2) = tg.slots ++ tg2.slots)
    (hg : ∀ (s : Shared) (H : Hp) (C : Addr) (cl : List (Str × Addr)) (fp : List Addr), SG W (X.blk s H scope (compEnvC scope cl C X.env) fp) tgt tg)
    (ht : ∀ (s : Shared) (H : Hp) (C : Addr) (cl : List (Str × Addr)) (fp : List Addr), STs W (X.blk s H scope (compEnvC scope cl C X.env) fp) G ifs cc)
    (hi2 : ∀ (s : Shared) (H : Hp) (C : Addr) (cl : List (Str × Addr)) (fp : List Addr), SI W Wx0 (X.blk s H scope (compEnvC scope cl C X.env) fp) G tgt2 iter2 it2)
    (hg2 : ∀ (s : Shared) (H : Hp) (C : Addr) (cl : List (Str × Addr)) (fp : List Addr), SG W (X.blk s H scope (compEnvC scope cl C X.env) fp) tgt2 tg2)
    (ht2 : ∀ (s : Shared) (H : Hp) (C : Addr) (cl : List (Str × Addr)) (fp : List Addr), STs W (X.blk s H scope (compEnvC scope cl C X.env) fp) G ifs2 cc2)
    (he : ∀ (s : Shared) (H : Hp) (C : Addr) (cl : List (Str × Addr)) (fp : List Addr), SE W Wx0 (X.blk s H scope (compEnvC scope cl C X.env) fp) G elt ce) (hs : ∀ x, foldedSetIterable iter X.env x = pure x := by intro _; rfl) (hs1 : ∀ env x, foldedSetIterable iter2 env x = pure x := by intro _ _; rfl) :
    SE W Wx X G (.ListComp elt [⟨tgt, iter, ifs, 0⟩, ⟨tgt2, iter2, ifs2, 0⟩] scope pos) (.comp2 ce tg it cc tg2 it2 cc2) :=
  PE.imp (pe_lc2 O.calm O.nd hi ok (fun i hi => by rw [hv]; exact List.mem_append_right _ hi) hg ht hi2 hg2 ht2 he hs hs1) fun σ H Q h => comp2_core hv h
/-- name = [.. for .. for ..] -/
theorem ss_setLc2 {i : Nat} {y : Str} {py spos : Pos} {scope : Scope} {own : List (Str × Nat)} (O : Okx W Wx X) (hy : X.N[i]? = some y) (hyl : X.env.scope.names.lookup y = some .local) (hsw : swapsWith (.ListComp elt [⟨tgt, iter, ifs, 0⟩, ⟨tgt2, iter2, ifs2, 0⟩] scope pos) (some (.Name y py)) spos.line X.env = pure true) (hi : SI W Wx X G tgt iter it) (ok : BlkOk X.N X.env.scope scope own) (hv : own.map (·.2) = tg.slots ++ tg2.slots)
    (hg : ∀ (s : Shared) (H : Hp) (C : Addr) (cl : List (Str × Addr)) (fp : List Addr), SG W (X.blk s H scope (compEnvC scope cl C X.env) fp) tgt tg)
    (ht : ∀ (s : Shared) (H : Hp) (C : Addr) (cl : List (Str × Addr)) (fp : List Addr), STs W (X.blk s H scope (compEnvC scope cl C X.env) fp) G ifs cc)
    (hi2 : ∀ (s : Shared) (H : Hp) (C : Addr) (cl : List (Str × Addr)) (fp : List Addr), SI W Wx0 (X.blk s H scope (compEnvC scope cl C X.env) fp) G tgt2 iter2 it2)
    (hg2 : ∀ (s : Shared) (H : Hp) (C : Addr) (cl : List (Str × Addr)) (fp : List Addr), SG W (X.blk s H scope (compEnvC scope cl C X.env) fp) tgt2 tg2)
    (ht2 : ∀ (s : Shared) (H : Hp) (C : Addr) (cl : List (Str × Addr)) (fp : List Addr), STs W (X.blk s H scope (compEnvC scope cl C X.env) fp) G ifs2 cc2)
    (he : ∀ (s : Shared) (H : Hp) (C : Addr) (cl : List (Str × Addr)) (fp : List Addr), SE W Wx0 (X.blk s H scope (compEnvC scope cl C X.env) fp) G elt ce) (hs : ∀ x, foldedSetIterable iter X.env x = pure x := by intro _; rfl) (hs1 : ∀ env x, foldedSetIterable iter2 env x = pure x := by intro _ _; rfl) :
    SS W Wx X G (.Assign [.Name y py] (.ListComp elt [⟨tgt, iter, ifs, 0⟩, ⟨tgt2, iter2, ifs2, 0⟩] scope pos) spos) (.asg (.v i) (.comp2 ce tg it cc tg2 it2 cc2)) := by
  refine PS.imp (ps_setLc2 O.calm O.nd hy hyl hsw hi ok (fun i hi => by rw [hv]; exact List.mem_append_right _ hi) hg ht hi2 hg2 ht2 he hs hs1) fun D σ H h => ?_
  obtain ⟨m, ρ, S, re, rs, p⟩ := h
  refine comp2_core hv (tM_stm re rs p fun m1 H1 d S1 v x1 re1 rs1 r1 p1 => ?_)
  obtain ⟨m2, ρ2, d2, ρ2', re2, r2, hb, q⟩ := asg_post re1 rs1 r1 p1
  simp only [bindT] at hb
  split at hb
  · cases hb
    exact q _ (re2.set r2) (Keeps.set i _ σ)
  · cases hb
end
end PZ
end
section
/-! Lvl: levels of calls. -/
set_option linter.all false
set_option maxRecDepth 100000
set_option maxHeartbeats 4000000
set_option Elab.async false
namespace PZ
open PySem PySem.Spec PyProof.Rows L2
section
variable {gr : Bool} {P : Program} {w : World} {W : Wl} {mg : Str → Option Value} {base : Heap} {f : Addr} {fd : FuncData} {ps : List Str} {j k i : Nat} {Pg : Prg} {d : Def} {x qual : Str} {params : Arguments} {body : List Stmt} {scope : Scope} {kws : List (Str × V)} {A : Around} {dvs : List V} {dfl : List D}
/-- at level 0 nothing is promised -/
theorem fnG_zero {K : PySem.W.Frag} : FnG gr P w K mg base k f fd ps (spF W ps.length ((glo Pg 0).fn i)) :=
  ⟨fun _ _ _ _ h => h.1, fun A out s H as us vs Q E _ _ _ _ _ h => by
    obtain ⟨_, m, ds, S, _, _, p⟩ := h
    exact (show False from p).elim⟩
theorem glo_succ (h : Pg.defs i = some d) : (glo Pg (k + 1)).fn i = evDef (glo Pg k) d := by
  show (fun ds => match Pg.defs i with
    | some d => evDef (glo Pg k) d ds
    | none => M.bad) = _
  rw [h]
theorem glo_bad (h : Pg.defs i = some d) {ds : List D} {S : Sto} (hl : ds.length ≠ d.np) : (glo Pg k).fn i ds S = .bad := by
  cases k with
  | zero => rfl
  | succ k =>
    rw [glo_succ h]
    exact if_neg hl
/-- a def of all its parameters -/
theorem cal_all (hm : mg x = some (.ref (W.fad i))) (hk : PySem.W.keepIn W.K (.ref (W.fad i)) = true) (h : Pg.defs i = some d) (hp : d.np = ps.length) (L : FnG gr P w W.K mg base j (W.fad i) fd ps (spF W ps.length ((glo Pg k).fn i))) (hr : Room j A) (hgd : gr = true → A.guards = some []) (hb : Binds W.K fd ps []) :
    Cal W P w mg base A (glo Pg k) i x [] :=
  ⟨hm, hk, gr, j, fd, ps, [], [], L, hr, hgd, hb, .nil, fun ds S hl => glo_bad h (by rw [hp]; exact hl), fun _ _ => .nil⟩
/-- with defaults -/
theorem cal_dfl (hm : mg x = some (.ref (W.fad i))) (hk : PySem.W.keepIn W.K (.ref (W.fad i)) = true) (h : Pg.defs i = some d) (hp : d.np = ps.length) (L : FnG gr P w W.K mg base j (W.fad i) fd ps (spF W ps.length ((glo Pg k).fn i))) (hr : Room j A) (hgd : gr = true → A.guards = some []) (hb : ∃ ds, Vals dvs ds ∧ Binds W.K fd ps ds) (hrp : ∀ (m : Gh) (H : Hp), Reps W m H dvs dfl) :
    Cal W P w mg base A (glo Pg k) i x dfl := by
  obtain ⟨ds, h1, h2⟩ := hb
  exact ⟨hm, hk, gr, j, fd, ps, ds, dvs, L, hr, hgd, h2, h1, fun ds S hl => glo_bad h (by rw [hp]; exact hl), hrp⟩
end
end PZ
end
section
/-! Hot: defs that a suite calls with the exception at hand. -/
set_option linter.all false
set_option maxRecDepth 100000
set_option maxHeartbeats 4000000
set_option Elab.async false
namespace PZ
open PySem PySem.Spec PyProof.Rows L2
/-- with an exception at hand -/
def Wl.hot (W : Wl) (a : Addr) (c : Nat) : Wl := ⟨W.K, W.fad, W.cad, W.att, W.T, some (a, c)⟩
/-- nothing is raised -/
abbrev wxF : WX := fun _ _ _ _ => False
abbrev xkF : XK := fun _ _ _ => False
/-- the exception's object: of the class c -/
structure Xo (W : Wl) (c : Nat) (p : Addr × Obj) : Prop where
  z : Zc (.ref (W.cad c)) none p.2
  f : ∃ vs, p.2.data = .fields vs
structure FnX (P : Program) (w : World) (W : Wl) (mg : Str → Option Value) (base : Heap) (n : List Nat) (k : Nat) (f : Addr) (fd : FuncData) (ps : List Str) (g : List D → M D) : Prop where
  go : ∀ (A : Around) (out : List PySem.Env) (s : Shared) (H : Hp) (as : Args) (us : List Value) (vs : List V) (Q : VK) (p : Addr × Obj) (c : Nat), c ∈ n → L2H.RoomH k A → Xo W c p → L2H.PinOk out H s p →
    Env0 P w W.K mg base A out s H → BindsTo s fd as (ps.zip us) → Vals vs us → spF (W.hot p.1 c) ps.length g vs H Q xkF → codeAny (model P w) A (.call (.ref f) as) (CR (L2.CX P w) out P w H s Q xkF) s
abbrev cxX (P : Program) (w : World) (W : Wl) (mg : Str → Option Value) (base : Heap) (N : List Str) (qual : Str) (scope : Scope) (i : Nat) (cdv : Value) (A : Around) (out : List PySem.Env) (s : Shared) (H : Hp) (p : Addr × Obj) : Cx :=
  L2H.cxH (L2.CX P w) P w W.K mg base N qual scope (W.fad i) cdv A out s H xkF p
/-- the context of such a def -/
structure OkX (W : Wl) (n : List Nat) (p : Addr × Obj) (c : Nat) (X : Cx) : Prop extends Okb (W.hot p.1 c) X where
  hc : c ∈ n
  hp : p ∈ X.pn
  hx : Xo W c p
instance {W : Wl} {n : List Nat} {c : Nat} {p : Addr × Obj} {X : Cx} : CoeOut (OkX W n p c X) (Okb (W.hot p.1 c) X) := ⟨OkX.toOkb⟩
theorem bodyX {P : Program} {w : World} {W : Wl} {mg : Str → Option Value} {base : Heap} {x qual : Str} {params : Arguments} {body : List Stmt} {scope : Scope} {dvs : List V} {kws : List (Str × V)} {i : Nat} {n : List Nat} {fd : FuncData} {N ps : List Str} {k : Nat} {G : Glo} {d : Def}
    (F : FunD W.K x qual params body scope dvs kws (W.fad i) fd) (Sc : FnScope N ps scope) (hnn : d.nn = N.length) (hnp : d.np = ps.length)
    (hbody : ∀ (cdv : Value) (A : Around) (out : List PySem.Env) (s : Shared) (H : Hp) (p : Addr × Obj) (c : Nat), L2H.RoomH k (cxX P w W mg base N qual scope i cdv A out s H p).A → OkX W n p c (cxX P w W mg base N qual scope i cdv A out s H p) →
      SSs (W.hot p.1 c) wxF (cxX P w W mg base N qual scope i cdv A out s H p) G body d.body) :
    FnX P w W mg base n (k + 1) (W.fad i) fd ps (evDef G d) := by
  obtain ⟨oc, od, dV, kV, doc, pm, an, cdv, ct, osl, rfl, lk, hcd, hd, hk⟩ := F.ex
  refine ⟨fun A out s H as us vs Q p c hc room hx pin e0 bnd rv sp => ?_⟩
  obtain ⟨hl, m, ds, S, rs, rd, post⟩ := sp
  have kin : W.K.In s.heap := e0.mod.kin.keeps fun b o e => (e0.bs b o e).1
  refine codeAny_call_function room.depth (kin _ _ lk) rfl Sc.co Sc.gen rfl (PySem.W.codeRec_of kin hcd) (bnd _ _ _ _ ?_)
  have hkn : ∀ y ∈ ps.zip us, scope.names.lookup y.1 = some .local ∨ (scope.names.lookup y.1 = some .cell ∧ ((cellsFrom (s.heap.objs.size + 1) scope.names []).lookup y.1).isSome = true) := by
    intro y hy
    obtain ⟨y1, y2⟩ := y
    exact (Sc.par y1 (List.of_mem_zip hy).1).imp id fun z => ⟨z, PySem.W.cellsFrom_some _ _ _ (.inl z)⟩
  refine wpAny_newFunctionEnv_cells Sc.kind hkn fun env he s1 x => ?_
  subst he
  refine ⟨Heap.NoLimit.keeps (e0.mod.nolimit.keeps fun b o e => (e0.bs b o e).1) x.toInCall.keep, codeAny_func ?_⟩
  have room' := room.deeper (envOfC qual scope s.heap.objs.size (W.fad i) cdv)
  have J := L2H.inv_startH (CX := L2.CX P w) (E := xkF) Sc pin e0 hl rv x
  have ok : OkX W n p c (cxX P w W mg base N qual scope i cdv A out s H p) := ⟨⟨rfl, by
    have z : (A.deeper (envOfC qual scope s.heap.objs.size (W.fad i) cdv)).units + 16 * k + 200 < cLine := room'.un
    show (A.deeper (envOfC qual scope s.heap.objs.size (W.fad i) cdv)).units + 65 < cLine
    omega, Sc.nd⟩, hc, List.mem_singleton.mpr rfl, hx⟩
  have B := hbody cdv A out s H p c room' ok
  have hd : ds.length = d.np := by rw [hnp, ← hl, rd.length]
  unfold evDef at post
  rw [if_pos hd, hnn] at post
  refine wpAny_mono (B.run [] s1 (L2.start N vs) H { nx := fun _ H' => Q .non H', rt := Q } J ⟨m, env0 N.length ds, S, RepE.start rd, rs, fin_post rs.len post⟩) (fun fl s2 h => ?_) fun e s2 h => h
  match fl, h with
  | .ret u, ⟨v, σ2, H2, J2, r2, q2⟩ => exact ⟨v, H2, J2.os, J2.bare, J2.base, J2.hok, r2, q2⟩
  | .next, ⟨σ2, H2, J2, q2⟩ => exact ⟨.non, H2, J2.os, J2.bare, J2.base, J2.hok, rfl, q2⟩
  | .brk, ⟨_, _, _, q2⟩ => exact q2.elim
  | .cont, ⟨_, _, _, q2⟩ => exact q2.elim
/-- a call of such a def -/
theorem goX {X : Cx} {W : Wl} {n : List Nat} {k c : Nat} {f : Addr} {fd : FuncData} {ps : List Str} {g : List D → M D} {p : Addr × Obj} {pns : List (Addr × Obj)} {σ : L2.St} {H : Hp} {s : Shared} {Q : VK} {us : List Value} {vs : List V} (F : FnX X.prog X.w W X.mg X.base n k f fd ps g) (hK : X.K = W.K) (room : L2H.RoomH k X.A)
    (hc : c ∈ n) (hp : p ∈ X.pn) (hx : Xo W c p) (hb : Binds W.K fd ps []) (I : Inv X pns σ H s) (rv : Vals vs us) (h : spF (W.hot p.1 c) ps.length g vs H Q xkF) : wpAny (model X.prog X.w) X.A (call (.ref f) us) (EP X pns σ Q) X.xe s := by
  obtain ⟨g1, g2, g3, g4, g5⟩ := I.pin p (List.mem_append_left _ hp)
  have pin : L2H.PinOk X.stack H s p := ⟨g1, g2, fun z => (List.mem_cons.mp (I.stkSub p.1 z)).elim g3 g4, g5⟩
  have b := hb s us (by rw [← hK]; exact I.kIn) (by rw [List.append_nil, ← rv.length]; exact h.1)
  rw [List.append_nil] at b
  have e0 := I.env0
  rw [hK] at e0
  refine wpAny_call (codeAny_mono (F.go X.A X.stack s H ⟨us, []⟩ us vs Q p c hc room hx pin e0 b rv h) fun r s2 q => ?_)
  match r, q with
  | .ok (.ret u), q => exact I.after q
  | .error e, ⟨_, _, _, _, _, _, _, _, _, _, _, _, z⟩ => exact z.elim
structure CalX (W : Wl) (P : Program) (w : World) (mg : Str → Option Value) (base : Heap) (A : Around) (G : Glo) (n : List Nat) (i : Nat) (x : Str) : Prop where
  hm : mg x = some (.ref (W.fad i))
  hk : PySem.W.keepIn W.K (.ref (W.fad i)) = true
  ex : ∃ (k : Nat) (fd : FuncData) (ps : List Str), FnX P w W mg base n k (W.fad i) fd ps (G.fn i) ∧ L2H.RoomH k A ∧ Binds W.K fd ps [] ∧ ∀ ds S, ds.length ≠ ps.length → G.fn i ds S = .bad
section
variable {W : Wl} {n : List Nat} {c : Nat} {po : Addr × Obj} {X : Cx} {G : Glo} {a b e : Expr} {ca cb ce : CE} {es : List Expr} {ces : CEs} {pos p q : Pos} {x y : Str}
theorem se_callX {i : Nat} (O : OkX W n po c X) (F : CalX W X.prog X.w X.mg X.base X.A G n i x) (hg : Gl X x) (ha : SA (W.hot po.1 c) wxF X G (e :: es) ces) (hdb : (x == ("__debug__" : Str)) = false := by decide)
    (he : starEach (e :: es) X.env = (false, eval e X.env) :: starEach es X.env := by rfl) (hpl : (backTo pos (starEach es X.env)).any (·.1) = false := by rfl) : SE (W.hot po.1 c) wxF X G (.Call (.Name x p) (e :: es) [] pos) (.call i ces) := by
  obtain ⟨k, fd, ps, F1, room, hb, hlen⟩ := F.ex
  have hK : X.K = W.K := O.hK
  refine ⟨fun pns s σ H Q I h => ?_⟩
  apply wpAny_Call_Name_kw
  refine ld_glob I hg F.hm ?_ hdb
  obtain ⟨m, ρ, S, re, rs, p0⟩ := h
  have t : tL (W.hot po.1 c) wxF (evs G ces) σ H fun vs H1 => spF (W.hot po.1 c) ps.length (G.fn i) vs H1 Q xkF := by
    refine tL_bind re rs (show PostA (W.hot po.1 c) wxF σ m H (((evs G ces ρ).bind fun xs => G.fn i xs) S) (KV1 (W.hot po.1 c) Q) from p0) fun m1 H1 ds S1 vs x1 re1 rs1 r1 p1 => ?_
    refine ⟨?_, m1, _, S1, rs1, r1, postC p1⟩
    rw [r1.length]
    by_cases hl : ds.length = ps.length
    · exact hl
    · rw [hlen _ S1 hl] at p1; exact p1.elim
  refine PySem.W.callWith_K (h₀ := X.base) I.ok.mod.kin (by rw [hK]; exact F.hk) (thn (ha.run pos pns s σ H _ I t) ?_) he hpl
  rintro us s1 ⟨vs, H1, J1, rv, q1⟩
  exact ⟨J1.kIn, goX F1 hK room O.hc O.hp O.hx hb J1 rv q1⟩
/-! ### isinstance of the exception -/
/-- the classes' facts -/
structure Xcl (W : Wl) (n : List Nat) : Prop where
  ex : ∀ c, c ∈ n → ExcC W.K (W.cad c)
  kit : ∀ c, c ∈ n → ∀ k, k ∈ n → PySem.W.kitOne W.K (.ref (W.cad c)) (.ref (W.cad k)) = some (isxB (some k) c)
  kv : ∀ c, c ∈ n → PySem.W.kitOne W.K (.ref (W.cad c)) (.type "ValueError") = some true
  exm : ∀ c, c ∈ n → ∀ k, k ∈ n → PySem.W.exmOne W.K (.ref (W.cad c)) (.ref (W.cad k)) = some (isxB (some k) c)
theorem call_isX {C a : Addr} {oe : Obj} (hp : (a, oe) ∈ X.pn) (ec : ExcC X.K C) (hz : Zc (.ref C) none oe) (hf : ∃ vs, oe.data = .fields vs) : CallR X (.builtin "isinstance") (rIsE X.K C a) := by
  rintro pns s σ H xs us Q I rv ⟨y, yv, k, rfl, hyv, hk, q⟩
  cases rv with
  | cons r1 rr =>
    cases rr with
    | cons r2 rr =>
      cases rr
      cases r1
      cases hyv _ r2
      have at_ := (I.pin (a, oe) (List.mem_append_left _ hp)).1
      have J : PySem.W.InstAt s.heap a oe C none := by
        obtain ⟨o1, o2, o3, o4⟩ := oe
        obtain ⟨vs, hv⟩ := hf
        cases hz.1; cases hz.2; cases hv
        exact ⟨at_, rfl, rfl, trivial⟩
      exact PySem.W.kia_one (PySem.W.handS_kitx_exc ec.hg ec.hk ec.hs ec.hd ec.ha ec.hn ec.ht ec.hm) I.kIn J hk (fun z => nomatch z) fun tk => ⟨.bl k, H, I.kept (t' := tk) fun _ _ z => z, rfl, q⟩
theorem isx_core {v : V} {cv : Value} {k : Option Nat} {Q : VK} {σ : L2.St} {H : Hp} (O : OkX W n po c X) (hcv : ∀ u, RelV v u → u = cv) (hk : PySem.W.kitOne W.K (.ref (W.cad c)) cv = some (isxB k c)) (h : tM (W.hot po.1 c) wxF (ev G (.isx k ce)) σ H Q) :
    tM (W.hot po.1 c) wxF (ev G ce) σ H fun x H1 => rIsE X.K (W.cad c) po.1 [x, v] H1 Q := by
  obtain ⟨m, ρ, S, re, rs, p0⟩ := h
  refine tM_bind re rs p0 fun m1 H1 d S1 u x1 re1 rs1 r1 p1 => ?_
  cases d <;> try (exact (show False from p1).elim)
  rename_i c'
  cases r1 with
  | exv hh =>
    have e : some (po.1, c) = some (_, c') := hh
    cases e
    refine ⟨v, cv, _, rfl, hcv, by rw [show X.K = W.K from O.hK]; exact hk, ?_⟩
    exact p1 m1 H1 (Ext.refl _ _) rs1 _ (.bl _)
theorem se_isx {k : Nat} (O : OkX W n po c X) (C : Xcl W n) (hkn : k ∈ n) (hg : Gl X x) (hm : X.mg x = none) (hv : bootBuiltins x = some (.builtin "isinstance")) (hg2 : Gl X y) (hm2 : X.mg y = some (.ref (W.cad k))) (ha : SE (W.hot po.1 c) wxF X G e ce) (hn : x ≠ "__name__" := by decide) (hdb : (x == ("__debug__" : Str)) = false := by decide) (hdb2 : (y == ("__debug__" : Str)) = false := by decide)
    (he : starEach [e, .Name y q] X.env = (false, eval e X.env) :: starEach [.Name y q] X.env := by rfl) (he2 : starEach [.Name y q] X.env = (false, eval (.Name y q) X.env) :: starEach [] X.env := by rfl) (hpl : (backTo pos (starEach [.Name y q] X.env)).any (·.1) = false := by rfl) : SE (W.hot po.1 c) wxF X G (.Call (.Name x p) [e, .Name y q] [] pos) (.isx (some k) ce) := by
  refine PE.imp (pe_callB (call_isX (X := X) O.hp (by rw [show X.K = W.K from O.hK]; exact C.ex c O.hc) O.hx.z O.hx.f) hg hm hv (pa_cons ha (pa_cons (pe_glob hg2 hm2 (v := .ref (W.cad k)) rfl hdb2) pa_nil he2) he) hn hdb he hpl) fun σ H Q h => ?_
  exact isx_core (v := .ref (W.cad k)) O (fun u r => r) (C.kit c O.hc k hkn) h
theorem se_isv (O : OkX W n po c X) (C : Xcl W n) (hg : Gl X x) (hm : X.mg x = none) (hv : bootBuiltins x = some (.builtin "isinstance")) (hg2 : Gl X y) (hm2 : X.mg y = none) (hv2 : bootBuiltins y = some (.type "ValueError")) (ha : SE (W.hot po.1 c) wxF X G e ce) (hn : x ≠ "__name__" := by decide) (hdb : (x == ("__debug__" : Str)) = false := by decide) (hn2 : y ≠ "__name__" := by decide) (hdb2 : (y == ("__debug__" : Str)) = false := by decide)
    (he : starEach [e, .Name y q] X.env = (false, eval e X.env) :: starEach [.Name y q] X.env := by rfl) (he2 : starEach [.Name y q] X.env = (false, eval (.Name y q) X.env) :: starEach [] X.env := by rfl) (hpl : (backTo pos (starEach [.Name y q] X.env)).any (·.1) = false := by rfl) : SE (W.hot po.1 c) wxF X G (.Call (.Name x p) [e, .Name y q] [] pos) (.isx none ce) := by
  refine PE.imp (pe_callB (call_isX (X := X) O.hp (by rw [show X.K = W.K from O.hK]; exact C.ex c O.hc) O.hx.z O.hx.f) hg hm hv (pa_cons ha (pa_cons (pe_bltn hg2 hm2 hv2 (v := .ty "ValueError") rfl hn2 hdb2) pa_nil he2) he) hn hdb he hpl) fun σ H Q h => ?_
  exact isx_core (k := none) (v := .ty "ValueError") O (fun u r => r) (C.kv c O.hc) h
end
end PZ
end
section
/-! Lam: a lambda handed to a def that calls it where a refusal is caught. -/
set_option linter.all false
set_option maxRecDepth 100000
set_option maxHeartbeats 4000000
set_option Elab.async false
namespace PZ
open PySem PySem.Spec PyProof.Rows L2
/-- all but tables stays -/
def Keep (H H' : Hp) : Prop := ∀ a o, H a = some o → (∀ ps, o ≠ .tbl ps) → H' a = some o
section
variable {W : Wl} {m m' : Gh} {H H' : Hp} {S : Sto}
theorem Keep.ext (k : Keep H H') : Ext m H m H' := ⟨⟨[], by simp⟩, fun _ h => h, fun a o e _ n => k a o e n, fun a o e n => ⟨o, k a o e n, n⟩, fun _ h => .inl h, fun _ h => .inl h⟩
theorem RepS.kept (r : RepS W m H S) (k : Keep H H') (t : LamX.Tabs W.T H') : RepS W m H' S := by
  have at_ : ∀ {a : Addr}, (∃ u, H a = some u ∧ plainO u = true) → H' a = H a := by
    rintro a ⟨u, e, q⟩
    rw [e]; exact k a u e (plain_not q)
  refine ⟨r.len, r.nd, fun a ha => ⟨(r.hid a ha).1, ?_⟩, fun n a o h1 h2 => ?_, t⟩
  · obtain ⟨u, e, q⟩ := (r.hid a ha).2
    exact ⟨u, k a u e (plain_not q), q⟩
  · have q := r.obj n a o h1 h2
    exact q.ext k.ext (at_ q.some)
end
/-- the call of the def that tells a refusal's word -/
theorem pe_word {Y : Cx} {W : Wl} {n : List Nat} {c i iw : Nat} {a : Addr} {oe : Obj} {G0 : Glo} {x en : Str} {t : Tx} {S' : Sto} {p p2 p3 : Pos} (hK : Y.K = W.K) (F : CalX W Y.prog Y.w Y.mg Y.base Y.A G0 n iw x) (hc : c ∈ n) (hp : (a, oe) ∈ Y.pn) (hx : Xo W c (a, oe)) (hg : Gl Y x)
    (hN : Y.N[i]? = some en) (hv : Vis Y.env.scope en) (ht : G0.fn iw [.exv c] [] = .ok (.str t) S') (hdb : (x == ("__debug__" : Str)) = false) (hd : (en == ("__debug__" : Str)) = false) (hcd : (en == ("__classdict__" : Str)) = false)
    (he : starEach [.Name en p2] Y.env = (false, eval (.Name en p2) Y.env) :: starEach [] Y.env := by rfl) (hpl : (backTo p3 (starEach [] Y.env)).any (·.1) = false := by rfl) :
    PE Y (.Call (.Name x p) [.Name en p2] [] p3) (fun σ H Q => σ[i]? = some (some (.ref a)) ∧ LamX.Tabs W.T H ∧ ∀ H' (y : Str), Keep H H' → LamX.Tabs W.T H' → y.cps.toList = t → y.cps.all (· < 0x110000) = true → Q (.str y) H') := by
  obtain ⟨k, fd, ps, F1, room, hb, hlen⟩ := F.ex
  refine ⟨fun pns s σ H Q I h => ?_⟩
  obtain ⟨h1, h2, h3⟩ := h
  apply wpAny_Call_Name_kw
  refine ld_glob I hg F.hm ?_ hdb
  have ta := pa_cons (pe_var (pos := p2) hN hv hd hcd) (pa_nil (X := Y)) he
  refine PySem.W.callWith_K (h₀ := Y.base) I.ok.mod.kin (by rw [hK]; exact F.hk) (thn (ta.run p3 pns s σ H (fun vs H1 => vs = [.ref a] ∧ H1 = H) I ⟨.ref a, h1, rfl, rfl⟩) ?_) he hpl
  rintro us s1 ⟨vs, H1, J1, rv, rfl, rfl⟩
  refine ⟨J1.kIn, goX F1 hK room hc hp hx hb J1 rv ⟨?_, ⟨[], []⟩, [.exv c], [], ⟨rfl, .nil, fun b hb => absurd hb (by simp), fun _ _ _ z _ => by simp at z, h2⟩, .cons (.exv rfl) .nil, ?_⟩⟩
  · by_cases hl : [D.exv c].length = ps.length
    · exact hl
    · rw [hlen _ [] hl] at ht; cases ht
  · rw [ht]
    intro m' H' v x rs r
    obtain ⟨y, rfl, ey, ay⟩ := r.val.str
    exact h3 H' y (fun b o e nt => x.keepL b o e (by simp) nt) rs.tab ey ay
/-! ### what such a def makes of the lambda -/
def echW (W : Wl) (n : List Nat) (G0 : Glo) (iw : Nat) (Q : VK) : XK := fun cls d H => ∃ c t S', cls = .ref (W.cad c) ∧ d = none ∧ c ∈ n ∧ G0.fn iw [.exv c] [] = .ok (.str t) S' ∧ LamX.Tabs W.T H ∧
  ∀ H' (y : Str), Keep H H' → LamX.Tabs W.T H' → y.cps.toList = t → y.cps.all (· < 0x110000) = true → Q (.str y) H'
def ttW (W : Wl) (G0 : Glo) : Sk → (XK → Hp → VK → Prop) → Hp → VK → Prop
  | .lst iw n => fun tl H Q => tl (echW W n G0 iw Q) H fun v H1 => [v].length ≤ sizeLine ∧ ∀ p, H1 p = none → Q (.ref p) (upd H1 p (.lst [v]))
  | .rep iw n => fun tl H Q => ∀ Q' : VK, (∀ v H1, rB W (biM .repr) [v] H1 Q → Q' v H1) → tl (echW W n G0 iw Q) H Q'
  | .non n => fun tl H Q => tl (fun cls d H' => ∃ c, cls = .ref (W.cad c) ∧ c ∈ n ∧ Q .non H') H Q
section
variable {X : Cx} {W : Wl} {n : List Nat} {iw j k2 : Nat} {G0 : Glo} {Ng : List Str} {x a q wx en ec fo : Str} {sg : Scope} {g : Addr} {cdg : Value} {p1 p2 p3 p4 p5 p6 p7 p8 p9 p10 lp p11 p12 p13 p14 p15 : Pos}
/-- the suite's word -/
def tsW (W : Wl) (n : List Nat) (iw j : Nat) (G0 : Glo) (a : Addr) (cls : Value) (d : Option Addr) : TS := fun D σ H => (j < σ.length → σ[j]? = some (some (.ref a))) ∧ echW W n G0 iw D.rt cls d H
theorem suite_word {Y : Cx} {a : Addr} {oe : Obj} {cls : Value} {d : Option Addr} {pn : List (Addr × Obj)} (hK : Y.K = W.K) (F : ∀ A, L2H.RoomH k2 A → CalX W Y.prog Y.w Y.mg Y.base A G0 n iw wx) (room : L2H.RoomH k2 Y.A) (hz : Zc cls d oe) (hf : ∃ vs, oe.data = .fields vs) (hg : Gl Y wx) (hN : Y.N[j]? = some en) (hv : Vis Y.env.scope en)
    (hdb : (wx == ("__debug__" : Str)) = false) (hd : (en == ("__debug__" : Str)) = false) (hcd : (en == ("__classdict__" : Str)) = false) :
    PSs (Y.suite a ((a, oe) :: pn)) [.Return (some (.Call (.Name wx p5) [.Name en p6] [] p7)) p8] (tsW W n iw j G0 a cls d) := by
  refine ⟨fun pns s σ H D I h => ?_⟩
  obtain ⟨h1, c, t, S', rfl, rfl, hc, ht, h2, h3⟩ := h
  have pw := pe_word (Y := Y.suite a ((a, oe) :: pn)) (p := p5) (p2 := p6) (p3 := p7) hK (F _ ⟨room.dp, room.un⟩) hc List.mem_cons_self ⟨hz, hf⟩ hg hN hv ht hdb hd hcd
  exact (pss_one (ps_ret (pos := p8) pw)).run pns s σ H D I ⟨h1 (by rw [I.len]; exact (List.getElem?_eq_some_iff.mp hN).1), h2, h3⟩
abbrev cxS (X : Cx) (Ng : List Str) (x : Str) (sg : Scope) (g : Addr) (cdg : Value) (s : Shared) (H : Hp) : Cx := (cxOf C8.CX0 X.prog X.w X.K X.mg X.base Ng x sg g cdg X.A X.stack s H C8.E0).nox
theorem was_word {cls : Value} {d : Option Addr} {σ : L2.St} {D : Ends} {cC : Addr} (C : Xcl W n) (hcC : cC = W.cad 0) (hn0 : 0 ∈ n) (hK : X.K = W.K) (h : echW W n G0 iw D.rt cls d H) : wAs X.K (.ref cC) j (tsW W n iw j G0) (fun _ _ _ _ => False) D cls d σ H := by
  obtain ⟨c, t, S', rfl, hd, hc, r⟩ := h
  refine ⟨true, ?_, fun _ a _ => ⟨fun hj => by rw [List.getElem?_set_self (by rw [List.length_set] at hj; exact hj)], c, t, S', rfl, hd, hc, r⟩, fun z => nomatch z⟩
  rw [hK, hcC, C.exm c hc 0 hn0]
  show some (0 == c || (0 : Nat) == 0) = some true
  simp
/-- try: return [a()] / except C as e: return w(e) -/
theorem gives_lst (C : Xcl W n) (hn0 : 0 ∈ n) (hK : X.K = W.K) (hr : Room (k2 + 1) X.A) (F : ∀ A, L2H.RoomH k2 A → CalX W X.prog X.w X.mg X.base A G0 n iw wx) (hnd : Ng.Nodup) (hNj : Ng[j]? = some en) (hje : sg.names.lookup en = some .local) (hge : sg.names.lookup ec = some .globalImplicit) (hme : X.mg ec = some (.ref (W.cad 0))) (hgw : sg.names.lookup wx = some .globalImplicit)
    (hde : (ec == ("__debug__" : Str)) = false := by decide) (hdb : (wx == ("__debug__" : Str)) = false := by decide) (hd : (en == ("__debug__" : Str)) = false := by decide) (hcd : (en == ("__classdict__" : Str)) = false := by decide) :
    LamX.GivesTo X Ng x sg g cdg [.Try [.Return (some (.List [.Call (.Name a p1) [] [] p2] lp)) p3] [.ExceptHandler (some (.Name ec p4)) (some en) [.Return (some (.Call (.Name wx p5) [.Name en p6] [] p7)) p8] p9] [] [] p10] a q (ttW W G0 (.lst iw n)) := by
  intro f c' s H Q tl act hc h
  have room : L2H.RoomH k2 (cxS X Ng x sg g cdg s H).A := L2H.roomH_of (hr.deeper _)
  have h0 : (L2.start Ng [V.ref f])[0]? = some (some (V.ref f)) := rfl
  refine ⟨_, pss_one (L2H.ps_try_asH (X := cxS X Ng x sg g cdg s H) (i := j) (c := .ref (W.cad 0)) (Wout := fun _ _ _ _ => False)
      (tb := fun Wy D σ H => ∃ Ech : XK, (∀ cls d σ' H', Ech cls d H' → Wy cls d σ' H') ∧ σ[0]? = some (some (.ref f)) ∧ H c' = some (LamX.CodeO c' q) ∧ tl Ech H fun v H1 => [v].length ≤ sizeLine ∧ ∀ p, H1 p = none → D.rt (.ref p) (upd H1 p (.lst [v])))
      (ts := tsW W n iw j G0) rfl rfl hnd hNj hje ⟨hge, hde, .inl hme⟩ LamX.takes0 (fun Wy pn xe _ tk _ => ?_) (fun a' oe cls d pn hz hf => suite_word (Y := cxS X Ng x sg g cdg s H) hK F room hz hf hgw hNj (.inl hje) hdb hd hcd)), ?_⟩
  · refine ⟨fun pns s' σ H' D I h' => ?_⟩
    obtain ⟨Ech, hW, h1, h2, h3⟩ := h'
    exact (pss_one (ps_ret (pos := p3) (pe_lst (pos := lp) (pa_cons (act Wy pn xe Ech p1 p2 tk hW) pa_nil)))).run pns s' σ H' D I ⟨h1, h2, h3⟩
  · exact ⟨echW W n G0 iw Q, fun cls d σ' H' z => was_word C rfl hn0 hK z, h0, hc, h⟩
/-- try: x = a() / except C as e: return w(e) / return repr(x) -/
theorem gives_rep {jf : Nat} {rp : Str} (C : Xcl W n) (hn0 : 0 ∈ n) (hK : X.K = W.K) (hr : Room (k2 + 1) X.A) (hgd : X.A.guards = some []) (F : ∀ A, L2H.RoomH k2 A → CalX W X.prog X.w X.mg X.base A G0 n iw wx) (hnd : Ng.Nodup) (hNj : Ng[j]? = some en) (hje : sg.names.lookup en = some .local) (hNf : Ng[jf]? = some fo) (hjf : sg.names.lookup fo = some .local)
    (hge : sg.names.lookup ec = some .globalImplicit) (hme : X.mg ec = some (.ref (W.cad 0))) (hgw : sg.names.lookup wx = some .globalImplicit) (hgr : sg.names.lookup rp = some .globalImplicit) (hmr : X.mg rp = none) (hvr : bootBuiltins rp = some (.builtin "repr"))
    (hde : (ec == ("__debug__" : Str)) = false := by decide) (hdb : (wx == ("__debug__" : Str)) = false := by decide) (hd : (en == ("__debug__" : Str)) = false := by decide) (hcd : (en == ("__classdict__" : Str)) = false := by decide)
    (hdf : (fo == ("__debug__" : Str)) = false := by decide) (hcf : (fo == ("__classdict__" : Str)) = false := by decide) (hnr : rp ≠ "__name__" := by decide) (hdr : (rp == ("__debug__" : Str)) = false := by decide)
    (hsw : ∀ (e : PySem.Env), swapsWithSole [.Name fo p11] (.Call (.Name a p1) [] [] p2) p3.line e = pure false := by intro _; rfl) (hss : ∀ (e : PySem.Env), swappedStores [.Name fo p11] (.Call (.Name a p1) [] [] p2) e = pure none := by intro _; rfl) :
    LamX.GivesTo X Ng x sg g cdg [.Try [.Assign [.Name fo p11] (.Call (.Name a p1) [] [] p2) p3] [.ExceptHandler (some (.Name ec p4)) (some en) [.Return (some (.Call (.Name wx p5) [.Name en p6] [] p7)) p8] p9] [] [] p10, .Return (some (.Call (.Name rp p12) [.Name fo p13] [] p14)) p15] a q (ttW W G0 (.rep iw n)) := by
  intro f c' s H Q tl act hc h
  have room : L2H.RoomH k2 (cxS X Ng x sg g cdg s H).A := L2H.roomH_of (hr.deeper _)
  have h0 : (L2.start Ng [V.ref f])[0]? = some (some (V.ref f)) := rfl
  have hlen : jf < (L2.start Ng [V.ref f]).length := by
    have hj : jf < Ng.length := (List.getElem?_eq_some_iff.mp hNf).1
    unfold L2.start
    simp only [List.length_append, List.length_map, List.length_replicate, List.length_cons, List.length_nil]
    omega
  have hu : (cxS X Ng x sg g cdg s H).A.units + 65 < cLine := by
    have z := (hr.deeper (envOfC x sg s.heap.objs.size g cdg)).un
    show (X.A.deeper (envOfC x sg s.heap.objs.size g cdg)).units + 65 < cLine
    omega
  have rep := pe_callB (X := cxS X Ng x sg g cdg s H) (p := p12) (pos := p14) (cb_repr (W := W) hK hu hgd) hgr hmr hvr (pa_cons (pe_var (pos := p13) hNf (.inl hjf) hdf hcf) pa_nil) hnr hdr rfl rfl
  refine ⟨_, pss_cons (L2H.ps_try_asH (X := cxS X Ng x sg g cdg s H) (i := j) (c := .ref (W.cad 0)) (Wout := fun _ _ _ _ => False)
      (tb := fun Wy D σ H => ∃ Ech : XK, (∀ cls d σ' H', Ech cls d H' → Wy cls d σ' H') ∧ σ[0]? = some (some (.ref f)) ∧ H c' = some (LamX.CodeO c' q) ∧ tl Ech H fun v H1 => D.nx (σ.set jf (some v)) H1)
      (ts := tsW W n iw j G0) rfl rfl hnd hNj hje ⟨hge, hde, .inl hme⟩ LamX.takes0 (fun Wy pn xe _ tk _ => ?_) (fun a' oe cls d pn hz hf => suite_word (Y := cxS X Ng x sg g cdg s H) hK F room hz hf hgw hNj (.inl hje) hdb hd hcd)) (pss_one (ps_ret (pos := p15) rep)), ?_⟩
  · refine ⟨fun pns s' σ H' D I h' => ?_⟩
    obtain ⟨Ech, hW, h1, h2, h3⟩ := h'
    exact (pss_one (ps_asg (pos := p3) (act Wy pn xe Ech p1 p2 tk hW) (pg_name (pos := p11) hnd hNf (.inl hjf) (.inr hjf)) (hsw _) (hss _))).run pns s' σ H' D I ⟨h1, h2, h3⟩
  · exact ⟨echW W n G0 iw Q, fun cls d σ' H' z => was_word C rfl hn0 hK z, h0, hc, h _ fun v H1 z => ⟨v, by rw [List.getElem?_set_self hlen], z⟩⟩
/-- try: return a() / except C: return None -/
theorem gives_non (C : Xcl W n) (hn0 : 0 ∈ n) (hK : X.K = W.K) (hge : sg.names.lookup ec = some .globalImplicit) (hme : X.mg ec = some (.ref (W.cad 0))) (hde : (ec == ("__debug__" : Str)) = false := by decide) {jj} :
    LamX.GivesTo X Ng x sg g cdg [.Try [.Return (some (.Call (.Name a p1) [] [] p2)) p3] [.ExceptHandler (some (.Name ec p4)) none [.Return (some (.Constant .none jj p5)) p6] p9] [] [] p10] a q (ttW W G0 (.non n)) := by
  intro f c' s H Q tl act hc h
  have h0 : (L2.start Ng [V.ref f])[0]? = some (some (V.ref f)) := rfl
  refine ⟨_, pss_one (ps_try_only (X := cxS X Ng x sg g cdg s H) (c := .ref (W.cad 0)) (Wout := fun _ _ _ _ => False)
      (tb := fun Wy D σ H => ∃ Ech : XK, (∀ cls d σ' H', Ech cls d H' → Wy cls d σ' H') ∧ σ[0]? = some (some (.ref f)) ∧ H c' = some (LamX.CodeO c' q) ∧ tl Ech H D.rt)
      rfl rfl ⟨hge, hde, .inl hme⟩ LamX.takes0 (fun Wy pn xe tk _ => ?_) (fun a' oe cls d pn hz hf => pss_one (ps_ret pe_non))), ?_⟩
  · refine ⟨fun pns s' σ H' D I h' => ?_⟩
    obtain ⟨Ech, hW, h1, h2, h3⟩ := h'
    exact (pss_one (ps_ret (pos := p3) (act Wy pn xe Ech p1 p2 tk hW))).run pns s' σ H' D I ⟨h1, h2, h3⟩
  · refine ⟨fun cls d H' => ∃ c, cls = .ref (W.cad c) ∧ c ∈ n ∧ Q .non H', fun cls d σ' H' ⟨c, e, hcn, z⟩ => ⟨true, ?_, fun _ _ _ => z, fun z => nomatch z⟩, h0, hc, h⟩
    rw [e, show (cxS X Ng x sg g cdg s H).K = W.K from hK, C.exm c hcn 0 hn0]
    show some (0 == c || (0 : Nat) == 0) = some true
    simp
end
/-! ### x(lambda: e) -/
section
variable {W : Wl} {Wx : WX} {X : Cx} {G G0 : Glo} {f : Nat} {ce : CE} {z : Sk}
theorem said_core {σ : L2.St} {H : Hp} {Q : VK} (hsd : G.sd f = sdM G0 z) (h : tM W Wx (ev G (.said f ce)) σ H Q) : LamX.tLam W.T (ttW W G0 z) (fun E => tM W (fun c d _ H => E c d H) (ev G ce)) σ H Q := by
  obtain ⟨m, ρ, S, re, rs, p⟩ := h
  refine ⟨rs.tab, fun H1 eN T1 => ?_⟩
  have kp : Keep H H1 := eN
  have rs1 := rs.kept kp T1
  replace p : PostA W Wx σ m H (G.sd f (ev G ce ρ) S) (KV1 W Q) := p
  rw [hsd] at p
  have p1 := PostA.ext p kp.ext
  have hot : ∀ {w : Nat} {n : List Nat} {c : Nat} {s' : Sto} {m' : Gh} {H' : Hp}, PostA W Wx σ m H1 (hotM G0 w n c s') (KV1 W Q) → Ext m H1 m' H' → RepS W m' H' s' → echW W n G0 w Q (.ref (W.cad c)) none H' := by
    intro w n c s' m' H' q x rs'
    unfold hotM at q
    split at q
    · rename_i hc
      split at q
      · rename_i t S2 ht
        exact ⟨c, t, S2, rfl, rfl, hc, ht, rs'.tab, fun H2 y k2 t2 ey ay => q m' H2 (x.trans k2.ext) (rs'.kept k2 t2) _ (.str ey ay)⟩
      · exact q.elim
    · exact q.elim
  cases z with
  | lst w n =>
    refine ⟨m, ρ, S, re.ext kp.ext, rs1, ?_⟩
    replace p1 : PostA W Wx σ m H1 (match ev G ce ρ S with
      | .ok a s' => .ok (.lst [a]) s'
      | .exc c s' => hotM G0 w n c s'
      | .bad => .bad) (KV1 W Q) := p1
    cases e : ev G ce ρ S with
    | ok a s' =>
      rw [e] at p1
      exact fun m' H' x rs' v rv => ⟨by show 1 ≤ sizeLine; decide, fun q hq => p1 m' _ (x.trans (ext_new hq)) (rs'.new hq) _ (.lst (rs'.out hq) upd_same (.cons (rv.ext (ext_new hq)) .nil))⟩
    | exc c s' =>
      rw [e] at p1
      exact fun m' H' x rs' => hot p1 x rs'
    | bad => rw [e] at p1; exact p1
  | rep w n =>
    intro Q' hQ
    refine ⟨m, ρ, S, re.ext kp.ext, rs1, ?_⟩
    replace p1 : PostA W Wx σ m H1 (match ev G ce ρ S with
      | .ok a s' => biM .repr [a] s'
      | .exc c s' => hotM G0 w n c s'
      | .bad => .bad) (KV1 W Q) := p1
    cases e : ev G ce ρ S with
    | ok a s' =>
      rw [e] at p1
      exact fun m' H' x rs' v rv => hQ v H' ⟨m', [a], s', rs', .cons rv .nil, (PostA.ext p1 x).toN (biM_nox .repr [a])⟩
    | exc c s' =>
      rw [e] at p1
      exact fun m' H' x rs' => hot p1 x rs'
    | bad => rw [e] at p1; exact p1
  | non n =>
    refine ⟨m, ρ, S, re.ext kp.ext, rs1, ?_⟩
    replace p1 : PostA W Wx σ m H1 (match ev G ce ρ S with
      | .ok a s' => .ok a s'
      | .exc c s' => if c ∈ n then .ok .non s' else .bad
      | .bad => .bad) (KV1 W Q) := p1
    cases e : ev G ce ρ S with
    | ok a s' =>
      rw [e] at p1
      exact fun m' H' x rs' v rv => p1 m' H' x rs' v rv
    | exc c s' =>
      rw [e] at p1
      replace p1 : PostA W Wx σ m H1 (if c ∈ n then .ok .non s' else .bad) (KV1 W Q) := p1
      split at p1
      · rename_i hc
        exact fun m' H' x rs' => ⟨c, rfl, hc, p1 m' H' x rs' _ .non⟩
      · exact p1.elim
    | bad => rw [e] at p1; exact p1
/-- what the def that makes lambdas has: its code object and its table -/
structure TabC (W : Wl) (X : Cx) : Prop where
  ex : ∃ c P, LamX.TabB X.base X.mg c P ∧ X.env.code = .ref c ∧ (P, X.env.qual ++ "<lambda>") ∈ W.T ∧ ∀ p ∈ W.T, p.1 = P → p.2 = X.env.qual ++ "<lambda>"
theorem se_said {x a : Str} {k g : Nat} {Ng : List Str} {pg : Arguments} {bg : List Stmt} {sg : Scope} {dvs : List V} {kws : List (Str × V)} {fd : FuncData} {params : Arguments} {body : Expr} {scope : Scope} {p lpos pos : Pos} (O : Okx W Wx X) (hsd : G.sd g = sdM G0 z)
    (hg : Gl X x) (hm : X.mg x = some (.ref (W.fad g))) (F : FunD W.K x x pg bg sg dvs kws (W.fad g) fd) (hb : L2.Binds W.K fd [a] []) (Sg : FnScope Ng [a] sg) (hG : ∀ cdv, LamX.GivesTo X Ng x sg (W.fad g) cdv bg a (X.env.qual ++ "<lambda>") (ttW W G0 z))
    (hT : TabC W X) (hr : Room (k + 2) X.A) (L : LamX.LamS X.env.scope scope)
    (hbody : ∀ (A : Around) (outer : List PySem.Env) (s : Shared) (H : Hp) (E : XK) (f c' : Addr), Room k (LamX.lamCx X A outer s H E scope f c').A → Okx W (fun c d _ H => E c d H) (LamX.lamCx X A outer s H E scope f c') → SE W (fun c d _ H => E c d H) (LamX.lamCx X A outer s H E scope f c') G body ce)
    (hNg : Ng[0]? = some a := by rfl) (hva : Vis sg a := by exact .inl rfl) (hdef : defaultsOf params X.env = ([], []) := by rfl)
    (hbind : ∀ (q : Str) (cl : List (Str × Addr)) (pm cv ctv : Value), bindArgs (PySem.W.kla_fn "<lambda>" q params body scope cl pm cv ctv) ⟨[], []⟩ = pure [] := by intro _ _ _ _ _; rfl)
    (hdb : (x == ("__debug__" : Str)) = false := by decide) (hd : (a == ("__debug__" : Str)) = false := by decide) (hcd : (a == ("__classdict__" : Str)) = false := by decide) :
    SE W Wx X G (.Call (.Name x p) [.Lambda params body scope lpos] [] pos) (.said g ce) := by
  obtain ⟨oc, od, dV, kV, doc, pm, an, cdv, ct, osl, rfl, lk, hcg, _, _⟩ := F.ex
  obtain ⟨c, P, TB, hcode, hmT, hu⟩ := hT.ex
  have hK : X.K = W.K := O.hK
  refine PE.imp (LamX.pe_lamcall (t := fun E => tM W (fun c d _ H => E c d H) (ev G ce)) hg hm (by rw [hK]; exact F.kp) (by rw [hK]; exact lk) (by rw [hK]; exact hcg) (by rw [hK]; exact hb) Sg hNg hva (hG cdv) TB hcode hmT hu hr L hdef hbind ?_ hdb hd hcd) fun σ H Q h => said_core hsd h
  intro A outer s H E f c' hr2
  have room : Room k (LamX.lamCx X A outer s H E scope f c').A := hr2
  refine hbody A outer s H E f c' room ⟨⟨hK, ?_, O.nd⟩, rfl, takes_of rfl rfl rfl rfl⟩
  have := room.un
  omega
/-! ### try: body / except C: suite -/
theorem ss_tr {n : List Nat} {k : Nat} {ec : Str} {body suite : List Stmt} {b0 : Stmt} {cb ch : CSs} {p4 p9 p10 : Pos} (C : Xcl W n) (hk : k ∈ n) (O : Okx W Wx X) (hs : X.stack = X.env :: X.outer) (hf : X.env.frame = some X.env.locals) (hge : Gl X ec) (hme : X.mg ec = some (.ref (W.cad k)))
    (hb : ∀ (Wy : WX) (pn : List (Addr × Obj)) (xe : Value → Shared → Prop), Okx W Wy (X.tr pn xe) → PassesOwn (model X.prog X.w) X.A X.env xe → SSs W Wy (X.tr pn xe) G body cb)
    (hsu : ∀ (a : Addr) (oe : Obj) (pn : List (Addr × Obj)), SSs W wxF (X.suite a ((a, oe) :: pn)) G (b0 :: suite) ch) (hde : (ec == ("__debug__" : Str)) = false := by decide) :
    SS W Wx X G (.Try body [.ExceptHandler (some (.Name ec p4)) none (b0 :: suite) p9] [] [] p10) (.tr cb k n ch) := by
  refine PS.imp (ps_try_only (Wout := Wx) (c := .ref (W.cad k)) (tb := fun Wy => tS W Wy (evSs G cb)) (ts := fun _ _ _ => tS W wxF (evSs G ch)) hs hf ⟨hge, hde, .inl hme⟩ O.tk (fun Wy pn xe tk ps => hb Wy pn xe ⟨⟨O.hK, O.hu, O.nd⟩, O.calm, tk⟩ ps) fun a oe cls d pn _ _ => hsu a oe pn) fun D σ H h => ?_
  obtain ⟨m, ρ, S, re, rs, p⟩ := h
  refine ⟨m, ρ, S, re, rs, ?_⟩
  replace p : PostS W Wx m H (match evSs G cb ρ S with
    | .exc c ρ' s' => if c ∈ n then (if isxB (some k) c = true then (evSs G ch ρ' s').calm else .exc c ρ' s') else .bad
    | r => r) D := p
  cases e : evSs G cb ρ S with
  | nx ρ' s => rw [e] at p; exact p
  | rt d s => rw [e] at p; exact p
  | ct ρ' s => rw [e] at p; exact p
  | bad => rw [e] at p; exact p
  | exc c ρ' s =>
    rw [e] at p
    replace p : PostS W Wx m H (if c ∈ n then (if isxB (some k) c = true then (evSs G ch ρ' s).calm else .exc c ρ' s) else .bad) D := p
    split at p
    · rename_i hc
      intro m' H' σ' x rs' re'
      refine ⟨isxB (some k) c, by rw [show X.K = W.K from O.hK]; exact C.exm c hc k hk, fun hb a _ => ?_, fun hb => ?_⟩
      · rw [if_pos hb] at p
        refine ⟨m', ρ', s, re', rs', ?_⟩
        have q := PostS.ext p x
        cases z : evSs G ch ρ' s with
        | nx ρ2 s2 => rw [z] at q; exact q
        | rt d s2 => rw [z] at q; exact q
        | ct ρ2 s2 => rw [z] at q; exact q
        | bad => rw [z] at q; exact q
        | exc c2 ρ2 s2 => rw [z] at q; exact (show False from q).elim
      · rw [if_neg (by rw [hb]; decide)] at p
        exact p m' H' σ' x rs' re'
    · exact p.elim
end
end PZ
end
section
/-! HeadX: a law's end, from what the evaluator says of it; tables of code objects among what is tracked. -/
set_option linter.all false
set_option maxRecDepth 100000
set_option maxHeartbeats 4000000
set_option Elab.async false
namespace PZ
open PySem PySem.Spec PyProof.Rows L2
abbrev tob : Obj := { cls := .none, data := .fields #[] }
/-- the tables hold nothing -/
def Emp (W : Wl) (H : Hp) : Prop := ∀ t ∈ W.T, H t.1 = some (.tbl #[])
theorem start_specX {W : Wl} {H : Hp} {a : Addr} {ns : List Int} {f : List D → M D} {S' : Sto} (hT : Emp W H) (hs : ScrAt W.K ⟨[], []⟩ H a ns) (h : f [.scr ns] [] = .ok (.bl true) S') :
    spF W 1 f [.ref a] H (fun v _ => v = .bl true) fun _ _ _ => False := by
  refine ⟨rfl, ⟨[], []⟩, [.scr ns], [], ⟨rfl, .nil, fun b hb => absurd hb (by simp), fun n b o h1 _ => by simp at h1, fun t ht => LamX.TabS.nil (hT t ht)⟩, .cons (.scr hs) .nil, ?_⟩
  rw [h]
  intro m' H' v _ _ r
  cases r; rfl
/-- an abstract heap of the start: the tables, the script if it isn't written -/
structure Beg (P : Program) (w : World) (W : Wl) (ts : List Addr) (scr : Addr) (ns : List Int) (st : Shared) (G : Hp) : Prop where
  tb : ∀ b ∈ ts, G b = some (.tbl #[])
  only : ∀ b, G b = none ∨ b ∈ ts ∨ ∃ o xs, G b = some (.frz o (.lst xs))
  at_ : ScrAt W.K ⟨[], []⟩ G scr ns
  ok : HOk P w G st.heap
  one : ∀ b, G b ≠ none → b = scr ∨ b ∈ ts
  out : G scr ≠ none → W.K.lookup scr = none
theorem beg_ex {P : Program} {w : World} {W : Wl} {ts : List Addr} {scr : Addr} {ns : List Int} {st : Shared} {its : List Value} (inK : W.K.In st.heap) (hT : ∀ b ∈ ts, st.heap.get? b = some tob)
    (at_ : st.heap.get? scr = some { cls := .type "list", data := .seq its.toArray }) (iare : IntsAre its ns) (len : ns.length ≤ sizeLine) : ∃ G, Beg P w W ts scr ns st G := by
  have vals := vals_ints iare
  have vlen := iare.length
  have sT : scr ∉ ts := fun z => by
    have e := hT scr z
    rw [at_] at e
    cases e
  cases hk : W.K.lookup scr with
  | some ob =>
    have e := inK scr ob hk
    rw [at_] at e; cases e
    refine ⟨fun b => if b ∈ ts then some (.tbl #[]) else none, fun b hb => if_pos hb, fun b => ?_, .inr ⟨_, its.toArray, _, hk, rfl, rfl, rfl, by rw [List.size_toArray, vlen]; exact len, by simpa using vals⟩, fun b u z => ?_, fun b z => ?_, fun z => ?_⟩
    · rcases Classical.em (b ∈ ts) with h | h
      · exact .inr (.inl h)
      · exact .inl (if_neg h)
    · rcases Classical.em (b ∈ ts) with h | h
      · cases (if_pos h).symm.trans z
        exact hT b h
      · cases (if_neg h).symm.trans z
    · rcases Classical.em (b ∈ ts) with h | h
      · exact .inr h
      · exact absurd (if_neg h) z
    · exact absurd (if_neg sT) z
  | none =>
    refine ⟨fun b => if b = scr then some (.frz { cls := .type "list", data := .seq its.toArray } (.lst (ns.map V.int))) else if b ∈ ts then some (.tbl #[]) else none, fun b hb => ?_, fun b => ?_, .inl ⟨fun z => ?_, _, if_pos rfl⟩, fun b u z => ?_, fun b z => ?_, fun _ => hk⟩
    · exact (if_neg fun z : b = scr => sT (by rw [← z]; exact hb)).trans (if_pos hb)
    · rcases Classical.em (b = scr) with h | h
      · exact .inr (.inr ⟨_, _, if_pos h⟩)
      · rcases Classical.em (b ∈ ts) with h2 | h2
        · exact .inr (.inl h2)
        · exact .inl ((if_neg h).trans (if_neg h2))
    · rcases z with z | z <;> exact absurd z (by simp)
    · rcases Classical.em (b = scr) with h | h
      · cases (if_pos h).symm.trans z
        rw [h]
        exact ⟨at_, by rw [List.length_map]; exact len, its, _, vals, at_⟩
      · rcases Classical.em (b ∈ ts) with h2 | h2
        · cases (((if_neg h).trans (if_pos h2)).symm.trans z : some (HO.tbl #[]) = some u)
          exact hT b h2
        · cases (((if_neg h).trans (if_neg h2)).symm.trans z : none = some u)
    · rcases Classical.em (b = scr) with h | h
      · exact .inl h
      · rcases Classical.em (b ∈ ts) with h2 | h2
        · exact .inr h2
        · exact absurd ((if_neg h).trans (if_neg h2)) z
theorem lawX {P : Program} {w : World} {W : Wl} {mg mb : Str → Option Value} {lv : Nat} {fa scr : Addr} {cs : List (Addr × Addr)} {fd : FuncData} {x : Str} {f : List D → M D} {st : Shared} {its : List Value} {ns : List Int}
    (inK : W.K.In st.heap) (glb : st.heap.Ns mainGlobals mg) (blt : st.heap.Ns builtinsNs mb) (bbl : ∀ y : Str, y ≠ "__name__" → mb y = bootBuiltins y) (lim : st.heap.NoLimit) (gens : st.gens = #[])
    (hT : ∀ p ∈ cs, st.heap.get? p.2 = some tob) (nT : ∀ p ∈ cs, W.K.lookup p.2 = none) (cd : ∀ p ∈ cs, PySem.W.CodeHd st.heap p.1 p.2)
    (bm : ∃ (b : Addr) (ob : Obj), mg "__builtins__" = some (.ref b) ∧ b ≠ builtinsNs ∧ st.heap.get? b = some ob ∧ ob.cls = .type "module" ∧ ob.dict = some builtinsNs ∧ ob.data = .plain)
    (at_ : st.heap.get? scr = some { cls := .type "list", data := .seq its.toArray }) (iare : IntsAre its ns) (len : ns.length ≤ sizeLine) (room : Room lv callerA) (hWT : ∀ t ∈ W.T, t.1 ∈ cs.map (·.2))
    (F : ∀ base : Heap, W.K.In base → base.Ns mainGlobals mg → (∀ p ∈ cs, LamX.TabB base mg p.1 p.2) → FnG true P w W.K mg base lv fa fd [x] (spF W 1 f)) (bnd : ∀ (s : Shared) (u : Value), BindsTo s fd ⟨[u], []⟩ [(x, u)])
    (says : ∃ S', f [.scr ns] [] = .ok (.bl true) S') :
    codeAny (model P w) callerA (.call (.ref fa) ⟨[.ref scr], []⟩) (fun r s' => r = .ok (.ret (.bool true)) ∧ OldK st.heap s'.heap ∧ s'.os = st.os ∧ AllBare s'.gens) st := by
  obtain ⟨S', hsay⟩ := says
  have hT2 : ∀ b ∈ cs.map (·.2), st.heap.get? b = some tob := fun b hb => by
    obtain ⟨p, hp, e⟩ := List.mem_map.mp hb
    rw [← e]; exact hT p hp
  obtain ⟨G, bg⟩ := beg_ex (P := P) (w := w) inK hT2 at_ iare len
  have nons : ∀ {b : Addr} {ob : Obj}, st.heap.get? b = some ob → (∀ vs n, ob.data ≠ .seq vs n) → ob.data ≠ .fields #[] → G b = none := by
    intro b ob hb h1 h2
    cases q : G b with
    | none => rfl
    | some u =>
      rcases bg.one b (by rw [q]; simp) with e | e
      · subst e
        rw [at_] at hb; cases hb
        exact absurd rfl (h1 _ _)
      · rw [hT2 b e] at hb; cases hb
        exact absurd rfl h2
  have vis : ∀ {b : Addr} {ob : Obj}, st.heap.get? b = some ob → (∀ vs n, ob.data ≠ .seq vs n) → ob.data ≠ .fields #[] → (hidT st.heap G).get? b = some ob := fun hb h1 h2 => hidT_get hb (nons hb h1 h2)
  have ns_ : ∀ {b : Addr} {mm : Str → Option Value}, st.heap.Ns b mm → (hidT st.heap G).Ns b mm := by
    rintro b mm ⟨ob, es, ep, hb, hd, r⟩
    exact ⟨ob, es, ep, vis hb (fun _ _ z => by rw [hd] at z; cases z) (fun z => by rw [hd] at z; cases z), hd, r⟩
  have kin : W.K.In (hidT st.heap G) := by
    intro b ob hb
    refine hidT_get (inK b ob hb) ?_
    cases q : G b with
    | none => rfl
    | some u =>
      rcases bg.one b (by rw [q]; simp) with e | e
      · rw [e] at hb q
        rw [bg.out (by rw [q]; simp)] at hb; cases hb
      · obtain ⟨p, hp, ep⟩ := List.mem_map.mp e
        rw [← ep, nT p hp] at hb; cases hb
  have md : Mod W.K mg (hidT st.heap G) := by
    obtain ⟨mc, l1, l2⟩ := lim
    exact ⟨kin, ns_ glb, ⟨mb, ns_ blt, bbl⟩, ⟨mc, ns_ l1, l2⟩⟩
  have env : Env0 P w W.K mg (hidT st.heap G) callerA [] st G := by
    refine ⟨rfl, md, fun b ob hb => of_hidT hb, Nat.le_of_eq (hidT_size _ _), trivial, fun b hb => ?_, bg.ok, .of_eq gens⟩
    exact absurd (show b ∈ ([] : List Addr) from hb) (by simp)
  have tb : ∀ p ∈ cs, LamX.TabB (hidT st.heap G) mg p.1 p.2 := by
    intro p hp
    have htp := hT p hp
    obtain ⟨og, es, ep, hog, hdg, _⟩ := glb
    refine ⟨?_, ?_, fun z => ?_⟩
    · obtain ⟨o, us, file, tf, flags, tg, inF, text, tt, e1, r1, r2, r3, r4⟩ := cd p hp
      refine ⟨o, us, file, tf, flags, tg, inF, text, tt, vis e1 (fun _ _ z => by rw [r2] at z; cases z) (fun z => ?_), r1, r2, r3, r4⟩
      rw [r2] at z; cases z
      simp at r3
    · obtain ⟨b, ob, b1, b2, b3, b4, b5, b6⟩ := bm
      refine ⟨b, ob, b1, b2, fun q => ?_, fun q => ?_, vis b3 (fun _ _ z => by rw [b6] at z; cases z) (fun z => by rw [b6] at z; cases z), b4, b5, b6⟩
      · rw [q, hog] at b3; cases b3
        rw [hdg] at b6; cases b6
      · rw [q, htp] at b3; cases b3
        cases b6
    · rw [z, htp] at hog
      cases hog; cases hdg
  have run := (F _ kin (ns_ glb) tb).go callerA [] st G ⟨[.ref scr], []⟩ [.ref scr] [.ref scr] _ _ room (fun _ => rfl) env (bnd st (.ref scr)) (.cons rfl .nil) (start_specX (fun t ht => bg.tb _ (hWT t ht)) bg.at_ hsay)
  refine codeAny_mono run fun r s' h => ?_
  match r, h with
  | .error e, h =>
    exfalso
    obtain ⟨_, _, _, _, _, _, _, _, _, _, _, z⟩ := h
    exact z.2
  | .ok (.ret u), h =>
    obtain ⟨v, G', os, bare, un, ok', rel, q⟩ := h
    obtain rfl : v = .bl true := q
    obtain rfl : u = Value.bool true := rel
    have key : ∀ b o, b ∉ cs.map (·.2) → st.heap.get? b = some o → s'.heap.get? b = some o := by
      intro b o nb e
      cases q : G b with
      | none => exact un.keep b o e q (fun z => absurd (show b ∈ ([] : List Addr) from z) (by simp)) (by simp)
      | some u =>
        rcases bg.only b with z | z | ⟨o2, xs, z⟩
        · rw [q] at z; cases z
        · exact absurd z nb
        · obtain ⟨e1, _⟩ := bg.ok b _ z
          obtain ⟨e2, _⟩ := ok' b _ (un.frzs b o2 _ z)
          rw [e] at e1; cases e1
          exact e2
    have grown : ∀ p ∈ cs, ∃ more : Array Value, s'.heap.get? p.2 = some { cls := .none, data := .fields more } := by
      intro p hp
      obtain ⟨more, z⟩ := un.tbls p.2 #[] (bg.tb p.2 (List.mem_map.mpr ⟨p, hp, rfl⟩))
      exact ⟨_, ok' p.2 _ z⟩
    refine ⟨rfl, ⟨fun b o e => ?_, fun b o e => ?_⟩, os, bare⟩
    · rcases Classical.em (b ∈ cs.map (·.2)) with hb | hb
      · obtain ⟨p, hp, ep⟩ := List.mem_map.mp hb
        obtain ⟨more, hm⟩ := grown p hp
        subst ep
        rw [hT p hp] at e
        cases e
        exact .inr (.inl ⟨((cd p hp).tab (hT p hp)).isCodeTable, rfl, #[], more, rfl, by rw [Array.empty_append]; exact hm⟩)
      · exact .inl (key b o hb e)
    · rcases Classical.em (b ∈ cs.map (·.2)) with hb | hb
      · obtain ⟨p, hp, ep⟩ := List.mem_map.mp hb
        obtain ⟨more, hm⟩ := grown p hp
        exact ⟨_, ep ▸ hm⟩
      · exact ⟨o, key b o hb e⟩
/-- the law, from the head -/
theorem walkX {l : PySem.W.OpenLaw} {n lv : Nat} {q : Program} {loose : List Str} {XP : (Str → Option Value) → Heap → Prop} {YP : World → Heap → Prop} {d : DefRec} {x : Str}
    (hn : l.most = some n) (hn2 : n ≤ sizeLine) (hdf : d.params.defaults = []) (room : Room lv callerA)
    (F : ∀ (w : World) (mg : Str → Option Value) (fa : Addr) (h : Heap), YP w h → h.Ns mainGlobals mg → mg d.name = some (.ref fa) →
      ∃ (W : Wl) (fd : FuncData) (f : List D → M D) (cs : List (Addr × Addr)), W.K.In h ∧ (∀ p ∈ cs, h.get? p.2 = some tob) ∧ (∀ p ∈ cs, W.K.lookup p.2 = none) ∧ (∀ p ∈ cs, PySem.W.CodeHd h p.1 p.2) ∧ (∀ t ∈ W.T, t.1 ∈ cs.map (·.2)) ∧ (∀ (s : Shared) (u : Value), BindsTo s fd ⟨[u], []⟩ [(x, u)]) ∧
        (∀ ns : List Int, ns.length ≤ n → (∀ z ∈ ns, Builtin.Int.intBits z ≤ 1048576) → ∃ S', f [.scr ns] [] = .ok (.bl true) S') ∧
        ∀ base : Heap, W.K.In base → base.Ns mainGlobals mg → (∀ p ∈ cs, LamX.TabB base mg p.1 p.2) → FnG true l.prog w W.K mg base lv fa fd [x] (spF W 1 f)) :
    PySem.W.WalkO q loose XP YP l.row.toRowW d [] (fun f vs => PySem.call f vs) := by
  refine Att.attach_callB hn hdf fun w s0 s1 mg mb fa o pm cd doc a vs ns G Y ho hd hcd hmg hobj hints hlen hbits hg => ?_
  obtain ⟨W, fd, f, cs, inK, hT, nT, chd, hWT, bnd, says, FF⟩ := F w mg fa _ Y G.T.g hmg
  exact lawX inK G.T.g G.T.b G.T.builtins G.T.nolimit hg hT nT chd G.T.bmain hobj hints (Nat.le_trans hlen hn2) room hWT FF bnd (says ns hlen hbits)
end PZ
end
section
/-! GdC: a module's dict with text keys; the classes' facts; the head's facts. -/
set_option linter.all false
set_option maxRecDepth 100000
set_option maxHeartbeats 4000000
set_option Elab.async false
namespace PZ
open PySem PySem.Spec PyProof.Rows L2
/-! ### dicts of the module -/
structure GdAt (W : Wl) (w : World) (mg : Str → Option Value) (x : Str) (kvs : List (Tx × D)) : Prop where
  ex : ∃ d es n, mg x = some (.ref d) ∧ KDict W.K w d es n ∧ ∀ z : Str, match kvs.lookup z.cps.toList with
    | some e => ∃ u v, PySem.W.nsIn W.K d z = some (some u) ∧ RelV v u ∧ ∀ (m : Gh) (H : Hp), Rep W m H v e
    | none => PySem.W.nsIn W.K d z = some none
theorem dic_none {K : PySem.W.Frag} {P : Params} {d : Addr} {ks : List Str} (h : He.dicW K d = some (He.keysIn P ks)) {z : Str} (hz : z ∉ ks) : PySem.W.nsIn K d z = some none := by
  unfold He.dicW at h
  unfold PySem.W.nsIn
  cases q : K.lookup d with
  | none => rw [q] at h; cases h
  | some o =>
    obtain ⟨oc, od, dt, sl⟩ := o
    rw [q] at h
    cases oc with
    | type c =>
      cases od with
      | some b => cases dt <;> cases h
      | none =>
        cases dt with
        | dict es n =>
          dsimp only at h ⊢
          split at h
          case h_2 => cases h
          replace h : es.toList.map He.keyOf = He.keysIn P ks := Option.some.inj h
          have key : ∀ e ∈ es.toList, ∃ (k : Str) (t : Tok), e.key = .str k t ∧ k ∈ ks := by
            intro e he
            have h1 : He.keyOf e ∈ He.keysIn P ks := h ▸ List.mem_map_of_mem he
            obtain ⟨k, hk, e1⟩ := List.mem_map.mp h1
            unfold He.keyOf at e1
            split at e1
            · rename_i y t hy
              obtain ⟨h2, _⟩ := Prod.mk.inj (Option.some.inj e1)
              exact ⟨_, t, hy, h2 ▸ hk⟩
            · cases e1
          have f0 : es.toList.find? (·.key.isStr z) = none := by
            rw [List.find?_eq_none]
            intro e he hs
            obtain ⟨k, t, e1, hk⟩ := key e he
            rw [e1] at hs
            have : k = z := by simpa [Value.isStr] using hs
            exact hz (this ▸ hk)
          have f1 : es.toList.any (·.refKey) = false := by
            rw [List.any_eq_false]
            intro e he hs
            obtain ⟨k, t, e1, hk⟩ := key e he
            unfold DictEntry.refKey at hs
            rw [e1] at hs
            simp at hs
          rw [f0, f1]
          rfl
        | _ => cases h
    | _ => cases od <;> cases dt <;> cases h
theorem gd_at {W : Wl} {w : World} {mg : Str → Option Value} {x : Str} {L : List (Str × He.Dv × D)} (hm : mg x = some (.ref (He.ga W.K x))) (hd : He.dicW W.K (He.ga W.K x) = some (He.keysIn w.params (L.map (·.1)))) (hv : He.valsB W.K (He.ga W.K x) (L.map fun t => (t.1, t.2.1)) = true)
    (hr : ∀ t ∈ L, ∀ (m : Gh) (H : Hp), Rep W m H (t.2.1.v W.K) t.2.2) : GdAt W w mg x (L.map fun t => (t.1.cps.toList, t.2.2)) := by
  obtain ⟨es, n, kd⟩ := He.dicW_ok hd
  refine ⟨_, es, n, hm, kd, fun z => ?_⟩
  have lk : ∀ L : List (Str × He.Dv × D), (match (L.map fun t => (t.1.cps.toList, t.2.2)).lookup z.cps.toList with
      | some e => ∃ t ∈ L, t.1 = z ∧ t.2.2 = e
      | none => z ∉ L.map (·.1)) := by
    intro L
    induction L with
    | nil => simp
    | cons t L ih =>
      simp only [List.map_cons, List.lookup_cons]
      by_cases h : z.cps.toList = t.1.cps.toList
      · rw [beq_iff_eq.mpr h]
        refine ⟨t, List.mem_cons_self, ?_, rfl⟩
        exact (T_eq (x := t.1) rfl).trans (T_eq (x := z) h).symm
      · have h2 : (z.cps.toList == t.1.cps.toList) = false := beq_eq_false_iff_ne.mpr h
        rw [h2]
        dsimp only
        revert ih
        cases (L.map fun t => (t.1.cps.toList, t.2.2)).lookup z.cps.toList with
        | none =>
          intro ih hz
          rcases List.mem_cons.mp hz with e | e
          · exact h (by rw [e])
          · exact ih e
        | some e =>
          rintro ⟨t', ht, r⟩
          exact ⟨t', List.mem_cons_of_mem _ ht, r⟩
  have q := lk L
  cases e : (L.map fun t => (t.1.cps.toList, t.2.2)).lookup z.cps.toList with
  | none =>
    rw [e] at q
    exact dic_none hd q
  | some dd =>
    rw [e] at q
    obtain ⟨t, ht, rfl, rfl⟩ := q
    obtain ⟨u, h1, h2⟩ := He.valsB_ok hv (q := (t.1, t.2.1)) (List.mem_map_of_mem (f := fun t : Str × He.Dv × D => (t.1, t.2.1)) ht)
    exact ⟨u, _, h1, h2, hr t ht⟩
section
variable {W : Wl} {Wx : WX} {X : Cx} {G : Glo} {m : Gh} {H : Hp} {S : Sto} {σ : L2.St} {ρ : PZ.Env} {a e : Expr} {ca ce : CE} {pos p : Pos} {x : Str} {n : Nat}
theorem gin_core {neg : Bool} {kvs : List (Tx × D)} {d : Addr} {Q : VK} (hG : G.dct n = kvs) (hz : ∀ z : Str, match kvs.lookup z.cps.toList with
    | some e => ∃ u v, PySem.W.nsIn W.K d z = some (some u) ∧ RelV v u ∧ ∀ (m : Gh) (H : Hp), Rep W m H v e
    | none => PySem.W.nsIn W.K d z = some none) (h : tM W Wx (ev G (.gin neg n ce)) σ H Q) :
    tM W Wx (ev G ce) σ H fun x H1 => ∃ (z : Str) (r : Option Value), x = .str z ∧ PySem.W.nsIn W.K d z = some r ∧ Q (.bl (if neg then !r.isSome else r.isSome)) H1 := by
  obtain ⟨m, ρ, S, re, rs, p⟩ := h
  refine tM_bind re rs p fun m1 H1 dd S1 v x1 re1 rs1 r1 p1 => ?_
  obtain ⟨k, ek, q⟩ := PostA.opt rs1 p1
  cases dd <;> try (cases ek; done)
  rename_i t
  obtain ⟨y, rfl, ey, _⟩ := r1.val.str
  have h1 := hz y
  rw [ey, ← hG] at h1
  cases ek
  have q : ∀ v, Rep W m1 H1 v (.bl (if neg = true then !((G.dct n).lookup t).isSome else ((G.dct n).lookup t).isSome)) → Q v H1 := q
  cases e : (G.dct n).lookup t with
  | none =>
    rw [e] at h1 q
    exact ⟨y, none, rfl, h1, q _ (.bl _)⟩
  | some dd =>
    rw [e] at h1 q
    obtain ⟨u, v, h2, _⟩ := h1
    exact ⟨y, some u, rfl, h2, q _ (.bl _)⟩
theorem opin (d : Addr) (D : ∃ es n, KDict X.K X.w d es n) : OpR X (compareOp .In) (fun x y H Q => ∃ (z : Str) (r : Option Value), x = .str z ∧ y = .ref d ∧ PySem.W.nsIn X.K d z = some r ∧ Q (.bl (if false = true then !r.isSome else r.isSome)) H) :=
  let ⟨_, _, D⟩ := D; OpR.imp (op_in_kd D) fun _ _ _ _ ⟨z, r, a, b, c, q⟩ => ⟨z, r, a, b, c, q⟩
theorem opnin (d : Addr) (D : ∃ es n, KDict X.K X.w d es n) : OpR X (compareOp .NotIn) (fun x y H Q => ∃ (z : Str) (r : Option Value), x = .str z ∧ y = .ref d ∧ PySem.W.nsIn X.K d z = some r ∧ Q (.bl (if true = true then !r.isSome else r.isSome)) H) :=
  let ⟨_, _, D⟩ := D; OpR.imp (op_notIn_kd D) fun _ _ _ _ ⟨z, r, a, b, c, q⟩ => ⟨z, r, a, b, c, q⟩
abbrev GinR (X : Cx) (neg : Bool) (op : CmpOp) : Prop := ∀ d, (∃ es n, KDict X.K X.w d es n) → OpR X (compareOp op) (fun x y H Q => ∃ (z : Str) (r : Option Value), x = .str z ∧ y = .ref d ∧ PySem.W.nsIn X.K d z = some r ∧ Q (.bl (if neg = true then !r.isSome else r.isSome)) H)
theorem se_gin {neg : Bool} {op : CmpOp} {kvs : List (Tx × D)} (O : Okb W X) (D : GdAt W X.w X.mg x kvs) (hG : G.dct n = kvs) (ho : GinR X neg op) (hg : Gl X x) (ha : SE W Wx X G a ca) (hm : behindInMarks op (.Name x p) = false) (hdb : (x == ("__debug__" : Str)) = false := by decide) : SE W Wx X G (.Compare a [op] [.Name x p] pos) (.gin neg n ca) := by
  obtain ⟨d, es, nn, hmg, kd, hz⟩ := D.ex
  rw [← O.hK] at kd
  refine PE.imp (pe_cmpR (ho d ⟨_, _, kd⟩) ha (pe_glob hg hmg (v := .ref d) rfl hdb) hm) fun σ H Q h => ?_
  obtain ⟨m, ρ, S, re, rs, p⟩ := gin_core hG hz h
  refine ⟨m, ρ, S, re, rs, p.mono fun m' H' a S' _ _ _ q v rv => ?_⟩
  obtain ⟨z, r, rfl, h1, h2⟩ := q v rv
  exact ⟨z, r, rfl, rfl, by rw [O.hK]; exact h1, h2⟩
theorem st_gin {neg : Bool} {op : CmpOp} {kvs : List (Tx × D)} (O : Okb W X) (D : GdAt W X.w X.mg x kvs) (hG : G.dct n = kvs) (ho : GinR X neg op) (hg : Gl X x) (ha : SE W Wx X G a ca) (hm : behindInMarks op (.Name x p) = false) (hdb : (x == ("__debug__" : Str)) = false := by decide) : ST W Wx X G (.Compare a [op] [.Name x p] pos) (.gin neg n ca) := by
  obtain ⟨d, es, nn, hmg, kd, hz⟩ := D.ex
  rw [← O.hK] at kd
  refine PT.imp (pt_cmpR (ho d ⟨_, _, kd⟩) ha (pe_glob hg hmg (v := .ref d) rfl hdb) hm) fun σ H Q h => ?_
  obtain ⟨m, ρ, S, re, rs, p⟩ := gin_core hG hz (tTest_of h)
  refine ⟨m, ρ, S, re, rs, p.mono fun m' H' a S' _ _ _ q v rv => ?_⟩
  obtain ⟨z, r, rfl, h1, k, h2, h3⟩ := q v rv
  cases h2
  exact ⟨z, r, rfl, rfl, by rw [O.hK]; exact h1, _, rfl, h3⟩
theorem se_gget {kvs : List (Tx × D)} (O : Okb W X) (D : GdAt W X.w X.mg x kvs) (hG : G.dct n = kvs) (hg : Gl X x) (ha : SE W Wx X G a ca) (hs : PlainIx a := by intro _ _; rfl) (hdb : (x == ("__debug__" : Str)) = false := by decide) : SE W Wx X G (.Subscript (.Name x p) a pos) (.gget n ca) := by
  obtain ⟨d, es, nn, hmg, kd, hz⟩ := D.ex
  refine PE.imp (pe_ix ix_kdict (pe_glob hg hmg (v := .ref d) rfl hdb) ha hs) fun σ H Q h => ?_
  obtain ⟨m, ρ, S, re, rs, p⟩ := h
  show tM W Wx (ev G ca) σ H _
  refine tM_bind re rs p fun m1 H1 dd S1 v x1 re1 rs1 r1 p1 => ?_
  obtain ⟨k, ek, q⟩ := PostA.opt rs1 p1
  cases dd <;> try (cases ek; done)
  rename_i t
  obtain ⟨y, rfl, ey, _⟩ := r1.val.str
  have h1 := hz y
  rw [ey, ← hG, show (G.dct n).lookup t = some k from ek] at h1
  obtain ⟨u, v, h2, h3, h4⟩ := h1
  rw [← O.hK] at h2 kd
  exact ⟨d, y, v, rfl, rfl, ⟨es, nn, u, kd.at_, kd.lit, h2, h3⟩, q v (h4 m1 H1)⟩
end
/-! ### the classes' facts -/
def excB (K : PySem.W.Frag) (C : Addr) : Bool :=
  He.eqO (PySem.W.findIn K (.ref C) "__getattribute__") (some (some (.builtin "BaseException.__getattribute__"))) && (He.eqO (PySem.W.findIn K (.ref C) "__getattr__") (some none) && (decide (PySem.W.subIn K (.ref C) (.type "BaseException") = some true) && (PySem.W.hasDictIn K C &&
    (He.eqO (PySem.W.findIn K (.ref C) "__class__") (some (some (.builtin "object.__class__"))) && (He.eqO (PySem.W.specialIn K (.builtin "object.__class__") "__get__") (some (some (.builtin "getset_descriptor.__get__"))) && (decide (PySem.W.takesIn K (.builtin "object.__class__") = some true) && decide (PySem.W.mroIn K C (.type "object") = some true)))))))
def xclB (K : PySem.W.Frag) (cs : List Str) (n : List Nat) : Bool := n.all fun c => excB K (He.ga K (cs.getD c "")) && (decide (PySem.W.kitOne K (.ref (He.ga K (cs.getD c ""))) (.type "ValueError") = some true) &&
  (n.all fun k => decide (PySem.W.kitOne K (.ref (He.ga K (cs.getD c ""))) (.ref (He.ga K (cs.getD k ""))) = some (isxB (some k) c)) && decide (PySem.W.exmOne K (.ref (He.ga K (cs.getD c ""))) (.ref (He.ga K (cs.getD k ""))) = some (isxB (some k) c))))
theorem xcl_of {W : Wl} {cs : List Str} {n : List Nat} (hW : ∀ i, W.cad i = He.ga W.K (cs.getD i "")) (h : xclB W.K cs n = true) : Xcl W n := by
  have key := fun c (hc : c ∈ n) => List.all_eq_true.mp h c hc
  have pr : ∀ c, c ∈ n → ∀ k, k ∈ n → (decide (PySem.W.kitOne W.K (.ref (He.ga W.K (cs.getD c ""))) (.ref (He.ga W.K (cs.getD k ""))) = some (isxB (some k) c)) && decide (PySem.W.exmOne W.K (.ref (He.ga W.K (cs.getD c ""))) (.ref (He.ga W.K (cs.getD k ""))) = some (isxB (some k) c))) = true := fun c hc k hk =>
    List.all_eq_true.mp (He.ba (He.ba (key c hc)).2).2 k hk
  refine ⟨fun c hc => ?_, fun c hc k hk => ?_, fun c hc => ?_, fun c hc k hk => ?_⟩
  · have q := (He.ba (key c hc)).1
    unfold excB at q
    obtain ⟨q1, q⟩ := He.ba q
    obtain ⟨q2, q⟩ := He.ba q
    obtain ⟨q3, q⟩ := He.ba q
    obtain ⟨q4, q⟩ := He.ba q
    obtain ⟨q5, q⟩ := He.ba q
    obtain ⟨q6, q⟩ := He.ba q
    obtain ⟨q7, q8⟩ := He.ba q
    rw [hW]
    exact ⟨He.eqO_ok q1, He.eqO_ok q2, of_decide_eq_true q3, q4, He.eqO_ok q5, He.eqO_ok q6, of_decide_eq_true q7, of_decide_eq_true q8⟩
  · rw [hW, hW]; exact of_decide_eq_true (He.ba (pr c hc k hk)).1
  · rw [hW]; exact of_decide_eq_true (He.ba (He.ba (key c hc)).2).1
  · rw [hW, hW]; exact of_decide_eq_true (He.ba (pr c hc k hk)).2
/-! ### the head's facts -/
abbrev Tus : Type := List (Str × List He.Dv)
abbrev Dcs : Type := List (Str × List (Str × He.Dv))
def exB (cs : List Str) (xs : List Nat) (tu : Tus) (dc : Dcs) (tf : List He.Defn) (K : PySem.W.Frag) : Bool := (xclB K cs xs && decide ((tf.map fun p => (He.cT K p).2).Nodup)) && (tu.all (fun t => He.tupB K t.1 t.2) && dc.all fun t => He.valsB K (He.ga K t.1) t.2)
def tsOf (dc : Dcs) : List He.Tab := dc.map fun t => (fun K => He.ga K t.1, t.2.map (·.1))
section
variable {fa : List He.Fa} {fn : List He.DefD} {cs : List Str} {xs : List Nat} {tu : Tus} {dc : Dcs} {tf : List He.Defn} {w : World} {h : Heap} {K : PySem.W.Frag}
theorem sx_d (c : He.SaysX fa fn (tsOf dc) tf (exB cs xs tu dc tf) w h K) : He.SaysD fa fn K := c.t.d
theorem sx_cls (c : He.SaysX fa fn (tsOf dc) tf (exB cs xs tu dc tf) w h K) : xclB K cs xs = true := (He.ba (He.ba c.more).1).1
theorem nodup_inj {α β : Type} {f : α → β} : ∀ {l : List α}, (l.map f).Nodup → ∀ p ∈ l, ∀ q ∈ l, f p = f q → p = q
  | [], _, _, h, _, _, _ => by cases h
  | x :: l, h, p, hp, q, hq, e => by
    rw [List.map_cons, List.nodup_cons] at h
    rcases List.mem_cons.mp hp with h1 | h1 <;> rcases List.mem_cons.mp hq with h2 | h2
    · rw [h1, h2]
    · exact absurd (List.mem_map.mpr ⟨q, h2, by rw [← e, h1]⟩) h.1
    · exact absurd (List.mem_map.mpr ⟨p, h1, by rw [e, h2]⟩) h.1
    · exact nodup_inj h.2 p h1 q h2 e
theorem sx_uni (c : He.SaysX fa fn (tsOf dc) tf (exB cs xs tu dc tf) w h K) : ∀ p ∈ tf, ∀ q ∈ tf, (He.cT K p).2 = (He.cT K q).2 → p = q := nodup_inj (of_decide_eq_true (He.ba (He.ba c.more).1).2)
theorem sx_tup (c : He.SaysX fa fn (tsOf dc) tf (exB cs xs tu dc tf) w h K) (i : Nat) {t : Str × List He.Dv} (e : tu[i]? = some t := by rfl) : He.tupB K t.1 t.2 = true := List.all_eq_true.mp (He.ba (He.ba c.more).2).1 t (List.mem_of_getElem? e)
theorem sx_val (c : He.SaysX fa fn (tsOf dc) tf (exB cs xs tu dc tf) w h K) (i : Nat) {t : Str × List (Str × He.Dv)} (e : dc[i]? = some t := by rfl) : He.valsB K (He.ga K t.1) t.2 = true := List.all_eq_true.mp (He.ba (He.ba c.more).2).2 t (List.mem_of_getElem? e)
theorem sx_dic (c : He.SaysX fa fn (tsOf dc) tf (exB cs xs tu dc tf) w h K) (i : Nat) {t : Str × List (Str × He.Dv)} (e : dc[i]? = some t := by rfl) : He.dicW K (He.ga K t.1) = some (He.keysIn w.params (t.2.map (·.1))) := by
  have z : (tsOf dc).map (fun t => He.dicW K (t.1 K)) = (tsOf dc).map fun t => some (He.keysIn w.params t.2) := congrArg (fun z : He.AlT => z.2) c.t
  have z2 : ((tsOf dc).map fun t => He.dicW K (t.1 K))[i]? = ((tsOf dc).map fun t => some (He.keysIn w.params t.2))[i]? := by rw [z]
  unfold tsOf at z2
  rw [List.map_map, List.map_map, List.getElem?_map, List.getElem?_map, e] at z2
  exact Option.some.inj z2
end
/-- the tables that the world W tracks -/
def tabsOf (tf : List He.Defn) (K : PySem.W.Frag) : List (Addr × Str) := tf.map fun p => ((He.cT K p).2, (p.1 ++ ".<locals>.") ++ "<lambda>")
theorem tabC {P : Program} {w : World} {W : Wl} {mg : Str → Option Value} {base : Heap} {N : List Str} {x : Str} {scope : Scope} {i : Nat} {cdv : Value} {A : Around} {out : List PySem.Env} {s : Shared} {H : Hp} {E : XK} {tf : List He.Defn}
    (hW : W.T = tabsOf tf W.K) (hx : (x, none) ∈ tf) (hf : W.fad i = He.ga W.K x) (hcd : CdOf W.K (W.fad i) x cdv) (TB : ∀ p ∈ tf, LamX.TabB base mg (He.cT W.K p).1 (He.cT W.K p).2) (hu : ∀ p ∈ tf, ∀ q ∈ tf, (He.cT W.K p).2 = (He.cT W.K q).2 → p = q) :
    TabC W (cxB P w W.K mg base N x scope (W.fad i) cdv A out s H E) := by
  obtain ⟨hc, oc, od, fd, osl, lk, hcode⟩ := hcd
  obtain ⟨c, rfl⟩ := He.codeIn_ref hc
  rw [hf] at lk
  have e : He.codeOf W.K (x, none) = c := He.codeOf_eq (p := (x, none)) (show W.K.lookup (He.fAd W.K (x, none)) = _ from lk) hcode
  refine ⟨c, (He.cT W.K (x, none)).2, ?_, rfl, ?_, fun p hp e1 => ?_⟩
  · have z := TB _ hx
    rw [show (He.cT W.K (x, none)).1 = c from e] at z
    exact z
  · rw [hW]
    exact List.mem_map.mpr ⟨(x, none), hx, rfl⟩
  · rw [hW] at hp
    obtain ⟨q, hq, rfl⟩ := List.mem_map.mp hp
    have := hu q hq _ hx e1
    subst this
    rfl
theorem fnX_zero {P : Program} {w : World} {W : Wl} {mg : Str → Option Value} {base : Heap} {n : List Nat} {k : Nat} {f : Addr} {fd : FuncData} {ps : List Str} : FnX P w W mg base n k f fd ps (fun _ => M.bad) :=
  ⟨fun A out s H as us vs Q p c _ _ _ _ _ _ _ h => by
    obtain ⟨_, m, ds, S, _, _, z⟩ := h
    exact (show False from z).elim⟩
theorem fnG_any {gr : Bool} {P : Program} {w : World} {K : PySem.W.Frag} {mg : Str → Option Value} {base : Heap} {k : Nat} {f : Addr} {fd : FuncData} {ps : List Str} {sp : Sp} (F : FnG gr P w K mg base k f fd ps sp) : FnG true P w K mg base k f fd ps sp :=
  ⟨F.len, fun A out s H as us vs Q E r g e0 b v q => F.go A out s H as us vs Q E r (fun _ => g rfl) e0 b v q⟩
end PZ
end
section
/-! Kget: .get(k, x) of a module's dict; .get(k). -/
set_option linter.all false
set_option maxRecDepth 100000
set_option maxHeartbeats 4000000
set_option Elab.async false
namespace PZ
open PySem PySem.Spec PyProof.Rows L2
section
variable {X : Cx} {o e f : Expr} {apos cpos : Pos} {td ty tx : TE} {d : Addr} {es : Array DictEntry} {n : Nat}
def tKGet2 (K : PySem.W.Frag) (d : Addr) (td ty tx : TE) : TE := fun σ H Q => td σ H fun x H1 => x = .ref d ∧ ty σ H1 fun y H2 => tx σ H2 fun z H3 => ∃ (zs : Str) (r : Option Value), y = .str zs ∧ PySem.W.nsIn K d zs = some r ∧ match r with
  | some u0 => ∃ v0, RelV v0 u0 ∧ Q v0 H3
  | none => Q z H3
theorem pe_kget2 (D : KDict X.K X.w d es n) (ho : PE X o td) (he : PE X e ty) (hf : PE X f tx) (m : M2 X o "get" apos e f cpos) : PE X (.Call (.Attribute o "get" apos) [e, f] [] cpos) (tKGet2 X.K d td ty tx) := by
  refine ⟨fun pins s σ H Q I h => ?_⟩
  refine wpAny_Call_method m.base m.few m.line PySem.F.plainAttrs_dict PySem.F.slot_dict_get PySem.F.type_dict_get (thn (ho.run pins s σ H _ I h) fun u s1 ⟨x, H1, I1, rx, ex, q1⟩ => ?_)
  subst ex
  obtain rfl : u = Value.ref d := rx
  have mo := PySem.W.mapOf_K (prog := X.prog) (w := X.w) I1.kIn D.at_ D.lit
  refine ⟨kd_type D I1, fun b q => ?_, ?_⟩
  · cases q
    obtain ⟨ob, _, _, h1, h2, _⟩ := mo
    exact ⟨ob, h1, h2.2.1⟩
  rw [m.trees]
  refine Calls.callWith_builtin rfl (Calls.evalArgs_plain (Calls.spliced_cons (thn (he.run pins s1 σ H1 _ I1 q1) fun iv s2 ⟨y, H2, I2, ry, q2⟩ =>
    Calls.spliced_cons (thn (hf.run pins s2 σ H2 _ I2 q2) fun fv s3 ⟨z, H3, I3, rz, zs, r, ey, en, q3⟩ => Calls.spliced_nil ?_))))
  subst ey
  obtain ⟨t, rfl⟩ := ry
  refine call_meetsIn PySem.F.slot_dict_get (kd_type D I3) PySem.F.entry_dict_get (PySem.F.args_dict_get_3 _ _ _) (meets_dict_get_default (PySem.strKind X.prog X.w) d (PySem.strKind_is X.prog X.w zs t) D.low fv) ⟨_, PySem.W.mapOf_K (prog := X.prog) I3.kIn D.at_ D.lit, ?_⟩
  rw [PySem.W.find_K D.at_ en]
  cases r with
  | none => exact ⟨z, H3, I3.tok _, rz, q3⟩
  | some u0 =>
    obtain ⟨v0, r0, q3⟩ := q3
    exact ⟨v0, H3, I3.tok _, r0, q3⟩
end
section
variable {W : Wl} {Wx : WX} {X : Cx} {G : Glo} {m : Gh} {H : Hp} {S : Sto} {σ : L2.St} {ρ : PZ.Env} {a b e : Expr} {ca cb ce : CE} {apos cpos p : Pos} {x : Str} {n : Nat}
theorem se_ggetD {kvs : List (Tx × D)} (O : Okb W X) (D : GdAt W X.w X.mg x kvs) (hG : G.dct n = kvs) (hg : Gl X x) (ha : SE W Wx X G a ca) (hb : SE W Wx X G b cb) (mm : M2 X (.Name x p) "get" apos a b cpos := by exact ⟨rfl, rfl, rfl, rfl⟩) (hdb : (x == ("__debug__" : Str)) = false := by decide) :
    SE W Wx X G (.Call (.Attribute (.Name x p) "get" apos) [a, b] [] cpos) (.ggetD n ca cb) := by
  obtain ⟨d, es, nn, hmg, kd, hz⟩ := D.ex
  rw [← O.hK] at kd
  refine PE.imp (pe_kget2 kd (pe_glob hg hmg (v := .ref d) rfl hdb) ha hb mm) fun σ H Q h => ?_
  obtain ⟨m, ρ, S, re, rs, p⟩ := h
  show _ ∧ _
  refine ⟨rfl, ?_⟩
  refine tM_bind re rs p fun m1 H1 dd S1 v x1 re1 rs1 r1 p1 => ?_
  refine tM_bind re1 rs1 p1 fun m2 H2 d2 S2 v2 x2 re2 rs2 r2 p2 => ?_
  obtain ⟨k, ek, q⟩ := PostA.opt rs2 p2
  cases dd <;> try (cases ek; done)
  rename_i t
  obtain ⟨y, rfl, ey, _⟩ := r1.val.str
  have h1 := hz y
  cases ek
  rw [ey, ← hG] at h1
  rw [← O.hK] at h1
  have q : KV1 W Q m2 H2 (((G.dct n).lookup t).getD d2) S2 := q
  cases e : (G.dct n).lookup t with
  | none =>
    rw [e] at h1 q
    exact ⟨y, none, rfl, h1, q v2 r2⟩
  | some k =>
    rw [e] at h1 q
    obtain ⟨u, v, h2, h3, h4⟩ := h1
    exact ⟨y, some u, rfl, h2, v, h3, q v (h4 m2 H2)⟩
end
end PZ
end
section
/-! Par3: x, y, z = a, b, c. -/
set_option linter.all false
set_option maxRecDepth 100000
set_option maxHeartbeats 4000000
set_option Elab.async false
namespace PZ
open PySem PySem.Spec PyProof.Rows L2
section
variable {W : Wl} {Wx : WX} {X : Cx} {G : Glo} {m : Gh} {H : Hp} {S : Sto} {σ : L2.St} {ρ : PZ.Env} {a b c : Expr} {pos : Pos} {x y z : Str}
theorem bindT_vn {n : Nat} {d : PZ.D} : bindT (.v n) d ρ = if n < ρ.length then some (ρ.set n (some d)) else none := rfl
theorem bind3 {i j l : Nat} {d e f : PZ.D} {ρ' : PZ.Env} (h : bindT (.t (.cons (.v i) (.cons (.v j) (.cons (.v l) .nil)))) (.tup [d, e, f]) ρ = some ρ') : ρ' = ((ρ.set i (some d)).set j (some e)).set l (some f) := by
  have h : (match bindT (.v i) d ρ with
    | some ρ1 => match bindT (.v j) e ρ1 with
      | some ρ2 => match bindT (.v l) f ρ2 with
        | some ρ3 => some ρ3
        | none => none
      | none => none
    | none => none) = some ρ' := h
  simp only [bindT_vn] at h
  by_cases h1 : i < ρ.length
  · simp only [h1, if_true] at h
    by_cases h2 : j < (ρ.set i (some d)).length
    · simp only [h2, if_true] at h
      by_cases h3 : l < ((ρ.set i (some d)).set j (some e)).length
      · simp only [h3, if_true] at h
        exact (Option.some.inj h).symm
      · simp only [h3, if_false] at h; cases h
    · simp only [h2, if_false] at h; cases h
  · simp only [h1, if_false] at h; cases h
theorem Reps.three {vs : List V} {d e f : PZ.D} (r : Reps W m H vs [d, e, f]) : ∃ u v w, vs = [u, v, w] ∧ Rep W m H u d ∧ Rep W m H v e ∧ Rep W m H w f := by
  cases r with
  | cons r t => cases t with
    | cons r' t => cases t with
      | cons r2 t => cases t; exact ⟨_, _, _, rfl, r, r', r2⟩
theorem ss_par3 {i j l : Nat} {px py pz pt : Pos} {kt k2 pt2} {ca cb cc : CE} (O : Okx W Wx X) (hi : X.N[i]? = some x) (hj : X.N[j]? = some y) (hl : X.N[l]? = some z) (hij : i ≠ j) (hil : i ≠ l) (hjl : j ≠ l)
    (hx : X.env.scope.names.lookup x = some .local) (hy : X.env.scope.names.lookup y = some .local) (hz : X.env.scope.names.lookup z = some .local) (ha : SA W Wx X G [a, b, c] (.cons ca (.cons cb (.cons cc .nil))))
    (hw : swappedStores [.Tuple [.Name x px, .Name y py, .Name z pz] kt pt] (.Tuple [a, b, c] k2 pt2) X.env = pure (some [x, y, z]) := by rfl)
    (hs : swapsWithSole [.Tuple [.Name x px, .Name y py, .Name z pz] kt pt] (.Tuple [a, b, c] k2 pt2) pos.line X.env = pure false := by rfl) :
    SS W Wx X G (.Assign [.Tuple [.Name x px, .Name y py, .Name z pz] kt pt] (.Tuple [a, b, c] k2 pt2) pos) (.asg (.t (.cons (.v i) (.cons (.v j) (.cons (.v l) .nil)))) (.tup (.cons ca (.cons cb (.cons cc .nil))))) := by
  refine PS.imp (ps_par3 O.calm O.nd hi hj hl hij hil hjl hx hy hz ha hw hs) fun D σ H h => ?_
  obtain ⟨m, ρ, S, re, rs, p⟩ := h
  have p' : PostS W Wx m H (RS.of (ev G (.tup (.cons ca (.cons cb (.cons cc .nil)))) ρ S) ρ fun x s => match bindT (.t (.cons (.v i) (.cons (.v j) (.cons (.v l) .nil)))) x ρ with
    | some ρ' => .nx ρ' s
    | none => .bad) D := p
  rw [of_tup] at p'
  refine tL_stm re rs p' fun m1 H1 ds S1 vs hd x1 re1 rs1 r1 p1 => ?_
  have hl3 : ds.length = 3 := hd
  match ds, r1, hl3, p1 with
  | [d, e, f], r1, _, p1 =>
    obtain ⟨u, v, w, rfl, r, r', r2⟩ := r1.three
    refine ⟨u, v, w, rfl, ?_⟩
    revert p1
    cases hb : bindT (.t (.cons (.v i) (.cons (.v j) (.cons (.v l) .nil)))) (.tup [d, e, f]) ρ with
    | none => exact fun p1 => p1.elim
    | some ρ' =>
      intro p1
      have e1 := bind3 hb
      subst e1
      exact p1 m1 H1 _ (Ext.refl _ _) rs1 (((re1.set r).set r').set r2)
end
end PZ
end
section
/-! Hd: x, *y = a list or a tuple. -/
set_option linter.all false
set_option maxRecDepth 100000
set_option maxHeartbeats 4000000
set_option Elab.async false
namespace PZ
open PySem PySem.Spec PySem.Calls PyProof.Rows L2
section
variable {X : Cx} {pos p2 : Pos} {a b : Expr} {t : TGs}
def gHd (K : PySem.W.Frag) (t : TGs) : TG := fun v σ H Q => ∃ ad x0 xs, v = .ref ad ∧ (SqL K H ad (x0 :: xs) ∨ SqT K H ad (x0 :: xs)) ∧ ∀ p, H p = none → t [x0, .ref p] σ (upd H p (.lst xs)) Q
theorem pg_hd {k : Nat} (hc : X.calm = true) (h : PGs X [a, b] t) (ht : (assignEach [a, .Starred b p2] X.env).map (·.2) = (assignEach [a, b] X.env).map (·.2) := by rfl)
    (hn : (assignEach [a, .Starred b p2] X.env).length = 2 := by rfl) (hst : (assignEach [a, .Starred b p2] X.env).findIdx? (·.1) = some 1 := by rfl) : PG X (.Tuple [a, .Starred b p2] k pos) (gHd X.K t) := by
  refine ⟨fun pins s σ H v u Q I r hw => ?_⟩
  obtain ⟨ad, x0, xs, e1, hq, hw⟩ := hw
  subst e1
  cases r
  have fin : ∀ (y0 : Value) (ys : List Value) (h2 : Heap) (tk : Nat), RelV x0 y0 → Vals xs ys → xs.length ≤ sizeLine → (∀ b o, s.heap.get? b = some o → h2.get? b = some o) →
      wpAny (model X.prog X.w) X.A (newList ys >>= fun d => pure ([y0] ++ [d] ++ [])) (fun vs s1 => wpAny (model X.prog X.w) X.A (assignInOrder ((assignEach [a, .Starred b p2] X.env).map (·.2)) vs) (fun _ s' => ∃ σ' H', Inv X pins σ' H' s' ∧ Q σ' H') X.xe s1) X.xe { s with heap := h2, toks := tk } := by
    intro y0 ys h2 tk r0 rs hz hk
    have I1 : Inv X pins σ H { s with heap := h2, toks := tk } := I.kept hk
    refine wpAny_bind (wpAny_newList ?_ (by rw [← rs.length]; exact hz))
    have I2 := I1.laid (a := h2.objs.size) (o := .lst xs) (h' := h2.push (seqObj "list" ys.toArray 0)) (t' := tk) (fun b u e => Heap.get?_push_of_some _ e) (Nat.le_refl _)
      (show ObjOk X.prog X.w _ _ _ (.lst xs) from ⟨hz, ys, 0, rs, Heap.get?_push_size _ rfl⟩)
    refine wpAny_pure ?_
    rw [ht]
    exact h.run pins _ σ _ [x0, .ref h2.objs.size] [y0, .ref h2.objs.size] Q I2 (.cons r0 (.cons rfl .nil)) (hw _ (I1.hok.fresh (Nat.le_refl _)))
  rw [PyProof.Rows.assign_Tuple]
  refine wpAny_bind (wpAny_standAt ?_)
  unfold unpack
  rw [hn, hst]
  refine wpAny_bind (wpAny_holding ?_)
  have hh := I.ok.hd hc
  have key : ∀ (its : List Value), Vals (x0 :: xs) its → ∃ y0 ys, its = y0 :: ys ∧ RelV x0 y0 ∧ Vals xs ys := by
    intro its rv
    cases rv with
    | cons r t => exact ⟨_, _, rfl, r, t⟩
  rcases hq with hq | hq
  · obtain ⟨its, rv, pl, hz⟩ := I.list hq
    obtain ⟨y0, ys, rfl, r0, rs⟩ := key its rv
    have hl : s.heap.IsList ad (y0 :: ys).toArray := by
      obtain ⟨o, m, e, c, d, q⟩ := pl
      exact ⟨o, e, c, m, q⟩
    have hlt : ad ≠ s.heap.objs.size := by obtain ⟨o, ho, _⟩ := hl; exact Nat.ne_of_lt (Heap.lt_size ho)
    have hsz : (y0 :: ys).toArray.size = xs.length + 1 := by rw [List.size_toArray, List.length_cons, ← rs.length]
    unfold unpackItems
    refine wpAny_bind ?_
    unfold notIterableAtAll
    refine wpAny_bind (wpAny_specialOf hl.typeIs slot_list_iter.lookup ?_)
    refine wpAny_pure ?_
    simp only [Bool.false_eq_true, if_false]
    refine wpAny_bind (wpAny_holding (wpAny_pyIter_list hl ?_))
    refine wpAny_bind (wpAny_holding (PySem.W.kun_draw hlt 1 0 _ _ ⟨_, Heap.get?_push_size _ rfl, rfl, rfl⟩ (hl.push _) (by omega) fun h₁ hit₁ hs₁ => ?_))
    have hl₁ : h₁.IsList ad (y0 :: ys).toArray := (hl.push _).extBut hs₁.extBut hlt
    rw [Nat.zero_add] at hit₁
    have hit₁' := hit₁
    obtain ⟨oi, hoi, _⟩ := hit₁'
    have hl₁' := hl₁
    obtain ⟨ol, hol, _⟩ := hl₁'
    show wpAny _ _ (if ([y0] : List Value).length < 1 then _ else _) _ _ _
    rw [if_neg (show ¬ (([y0] : List Value).length < 1) from Nat.lt_irrefl _)]
    refine wpAny_bind (wpAny_holding (PySem.W.kun_collect (s := { s with heap := h₁ }) (T := "list_iterator") (.inr (.inr (.inl rfl))) (Walks.list (A := X.A.in1) hh s.heap.objs.size ad hlt (y0 :: ys).toArray) (fun j u st => st.1.typeIs) (k := 1) (by omega) ⟨hit₁, hl₁⟩ (Heap.lt_size hoi) (Heap.lt_size hol) (fun h₂ tk hk => ?_) (by rw [hsz]; exact hz)))
    show wpAny _ _ (if ys.length < 0 then _ else _) _ _ _
    rw [if_neg (Nat.not_lt_zero _)]
    show wpAny _ _ (newList (ys.take (ys.length - 0)) >>= fun d => pure ([y0] ++ [d] ++ ys.drop (ys.length - 0))) _ _ _
    rw [Nat.sub_zero, List.take_length, List.drop_length]
    exact fin y0 ys h₂ tk r0 rs (by have := hz; simp only [List.length_cons] at this; omega) fun b o e => hk b o (Nat.ne_of_lt (Heap.lt_size e)) (hs₁.extBut b o (Nat.ne_of_lt (Heap.lt_size e)) (Heap.get?_push_of_some _ e))
  · obtain ⟨its, rv, pl, hz⟩ := I.tuple hq
    obtain ⟨y0, ys, rfl, r0, rs⟩ := key its rv
    have hl : IsTup s.heap ad (y0 :: ys).toArray := by simpa using pl
    have hlt : ad ≠ s.heap.objs.size := by obtain ⟨o, ho, _⟩ := hl; exact Nat.ne_of_lt (Heap.lt_size ho)
    have hsz : (y0 :: ys).toArray.size = xs.length + 1 := by rw [List.size_toArray, List.length_cons, ← rs.length]
    unfold unpackItems
    refine wpAny_bind ?_
    unfold notIterableAtAll
    refine wpAny_bind (wpAny_specialOf hl.typeIs slot_tuple_iter.lookup ?_)
    refine wpAny_pure ?_
    simp only [Bool.false_eq_true, if_false]
    refine wpAny_bind (wpAny_holding (iter_tuple hl ?_))
    refine wpAny_bind (wpAny_holding (draw_tuple hlt 1 0 _ _ ⟨_, Heap.get?_push_size _ rfl, rfl, rfl⟩ (hl.push _) (by omega) fun h₁ hit₁ hs₁ => ?_))
    have hl₁ : IsTup h₁ ad (y0 :: ys).toArray := (hl.push _).extBut hs₁.extBut hlt
    rw [Nat.zero_add] at hit₁
    have hit₁' := hit₁
    obtain ⟨oi, hoi, _⟩ := hit₁'
    have hl₁' := hl₁
    obtain ⟨ol, hol, _⟩ := hl₁'
    show wpAny _ _ (if ([y0] : List Value).length < 1 then _ else _) _ _ _
    rw [if_neg (show ¬ (([y0] : List Value).length < 1) from Nat.lt_irrefl _)]
    refine wpAny_bind (wpAny_holding (PySem.W.kun_collect (s := { s with heap := h₁ }) (T := "tuple_iterator") (.inr (.inr (.inr rfl))) (Walks.tuple (A := X.A.in1) hh s.heap.objs.size ad hlt (y0 :: ys).toArray) (fun j u st => st.1.typeIs) (k := 1) (by omega) ⟨hit₁, hl₁⟩ (Heap.lt_size hoi) (Heap.lt_size hol) (fun h₂ tk hk => ?_) (by rw [hsz]; exact hz)))
    show wpAny _ _ (if ys.length < 0 then _ else _) _ _ _
    rw [if_neg (Nat.not_lt_zero _)]
    show wpAny _ _ (newList (ys.take (ys.length - 0)) >>= fun d => pure ([y0] ++ [d] ++ ys.drop (ys.length - 0))) _ _ _
    rw [Nat.sub_zero, List.take_length, List.drop_length]
    exact fin y0 ys h₂ tk r0 rs (by have := hz; simp only [List.length_cons] at this; omega) fun b o e => hk b o (Nat.ne_of_lt (Heap.lt_size e)) (hs₁.extBut b o (Nat.ne_of_lt (Heap.lt_size e)) (Heap.get?_push_of_some _ e))
end
section
variable {W : Wl} {Wx : WX} {X : Cx} {G : Glo} {m : Gh} {H : Hp} {S : Sto} {σ : L2.St} {ρ : PZ.Env} {e : Expr} {ce : CE} {pos p2 : Pos} {x y : Str}
/-- x, *y = e -/
theorem ss_hd {i j k : Nat} {px py pt : Pos} (O : Okx W Wx X) (hi : X.N[i]? = some x) (hj : X.N[j]? = some y) (he : SE W Wx X G e ce)
    (hx : Loc X.env.scope x := by first | exact Or.inl rfl | exact Or.inr rfl) (hfx : X.fn x = true ∨ X.env.scope.names.lookup x = some .local := by first | exact .inl rfl | exact .inr rfl | assumption)
    (hy : Loc X.env.scope y := by first | exact Or.inl rfl | exact Or.inr rfl) (hfy : X.fn y = true ∨ X.env.scope.names.lookup y = some .local := by first | exact .inl rfl | exact .inr rfl | assumption)
    (ht : (assignEach [.Name x px, .Starred (.Name y py) p2] X.env).map (·.2) = (assignEach [.Name x px, .Name y py] X.env).map (·.2) := by rfl)
    (hn : (assignEach [.Name x px, .Starred (.Name y py) p2] X.env).length = 2 := by rfl) (hst : (assignEach [.Name x px, .Starred (.Name y py) p2] X.env).findIdx? (·.1) = some 1 := by rfl)
    (hs2 : (assignEach [.Name x px, .Name y py] X.env).map (·.2) = assign (.Name x px) X.env :: (assignEach [.Name y py] X.env).map (·.2) := by rfl)
    (hs3 : (assignEach [.Name y py] X.env).map (·.2) = assign (.Name y py) X.env :: (assignEach [] X.env).map (·.2) := by rfl)
    (hs : swapsWithSole [.Tuple [.Name x px, .Starred (.Name y py) p2] k pt] e pos.line X.env = pure false := by rfl) (hw : swappedStores [.Tuple [.Name x px, .Starred (.Name y py) p2] k pt] e X.env = pure none := by rfl)
    (h1 : (assignEach [.Tuple [.Name x px, .Starred (.Name y py) p2] k pt] X.env).map (·.2) = [assign (.Tuple [.Name x px, .Starred (.Name y py) p2] k pt) X.env] := by rfl) :
    SS W Wx X G (.Assign [.Tuple [.Name x px, .Starred (.Name y py) p2] k pt] e pos) (.asg (.hd i j) ce) := by
  have gs : SGs W X [.Name x px, .Name y py] (.cons (.v i) (.cons (.v j) .nil)) := sgs_cons (sg_v O.nd hi hx hfx) (sgs_cons (sg_v O.nd hj hy hfy) sgs_nil hs3) hs2
  refine PS.imp (ps_asg he (pg_hd O.calm gs ht hn hst) hs hw h1) fun D σ H h => ?_
  obtain ⟨m, ρ, S, re, rs, p⟩ := h
  refine tM_stm re rs p fun m1 H1 d S1 v x1 re1 rs1 r1 p1 => ?_
  cases hb : bindT (.hd i j) d ρ with
  | none => rw [hb] at p1; exact p1.elim
  | some ρ' =>
    rw [hb] at p1
    simp only [bindT] at hb
    cases hu : unp d with
    | none => rw [hu] at hb; cases hb
    | some ds =>
      rw [hu] at hb
      cases ds with
      | nil => cases hb
      | cons d0 ds =>
        simp only at hb
        by_cases hij : i < ρ.length ∧ j < ρ.length
        · rw [if_pos hij] at hb
          cases hb
          have key : ∀ (ad : Addr) (ys : List V), v = .ref ad → (SqL X.K H1 ad ys ∨ SqT X.K H1 ad ys) → Reps W m1 H1 ys (d0 :: ds) → gHd X.K (tGs W (.cons (.v i) (.cons (.v j) .nil))) v σ H1 D.nx := by
            intro ad ys ev hq rr
            have inv : ∃ v0 xs, ys = v0 :: xs ∧ Rep W m1 H1 v0 d0 ∧ Reps W m1 H1 xs ds := by
              cases rr with
              | cons r0 rt => exact ⟨_, _, rfl, r0, rt⟩
            obtain ⟨v0, xs, rfl, r0, rt⟩ := inv
            · refine ⟨ad, v0, xs, ev, hq, fun p hp => ?_⟩
              have hx := ext_new (m := m1) (o := .lst xs) hp
              have rl : Rep W m1 (upd H1 p (.lst xs)) (.ref p) (.lst ds) := .lst (rs1.out hp) upd_same (rt.ext hx)
              refine ⟨m1, ρ, [d0, .lst ds], (ρ.set i (some d0)).set j (some (.lst ds)), re1.ext hx, .cons (r0.ext hx) (.cons rl .nil), ?_, fun σ' re' _ => p1 m1 _ σ' hx (rs1.new hp) re'⟩
              simp only [bindTs, bindT, if_pos hij.1, List.length_set, if_pos hij.2]
          cases d <;> try (cases hu; done)
          · cases hu
            obtain ⟨a, xs, rfl, t, r'⟩ := r1.val.tup
            exact key a xs rfl (.inr (by rw [O.hK]; exact t.sq)) r'
          · cases hu
            obtain ⟨a, xs, rfl, t, r'⟩ := r1.val.lst
            exact key a xs rfl (.inl (.of t)) r'
          · cases hu
            obtain ⟨a, xs, rfl, _, t, r'⟩ := r1.val.kt
            exact key a xs rfl (.inr (.of t)) r'
        · rw [if_neg hij] at hb; cases hb
end
end PZ
end
section
/-! Disp: {"a": "b", ..} of constants; d.get(k). -/
set_option linter.all false
set_option maxRecDepth 100000
set_option maxHeartbeats 4000000
set_option Elab.async false
namespace PZ
open PySem PySem.Spec PyProof.Rows L2
section
variable {W : Wl} {Wx : WX} {X : Cx} {G : Glo} {m m' : Gh} {H H' : Hp} {S : Sto} {σ : L2.St} {ρ : PZ.Env} {e o : Expr} {ce co : CE} {pos apos cpos : Pos}
theorem ty_get1 {d : D} (h : ∃ s', meTy .get1 d S = .ok () s') : meTy .get1 d S = .ok () S ∧ ∃ n t kvs, d = .ref n ∧ S[n]? = some (.dic t false kvs) := by
  obtain ⟨s', h⟩ := h
  cases d <;> try (cases h; done)
  rename_i n
  simp only [meTy] at h ⊢
  cases z : S[n]? with
  | none => rw [z] at h; cases h
  | some o =>
    rw [z] at h
    cases o with
    | lst l => cases h
    | ins c fs => cases h
    | dic t lk kvs =>
      cases lk with
      | true => cases h
      | false => exact ⟨rfl, n, t, kvs, rfl, z⟩
theorem se_get1 (O : Okx W Wx X) (ho : SE W Wx X G o co) (he : SE W Wx X G e ce) (mm : M1 X o "get" apos e cpos := by exact ⟨rfl, rfl, rfl, rfl⟩) : SE W Wx X G (.Call (.Attribute o "get" apos) [e] [] cpos) (.me .get1 co (.cons ce .nil)) := by
  refine PE.imp (pe_dget1 (Nat.lt_of_le_of_lt (Nat.add_le_add_left (by decide : 1 ≤ 65) _) O.hu) ho he mm) fun σ H Q h => ?_
  obtain ⟨m, ρ, S, re, rs, p⟩ := h
  refine tM_bind re rs p fun m1 H1 d S1 v x1 re1 rs1 r1 p1 => ?_
  have p1' : PostA W Wx σ m1 H1 ((meTy .get1 d S1).bind fun _ => (evs G (.cons ce .nil) ρ).bind fun xs => meM .get1 d xs) (KV1 W Q) := p1
  cases z : meTy .get1 d S1 with
  | exc c s => exact absurd z (meTy_nox .get1 d c s)
  | bad => rw [z] at p1'; exact p1'.elim
  | ok u s' =>
    obtain ⟨e1, n, t, kvs, rfl, hn⟩ := ty_get1 ⟨s', z⟩
    rw [e1] at p1'
    have p2 : PostA W Wx σ m1 H1 (((evs G (.cons ce .nil) ρ).bind fun xs => meM .get1 (.ref n) xs) S1) (KV1 W Q) := p1'
    rw [one_bind] at p2
    obtain ⟨a, rfl, ha⟩ := r1.refV
    obtain ⟨o1, ho1, q1⟩ := rs1.at ha
    rw [hn] at ho1; cases ho1
    refine ⟨a, rfl, isD_of q1, ?_⟩
    refine tM_bind re1 rs1 p2 fun m3 H3 kd S3 y x3 re3 rs3 r3 p4 => ?_
    have ha3 := x3.get ha
    obtain ⟨o3, ho3, q3⟩ := rs3.at ha3
    simp only [meM, ho3] at p4
    cases o3 with
    | lst l => exact p4.elim
    | ins c fs => exact p4.elim
    | dic t3 lk3 kvs3 =>
      simp only at p4
      split at p4
      · rename_i hk
        obtain ⟨ov, dg, hrel⟩ := dget_rep q3 r3 hk
        refine ⟨ov, dg, ?_⟩
        obtain ⟨_, g1, g2⟩ := hrel
        cases hg : kget kvs3 kd with
        | none =>
          rw [hg] at p4
          rw [g2 hg]
          exact p4 m3 H3 (Ext.refl _ _) rs3 _ .non
        | some wd =>
          rw [hg] at p4
          obtain ⟨v, rfl, rv⟩ := g1 wd hg
          exact p4 m3 H3 (Ext.refl _ _) rs3 _ rv
      · exact p4.elim
/-! ### displays of constants -/
def txCEs : List Tx → CEs
  | [] => .nil
  | t :: ts => .cons (.c (.str t)) (txCEs ts)
theorem evs_tx : ∀ ts : List Tx, evs G (txCEs ts) ρ S = .ok (ts.map .str) S
  | [] => rfl
  | t :: ts => by
    show R.bind (.ok (.str t) S) (fun x => (evs G (txCEs ts) ρ).bind fun xs => M.ret (x :: xs)) = _
    show R.bind (evs G (txCEs ts) ρ S) (fun xs => M.ret (D.str t :: xs)) = _
    rw [evs_tx ts]; rfl
theorem tp_con : ∀ (L : List (Str × Str)) (σ : L2.St) (H : Hp) (Q : List (V × V) → Hp → Prop), tPairs (L.map fun p => (tC (V.str p.1), tC (V.str p.2))) σ H Q ↔ Q (L.map fun p => (V.str p.1, V.str p.2)) H
  | [], _, _, _ => Iff.rfl
  | p :: L, σ, H, Q => tp_con L σ H fun ps H3 => Q ((V.str p.1, V.str p.2) :: ps) H3
def okS (x : Str) : Bool := x.cps.all (· < 0x110000)
theorem merge_rel : ∀ (L : List (Str × Str)) {ks : List (Key × V)} {kvs : List (D × D)}, (L.all fun p => okS p.1 && okS p.2) = true → KvR W m H ks kvs →
    KvR W m H (mergeK ks (L.map fun p => (Sum.inr p.1, V.str p.2))) (mergeKv kvs (pairUp ((L.map fun p => p.1.cps.toList).map .str) ((L.map fun p => p.2.cps.toList).map .str)))
  | [], _, _, _, q => q
  | p :: L, ks, kvs, h, q => by
    simp only [List.all_cons, Bool.and_eq_true] at h
    refine merge_rel L (by simpa using h.2) (put_rel (k := Sum.inr p.1) ⟨rfl, h.1.1⟩ (.str rfl h.1.2) q)
theorem se_disp {L : List (Str × Str)} {keys : List (Option Expr)} {values : List Expr} {ks vs : List Tx} (h : PPs X pos keys values (L.map fun p => (tC (V.str p.1), tC (V.str p.2)))) (hk : L.map (fun p => p.1.cps.toList) = ks := by rfl) (hv : L.map (fun p => p.2.cps.toList) = vs := by rfl)
    (ok : (L.all fun p => okS p.1 && okS p.2) = true := by decide +kernel) (hall : keys.all (·.isSome) = true := by rfl) (hl : keys.length = values.length := by rfl) (h0 : keys ≠ [] := by exact fun z => nomatch z) (h15 : keys.length ≤ 15 := by decide) (hL : L.length ≤ 15 := by decide) :
    SE W Wx X G (.Dict keys values pos) (.dict false (txCEs ks) (txCEs vs)) := by
  subst hk hv
  refine PE.imp (pe_disp h hall hl h0 h15) fun σ H Q h => ?_
  obtain ⟨m, ρ, S, re, rs, p⟩ := h
  intro q hq
  rw [tp_con]
  refine ⟨upd_same, L.map fun p => (Sum.inr p.1, V.str p.2), by rw [List.map_map]; rfl, by rw [List.length_map]; exact hL, ?_⟩
  rw [upd_upd]
  have p' : PostA W Wx σ m H ((R.bind (evs G (txCEs (L.map fun p => p.1.cps.toList)) ρ S) fun xs => (evs G (txCEs (L.map fun p => p.2.cps.toList)) ρ).bind fun ys => fun s =>
      if xs.all (keyOk false) = true then .ok (.ref s.length) (s ++ [.dic false false (mergeKv [] (pairUp xs ys))]) else .bad) : PZ.R D) (KV1 W Q) := p
  rw [evs_tx] at p'
  have p2 : PostA W Wx σ m H ((R.bind (evs G (txCEs (L.map fun p => p.2.cps.toList)) ρ S) fun ys => fun s =>
      if (((L.map fun p => p.1.cps.toList).map D.str).all (keyOk false)) = true then .ok (.ref s.length) (s ++ [.dic false false (mergeKv [] (pairUp ((L.map fun p => p.1.cps.toList).map D.str) ys))]) else .bad) : PZ.R D) (KV1 W Q) := p'
  rw [evs_tx] at p2
  have ka : (((L.map fun p => p.1.cps.toList).map D.str).all (keyOk false)) = true := by
    rw [List.all_eq_true]
    intro x hx
    obtain ⟨t, _, rfl⟩ := List.mem_map.mp hx
    rfl
  have p3 : PostA W Wx σ m H ((if (((L.map fun p => p.1.cps.toList).map D.str).all (keyOk false)) = true then .ok (.ref S.length) (S ++ [.dic false false (mergeKv [] (pairUp ((L.map fun p => p.1.cps.toList).map D.str) ((L.map fun p => p.2.cps.toList).map D.str)))]) else .bad) : PZ.R D) (KV1 W Q) := p2
  rw [if_pos ka] at p3
  refine p3 (m.push q) _ (ext_push hq) (rs.push hq ⟨_, upd_same, merge_rel L ok .nil⟩) _ (.ref ?_)
  show (m.l ++ [q])[_]? = _
  rw [← rs.len, List.getElem?_append_right (Nat.le_refl _), Nat.sub_self]; rfl
end
end PZ
end
section
/-! SetN: a small set of nested tuples: adding, how many. -/
set_option linter.all false
set_option maxRecDepth 100000
set_option maxHeartbeats 4000000
set_option Elab.async false
namespace PZ
open PySem PySem.Spec PyProof.Rows L2
/-- a key of whole numbers and tuples -/
abbrev NKd (P : Program) (w : World) : HeapKind P w NestedKey := nestedKind P w
abbrev nh (w : World) (k : NestedKey) : Int := k.hash w
section
variable {P : Program} {w : World} {A : Around} {E : Value → Shared → Prop} {s : Shared}
/-! ### asked of a key: does a class of the text stand in it, is it hashed by value -/
def CalmAt (P : Program) (w : World) (n : Nat) (s : Shared) (v : Value) : Prop := ∀ (A : Around) (E : Value → Shared → Prop),
  (∀ Q : Bool → Shared → Prop, Q false s → wpAny (model P w) A (ofAClassStatement n v) Q E s) ∧ ∀ Q : Bool → Shared → Prop, (∀ b, Q b s) → wpAny (model P w) A (hashByValue n v) Q E s
theorem calm_flat {n : Nat} {v : Value} (h1 : ofAClassStatement n v = pure false) {b : Bool} (h2 : hashByValue n v = pure b) : CalmAt P w n s v := fun A E =>
  ⟨fun Q q => by rw [h1]; exact wpAny_pure q, fun Q q => by rw [h2]; exact wpAny_pure (q b)⟩
/-- asked of each in turn, the first that isn't ends it -/
theorem each_hash {n : Nat} {Q : Bool → Shared → Prop} (q : ∀ b, Q b s) : ∀ (l : List Value), (∀ v ∈ l, CalmAt P w n s v) →
    wpAny (model P w) A (forIn l ((none, ()) : Option Bool × Unit) fun x r => do
      if !(← hashByValue n x) then pure (ForInStep.done (some false, ())) else pure (ForInStep.yield (none, ()))) (fun r s' => s' = s ∧ (r.1 = none ∨ r.1 = some false)) E s
  | [], _ => wpAny_pure ⟨rfl, .inl rfl⟩
  | v :: l, h => by
    rw [List.forIn_cons]
    refine wpAny_bind (wpAny_bind ((h v List.mem_cons_self A E).2 _ fun b => ?_))
    cases b
    · exact wpAny_pure (wpAny_pure ⟨rfl, .inr rfl⟩)
    · exact wpAny_pure (each_hash q l fun u hu => h u (List.mem_cons_of_mem _ hu))
theorem each_cls {n : Nat} : ∀ (l : List Value), (∀ v ∈ l, CalmAt P w n s v) →
    wpAny (model P w) A (forIn l ((none, ()) : Option Bool × Unit) fun x r => do
      if ← ofAClassStatement n x then pure (ForInStep.done (some true, ())) else pure (ForInStep.yield (none, ()))) (fun r s' => s' = s ∧ r.1 = none) E s
  | [], _ => wpAny_pure ⟨rfl, rfl⟩
  | v :: l, h => by
    rw [List.forIn_cons]
    refine wpAny_bind (wpAny_bind ((h v List.mem_cons_self A E).1 _ ?_))
    exact wpAny_pure (each_cls l fun u hu => h u (List.mem_cons_of_mem _ hu))
theorem calm_tup {n : Nat} {a : Addr} {o : Obj} {vs : Array Value} {m : Nat} (ho : s.heap.get? a = some o) (hc : o.cls = .type "tuple") (hd : o.data = .seq vs m) (h : ∀ v ∈ vs.toList, CalmAt P w n s v) : CalmAt P w (n + 1) s (.ref a) := by
  have hT : s.TypeIs (.ref a) "tuple" := ⟨o, ho, hc⟩
  refine fun A E => ⟨fun Q q => ?_, fun Q q => ?_⟩
  · unfold ofAClassStatement
    refine wpAny_bind (wpAny_typeOf hT ?_)
    have e : (("tuple" : String) == "tuple") = true := by decide
    simp only [e, if_true, Bool.not_true, Bool.false_eq_true, if_false, pure_bind]
    refine wpAny_bind (wpAny_seqItems ho hd ?_)
    dsimp only
    refine wpAny_bind ?_
    show wpAny _ _ (forIn vs _ _) _ _ s
    rw [← Array.forIn_toList]
    refine wpAny_mono (each_cls vs.toList h) (fun r s' z => ?_) fun _ _ z => z
    obtain ⟨rfl, z⟩ := z
    obtain ⟨r1, r2⟩ := r
    cases z
    exact wpAny_pure q
  · unfold hashByValue
    refine wpAny_bind (wpAny_specialOf hT F.slot_tuple_hash.lookup ?_)
    show wpAny _ _ (seqItems? (.ref a) >>= _) _ _ s
    refine wpAny_bind (wpAny_seqItems ho hd ?_)
    refine wpAny_bind ?_
    show wpAny _ _ (forIn vs _ _) _ _ s
    rw [← Array.forIn_toList]
    refine wpAny_mono (each_hash q vs.toList h) (fun r s' z => ?_) fun _ _ z => z
    obtain ⟨rfl, z⟩ := z
    obtain ⟨r1, r2⟩ := r
    rcases z with z | z <;> cases z
    · exact wpAny_pure (q true)
    · exact wpAny_pure (q false)
mutual
theorem calm_key : ∀ (k : NestedKey) (v : Value) (n : Nat), NestedIs s.heap k v → k.depth ≤ n → CalmAt P w n s v
  | .none, _, n, x, _ => by cases x; exact calm_flat (by cases n <;> rfl) (b := true) (by cases n <;> rfl)
  | .num i, _, n, x, _ => by cases x <;> exact calm_flat (by cases n <;> rfl) (b := true) (by cases n <;> rfl)
  | .text y, _, n, x, _ => by cases x; exact calm_flat (by cases n <;> rfl) (b := false) (by cases n <;> rfl)
  | .tup ks, _, n, x, hn => by
    cases x with
    | tup hg hc hd hk =>
      simp only [NestedKey.depth] at hn
      cases n with
      | zero => omega
      | succ n => exact calm_tup hg hc hd (calm_keys ks _ n hk (by omega))
theorem calm_keys : ∀ (ks : List NestedKey) (vs : List Value) (n : Nat), NestedAll s.heap ks vs → NestedKey.depthAll ks ≤ n → ∀ v ∈ vs, CalmAt P w n s v
  | [], _, n, x, _, v, hv => by cases x; cases hv
  | k :: ks, _, n, x, hn, v, hv => by
    cases x with
    | cons x1 x2 =>
      simp only [NestedKey.depthAll] at hn
      rcases List.mem_cons.mp hv with e | hv
      · rw [e]; exact calm_key k _ n x1 (by omega)
      · exact calm_keys ks _ n x2 (by omega) v hv
end
/-- the tuple at a is the key k -/
abbrev IsN (h : Heap) (k : NestedKey) (a : Addr) : Prop := NestedIs h k (.ref a) ∧ k.depth ≤ 8
theorem IsN.calm {k : NestedKey} {a : Addr} (h : IsN s.heap k a) : CalmAt P w 8 s (.ref a) := calm_key k _ 8 h.1 h.2
/-- to look for a key among keys shows nothing -/
theorem unseen {k : NestedKey} {x : Addr} (hx : IsN s.heap k x) {Q : Bool → Shared → Prop} (q : Q false s) : ∀ (ys : List Value), (∀ y ∈ ys, ∃ k c, y = Value.ref c ∧ IsN s.heap k c) → wpAny (model P w) A (searchCouldBeSeen (.ref x) ys) Q E s := by
  intro ys hy
  unfold searchCouldBeSeen
  refine wpAny_bind (wpAny_forIn_list _ (fun l r s' => s' = s ∧ r = (none, ()) ∧ ∀ y ∈ l, ∃ k c, y = Value.ref c ∧ IsN s.heap k c) _ (fun y l r s' z => ?_) (fun r s' z => ?_) _ _ ⟨rfl, rfl, hy⟩)
  · obtain ⟨rfl, rfl, h⟩ := z
    obtain ⟨k2, c, rfl, hc⟩ := h _ List.mem_cons_self
    have nx : ∀ u ∈ l, ∃ k c, u = Value.ref c ∧ IsN s'.heap k c := fun u hu => h u (List.mem_cons_of_mem _ hu)
    dsimp only
    by_cases hv : (x == c || (carriedByValue (.ref x) && carriedByValue (.ref c))) = true
    · exact wp_if_pos hv (wpAny_pure ⟨rfl, rfl, nx⟩)
    · refine wp_if_neg hv (wpAny_bind (quiet_key k _ 8 _ hx.1 hx.2 _ _ _ (wp_if_neg (by decide) ?_)))
      refine wpAny_bind (quiet_key k2 _ 8 _ hc.1 hc.2 _ _ _ (wp_if_neg (by decide) ?_))
      refine wpAny_bind ((hx.calm (P := P) (w := w) A E).1 _ (wp_if_neg (by decide) ?_))
      exact wpAny_bind ((hc.calm (P := P) (w := w) A E).1 _ (wp_if_neg (by decide) (wpAny_pure ⟨rfl, rfl, nx⟩)))
  · obtain ⟨rfl, rfl, _⟩ := z
    exact wpAny_pure q
end
end PZ
end
section
/-! SetN2: such a set, looked in and added to. -/
set_option linter.all false
set_option maxRecDepth 100000
set_option maxHeartbeats 4000000
set_option Elab.async false
namespace PZ
open PySem PySem.Spec PyProof.Rows L2
/-- the set at a: its keys; G tells which tuples may stand for a key -/
structure Sn (G : NestedKey → Addr → Prop) (w : World) (h : Heap) (a : Addr) (ks : List NestedKey) (es : Array (Int × Value)) (ep : Nat) (t : SetTable) : Prop where
  ob : ∃ o, h.get? a = some o ∧ o.ExactSet ∧ o.data = .set es ep t
  len : es.size = ks.length
  row : ∀ (i : Nat) k, ks[i]? = some k → ∃ c, es[i]? = some (nh w k, Value.ref c) ∧ G k c
  tab : TabOk t (ks.map (nh w))
  nd : ks.Nodup
  room : ks.length * 5 < t.mask * 3
  few : ks.length ≤ 18
section
variable {P : Program} {w : World} {A : Around} {E : Value → Shared → Prop} {s : Shared} {a x : Addr} {ks : List NestedKey} {es : Array (Int × Value)} {ep : Nat} {t : SetTable} {k : NestedKey} {G : NestedKey → Addr → Prop}
theorem Sn.fits (R : Sn G w s.heap a ks es ep t) : t.fits es.size = true := by
  have h1 := R.tab.sz
  have h2 := R.len
  have h3 := R.room
  rw [List.length_map] at h1
  unfold SetTable.fits SetTable.fill
  rw [R.tab.dm, Bool.and_eq_true, beq_iff_eq, decide_eq_true_eq]
  show t.place.size = es.size ∧ t.place.size + 0 ≤ t.mask
  omega
/-- the c-th place of a hash's way -/
abbrev pr (m : Nat) (h : Int) (c : Nat) : SetTable.Probe := nth m (runAt m (SetTable.bits h % (m + 1)) (SetTable.bits h)) c
theorem pr_add (m : Nat) (h : Int) (c q : Nat) : nth m (pr m h c) q = pr m h (c + q) := (nth_add m c _ q).symm
theorem nth_dummy (m : Nat) : ∀ (n : Nat) (p : SetTable.Probe), p.dummy = none → (nth m p n).dummy = none
  | 0, _, h => h
  | n + 1, p, h => nth_dummy m n (adv m p) (by unfold adv; split <;> exact h)
theorem slot_one {i j : Nat} {n : Nat} (r : Ris t.place.toList) (h1 : t.place.toList[i]? = some n) (h2 : t.place.toList[j]? = some n) : i = j := by
  have e1 := slot_live r h1
  have e2 := slot_live r h2
  rw [e1] at e2
  injection e2
/-- what the search finds: there, or the first free place of the way -/
theorem look (R : Sn G w s.heap a ks es ep t) (hG : ∀ k c, G k c → IsN s.heap k c) (hx : IsN s.heap k x) (hu : A.units + 8 < cLine) {K : Nat} (hf : K < 10 * SetTable.turns t.mask) (hK : way t.mask (nh w k) K ∉ t.place.toList) (hb : ∀ c, c < K → way t.mask (nh w k) c ∈ t.place.toList)
    {Q : SetFound → Shared → Prop} (yes : k ∈ ks → Q (.there none) s) (no : k ∉ ks → Q (.free (way t.mask (nh w k) K) false) s) :
    ∀ (f c : Nat) (st : Option SetTable.Probe), st.getD (t.probeStart (nh w k)) = pr t.mask (nh w k) c → c ≤ K → K < f + c →
      (∀ i : Nat, ks[i]? = some k → ∃ c', (c ≤ c' ∧ c' < K) ∧ t.place.toList[i]? = some (way t.mask (nh w k) c')) →
      wpAny (model P w) A (setSearchFrom a (.ref x) (nh w k) true f st) Q E s := by
  obtain ⟨o, ho, hex, hd⟩ := R.ob
  have gw : ¬ t.gaveWay = true := by unfold SetTable.gaveWay; rw [mask_odd R.tab.mok]; decide
  have hsz : t.place.toList.length = ks.length := by rw [Array.length_toList, R.tab.sz, List.length_map]
  intro f
  induction f with
  | zero => intro c st _ h1 h2; omega
  | succ f ih =>
    intro c st hst hc hfc hre
    rw [setSearchFrom_succ]
    refine wpAny_bind (wpAny_setState_of ho hd R.fits ?_)
    dsimp only
    refine wp_if_neg gw ?_
    have hash_at : ∀ (i : Nat) k', ks[i]? = some k' → (fun i => (es[i]?.map (·.1)).getD 0) i = nh w k' := fun i k' h => by
      obtain ⟨_, e, _⟩ := R.row i k' h
      show (es[i]?.map (·.1)).getD 0 = _
      rw [e]; rfl
    have g := go_spec t R.tab.ris R.tab.dm (fun i => (es[i]?.map (·.1)).getD 0) (nh w k) (10 * SetTable.turns t.mask) (K - c) (pr t.mask (nh w k) c) (nth_dummy _ _ _ rfl) (by omega)
      (fun q hq => by rw [pr_add]; exact hb _ (by omega)) (by rw [pr_add, Nat.add_sub_cancel' hc]; exact hK)
    rcases g with ⟨q, i, hq, hi, hh, hno, hp⟩ | ⟨hno, hp⟩
    · rw [pr_add] at hi
      have hi' : t.place.toList[i]? = some (way t.mask (nh w k) (c + q)) := hi
      have e0 : t.probe (fun i => (es[i]?.map (·.1)).getD 0) (nh w k) (st.getD (t.probeStart (nh w k))) = some (.candidate (way t.mask (nh w k) (c + q)) i (pr t.mask (nh w k) (c + (q + 1)))) := by
        rw [hst]
        have := hp
        rw [pr_add, pr_add] at this
        exact this
      rw [e0]
      dsimp only
      have il : i < ks.length := by rw [← hsz]; exact (List.getElem?_eq_some_iff.mp hi').1
      obtain ⟨k', hk'⟩ : ∃ k', ks[i]? = some k' := ⟨_, List.getElem?_eq_getElem il⟩
      obtain ⟨b, eb, hkb⟩ := R.row i k' hk'
      replace hkb := hG _ _ hkb
      have go : wpAny (model P w) A (searchRest a (.ref x) (nh w k) true f es t (way t.mask (nh w k) (c + q)) i (pr t.mask (nh w k) (c + (q + 1)))) Q E s := by
        unfold searchRest
        rw [eb]
        dsimp only
        refine wpAny_bind (wpAny_holding ((NKd P w).eqBool hu hkb hx ?_))
        refine wpAny_bind (wpAny_setState_of ho hd R.fits ?_)
        dsimp only
        by_cases hkk : k' = k
        · subst hkk
          refine wp_if_pos (by simp) (wpAny_pure (yes (List.mem_of_getElem? hk')))
        · refine wp_if_neg (by simp [hkk]) ?_
          rw [sameMem]
          dsimp only
          have sl := slot_live R.tab.ris hi'
          simp only [if_true, sl, eb]
          refine wpAny_bind (wpAny_isSame_ref_self (wpAny_bind (wpAny_pure ?_)))
          simp only [if_true]
          refine wp_if_neg (by simp [hkk]) (ih (c + (q + 1)) (some (pr t.mask (nh w k) (c + (q + 1)))) rfl (by omega) (by omega) fun i2 h2 => ?_)
          obtain ⟨c', ⟨b1, b2⟩, b3⟩ := hre i2 h2
          refine ⟨c', ⟨?_, b2⟩, b3⟩
          rcases Nat.lt_trichotomy c' (c + q) with z | z | z
          · have e3 : (nth t.mask (pr t.mask (nh w k) c) (c' - c)).j = way t.mask (nh w k) c' := by rw [pr_add, Nat.add_sub_cancel' b1]
            exact absurd (hash_at i2 k h2) (hno (c' - c) i2 (by omega) (by rw [e3]; exact b3))
          · subst z
            have := slot_one R.tab.ris hi' b3
            subst this
            rw [hk'] at h2
            exact absurd (Option.some.inj h2) hkk
          · omega
      by_cases hl : t.led = true
      · exact wp_if_neg (by simp [hl]) go
      · refine wp_if_pos (by simp [hl]) (wpAny_bind (unseen hx (wp_if_neg (by decide) go) _ fun y hy => ?_))
        obtain ⟨e, he, rfl⟩ := List.mem_map.mp hy
        have he1 : e ∈ es ∧ e.1 = nh w k := by simpa using he
        obtain ⟨j, hj, hj2⟩ := Array.getElem_of_mem he1.1
        have jl : j < ks.length := by rw [← R.len]; exact hj
        obtain ⟨b, eb, hkb⟩ := R.row j _ (List.getElem?_eq_getElem jl)
        have : es[j]? = some e := by rw [Array.getElem?_eq_getElem hj, hj2]
        rw [this] at eb
        cases eb
        exact ⟨_, b, rfl, hG _ _ hkb⟩
    · have e0 : t.probe (fun i => (es[i]?.map (·.1)).getD 0) (nh w k) (st.getD (t.probeStart (nh w k))) = some (.empty (way t.mask (nh w k) K) none) := by
        rw [hst]
        have := hp
        rw [pr_add, Nat.add_sub_cancel' hc] at this
        exact this
      rw [e0]
      dsimp only
      refine wpAny_pure (no fun hm => ?_)
      obtain ⟨i, hi⟩ := List.getElem?_of_mem hm
      obtain ⟨c', ⟨b1, b2⟩, b3⟩ := hre i hi
      have e3 : (nth t.mask (pr t.mask (nh w k) c) (c' - c)).j = way t.mask (nh w k) c' := by rw [pr_add, Nat.add_sub_cancel' b1]
      exact hno (c' - c) i (by omega) (by rw [e3]; exact b3) (hash_at i k hi)
theorem look_all (R : Sn G w s.heap a ks es ep t) (hG : ∀ k c, G k c → IsN s.heap k c) (hx : IsN s.heap k x) (hu : A.units + 8 < cLine) {Q : SetFound → Shared → Prop} (yes : k ∈ ks → Q (.there none) s)
    (no : ∀ K, k ∉ ks → way t.mask (nh w k) K ∉ t.place.toList → (∀ c, c < K → way t.mask (nh w k) c ∈ t.place.toList) → Q (.free (way t.mask (nh w k) K) false) s) : wpAny (model P w) A (setSearch a (.ref x) (nh w k) true) Q E s := by
  have hr := R.room
  obtain ⟨K, hf, hK, hb⟩ := R.tab.first (by rw [List.length_map]; omega) (nh w k)
  have big : K < 100000 := by
    unfold SetTable.turns at hf
    rcases R.tab.mok with e | e | e <;> omega
  unfold setSearch
  refine look R hG hx hu hf hK hb yes (fun hn => no K hn hK hb) 100000 0 none rfl (Nat.zero_le _) (by omega) fun i hi => ?_
  have hsz : t.place.toList.length = ks.length := by rw [Array.length_toList, R.tab.sz, List.length_map]
  have il : i < t.place.toList.length := by rw [hsz]; exact (List.getElem?_eq_some_iff.mp hi).1
  have hj := List.getElem?_eq_getElem il
  obtain ⟨c, hc, e⟩ := R.tab.before hK (h := nh w k) (by rw [List.getElem?_map, hi]; rfl) hj
  exact ⟨c, ⟨Nat.zero_le _, hc⟩, by rw [hj, e]⟩
theorem getElem?_ins {α : Type} (l : List α) {p : Nat} (hp : p ≤ l.length) (y : α) {i : Nat} {z : α} (h : (l.take p ++ y :: l.drop p)[i]? = some z) : (i < p ∧ l[i]? = some z) ∨ (i = p ∧ z = y) ∨ (p < i ∧ l[i - 1]? = some z) := by
  rw [tins_get l hp] at h
  split at h
  · exact .inl ⟨‹_›, h⟩
  · split at h
    · cases h; exact .inr (.inl ⟨‹_›, rfl⟩)
    · exact .inr (.inr ⟨by omega, h⟩)
/-- added -/
theorem add_key (R : Sn G w s.heap a ks es ep t) (hG : ∀ k c, G k c → IsN s.heap k c) (hxG : G k x) (hu : A.units + 8 < cLine) (hfew : ks.length + 1 ≤ 18) {Q : Bool → Shared → Prop}
    (hQ : ∀ b h' ks' es' ep' t', Heap.SameBut a s.heap h' → Sn G w h' a ks' es' ep' t' → (k ∈ ks → ks'.Perm ks) → (k ∉ ks → ks'.Perm (k :: ks)) → Q b { s with heap := h' }) : wpAny (model P w) A (setAddHashed a (.ref x) (nh w k)) Q E s := by
  obtain ⟨o, ho, hex, hd⟩ := R.ob
  have hlen := R.len
  have hroom := R.room
  have hx := hG k x hxG
  unfold setAddHashed
  refine wpAny_holding ?_
  rw [show (100000 : Nat) = 99999 + 1 from rfl, setAddHashedIn_succ]
  refine wpAny_bind (wpAny_setState_of ho hd R.fits ?_)
  dsimp only
  refine wp_if_neg (by simp [byScan, Value.scannable]) (wpAny_bind (look_all R hG hx hu (fun hm => ?_) fun K hm hK hb => ?_))
  · exact wpAny_pure (hQ false s.heap ks es ep t (Heap.SameBut.refl a s.heap) R (fun _ => .refl _) fun z => absurd hm z)
  · dsimp only
    refine wpAny_bind (wpAny_setState_of ho hd R.fits ?_)
    dsimp only
    obtain ⟨q1, q2, q3, q4, q5, q6, q7, q8, q9⟩ := R.tab.put hK hb
    generalize hpt : t.put (way t.mask (nh w k) K) = pt at q1 q3 q4 q5 q6 q7 q8 q9 ⊢
    obtain ⟨t1, p⟩ := pt
    dsimp only at q1 q3 q4 q5 q6 q7 q8 q9 ⊢
    rw [← q1] at q2 q3
    rw [List.length_map] at q2 q9
    have hin := SetTable.toList_insertAt es p (nh w k, Value.ref x)
    generalize SetTable.insertAt es p (nh w k, Value.ref x) = es1 at hin ⊢
    have hesl : es.toList.length = ks.length := by rw [Array.length_toList]; exact hlen
    have hes1 : es1.size = ks.length + 1 := by
      rw [← Array.length_toList, hin, len_ins es.toList (by omega), hesl]
    have pm : (ks.take p ++ k :: ks.drop p).Perm (k :: ks) := by
      have h : (ks.take p ++ k :: ks.drop p).Perm (k :: (ks.take p ++ ks.drop p)) := List.perm_middle
      rwa [List.take_append_drop] at h
    have nd1 : (ks.take p ++ k :: ks.drop p).Nodup := pm.nodup_iff.mpr (List.nodup_cons.mpr ⟨hm, R.nd⟩)
    have q3' : TabOk t1 ((ks.take p ++ k :: ks.drop p).map (nh w)) := by
      rw [List.map_append, List.map_cons, List.map_take, List.map_drop]; exact q3
    have rows : ∀ (i : Nat) k', (ks.take p ++ k :: ks.drop p)[i]? = some k' → ∃ c, es1[i]? = some (nh w k', Value.ref c) ∧ G k' c := by
      intro i k' hi
      have ee : es1[i]? = if i < p then es[i]? else if i = p then some (nh w k, Value.ref x) else es[i - 1]? := by
        rw [← Array.getElem?_toList, hin, tins_get es.toList (by omega), Array.getElem?_toList, Array.getElem?_toList]
      rw [ee]
      rcases getElem?_ins ks q2 k hi with ⟨z, h2⟩ | ⟨rfl, rfl⟩ | ⟨z, h2⟩
      · obtain ⟨c, e1, e2⟩ := R.row i k' h2
        exact ⟨c, by rw [if_pos z, e1], e2⟩
      · exact ⟨x, by rw [if_neg (Nat.lt_irrefl _), if_pos rfl], hxG⟩
      · obtain ⟨c, e1, e2⟩ := R.row (i - 1) k' h2
        exact ⟨c, by rw [if_neg (by omega), if_neg (by omega), e1], e2⟩
    have klen : (ks.take p ++ k :: ks.drop p).length = ks.length + 1 := pm.length_eq
    generalize ks.take p ++ k :: ks.drop p = ks1 at pm nd1 q3' rows klen
    -- by value or not, the table stays one
    have tail : ∀ t2 : SetTable, TabOk t2 (ks1.map (nh w)) → t2.mask = t.mask → t2.fill = ks.length + 1 → wpAny (model P w) A (do
        storeSet a es1 t2
        if (!false && t2.tooFull) = true then setRelay a (SetTable.grown (es.size + 1))
        return true) Q E s := by
      intro t2 T2 m2 f2
      refine wpAny_bind (wpAny_storeSet_of ho hd ?_ (by rw [hes1, sizeLine_eq]; omega))
      have sb : Heap.SameBut a s.heap (s.heap.update a (Obj.putSet es1 t2)) := Heap.SameBut.update ..
      have ho1 := store_at (es' := es1) (t' := t2) ho hd
      generalize s.heap.update a (Obj.putSet es1 t2) = h1 at sb ho1 ⊢
      by_cases hfull : t2.tooFull = true
      · have hf2 : (ks.length + 1) * 5 ≥ t2.mask * 3 := by
          have h := hfull
          unfold SetTable.tooFull at h
          rw [decide_eq_true_eq, f2] at h
          exact h
        have c2 : t.mask = 7 ∧ ks.length = 4 := by
          rw [m2] at hf2
          rcases R.tab.mok with e | e | e
          · rw [e] at hf2 hroom; exact ⟨e, by omega⟩
          · rw [e] at hf2 hroom; omega
          · rw [e] at hf2 hroom; omega
        have gr : es.size + 1 = 5 := by rw [hlen, c2.2]
        refine wp_if_pos (by simp [hfull]) ?_
        rw [gr]
        obtain ⟨t3, order, e3, hp3, T3, m3, l3, p3, d3⟩ := relaid_ok t2 (hs := es1.map (·.1)) (wanted := SetTable.grown 5) (M := 31) (by rw [size_20]) (.inr (.inl rfl)) (by rw [Array.size_map, hes1]; omega)
        rw [Array.size_map, hes1] at hp3
        -- the rows in their new order
        have key : ∀ l : List Nat, (∀ i ∈ l, i < ks1.length) → ∃ ks2 : List NestedKey, ks2 = l.filterMap (fun i => ks1[i]?) ∧ (l.filterMap fun i => es1[i]?).length = ks2.length ∧ (∀ (i : Nat) k', ks2[i]? = some k' → ∃ c, (l.filterMap fun i => es1[i]?)[i]? = some (nh w k', Value.ref c) ∧ G k' c) ∧ ks2.map (nh w) = l.map fun i => (es1.map (·.1)).getD i 0 := by
          intro l
          induction l with
          | nil => exact fun _ => ⟨[], rfl, rfl, fun i k' h => by simp at h, rfl⟩
          | cons i l ih =>
            intro hl
            have hi := hl i List.mem_cons_self
            obtain ⟨ks2, g1, g2, g3, g4⟩ := ih fun j hj => hl j (List.mem_cons_of_mem _ hj)
            obtain ⟨c, e1, e2⟩ := rows i _ (List.getElem?_eq_getElem hi)
            refine ⟨ks1[i] :: ks2, ?_, ?_, ?_, ?_⟩
            · rw [List.filterMap_cons_some (List.getElem?_eq_getElem hi), g1]
            · rw [List.filterMap_cons_some e1, List.length_cons, List.length_cons, g2]
            · intro j k' hj
              rw [List.filterMap_cons_some e1]
              cases j with
              | zero => cases hj; exact ⟨c, rfl, e2⟩
              | succ j => exact g3 j k' (by simpa using hj)
            · rw [List.map_cons, List.map_cons, g4]
              congr 1
              rw [Array.getD_eq_getD_getElem?, Array.getElem?_map, e1]
              rfl
        obtain ⟨ks2, g1, g2, g3, g4⟩ := key order.toList fun i hi => by
          have := List.mem_range.mp (hp3.mem_iff.mp hi)
          omega
        have pm2 : ks2.Perm ks1 := by
          have e5 : ks2.Perm ((List.range ks1.length).filterMap fun i => ks1[i]?) := by
            rw [g1, klen]
            exact hp3.filterMap _
          have e6 : ∀ n, n ≤ ks1.length → (List.range n).filterMap (fun i => ks1[i]?) = ks1.take n := by
            intro n
            induction n with
            | zero => intro _; rfl
            | succ n ih =>
              intro hn
              rw [List.range_succ, List.filterMap_append, ih (by omega), List.filterMap_cons_some (List.getElem?_eq_getElem hn), List.take_succ, List.getElem?_eq_getElem hn]
              rfl
          rw [e6 _ (Nat.le_refl _), List.take_length] at e5
          exact e5
        have et : (order.filterMap (es1[·]?)).toList = order.toList.filterMap fun i => es1[i]? := by simp
        have es2 : (order.filterMap (es1[·]?)).size = ks2.length := by rw [← Array.length_toList, et, g2]
        have l2 := pm2.length_eq
        refine wpAny_bind ?_
        rw [setRelay_eq]
        have fits2 : t2.fits es1.size = true := by
          have := T2.sz
          rw [List.length_map] at this
          unfold SetTable.fits SetTable.fill
          rw [T2.dm, Bool.and_eq_true, beq_iff_eq, decide_eq_true_eq]
          show t2.place.size = es1.size ∧ t2.place.size + 0 ≤ t2.mask
          omega
        refine wpAny_bind (wpAny_setState_of (s := { s with heap := h1 }) ho1 rfl fits2 ?_)
        dsimp only
        refine wp_if_neg (by rw [size_20, sizeLine_eq]; decide) ?_
        rw [e3]
        refine wpAny_bind ?_
        dsimp only
        refine wp_if_neg (by rw [es2, hes1]; simp; omega) (wpAny_pure ?_)
        dsimp only
        refine wpAny_storeSet_of (s := { s with heap := h1 }) ho1 rfl (wpAny_pure ?_) (by rw [es2, sizeLine_eq]; omega)
        have sb2 : Heap.SameBut a h1 (h1.update a (Obj.putSet (order.filterMap (es1[·]?)) t3)) := Heap.SameBut.update ..
        have ho2 := store_at (es' := order.filterMap (es1[·]?)) (t' := t3) ho1 rfl
        refine hQ true _ ks2 (order.filterMap (es1[·]?)) (ep + 1 + 1) t3 (sb.trans sb2) ⟨⟨_, ho2, ⟨hex.1, hex.2.1, hex.2.2⟩, rfl⟩, es2, fun i k' hi => ?_, by rw [g4]; exact T3, pm2.nodup_iff.mpr nd1, by omega, by omega⟩ (fun z => absurd z hm) fun _ => pm2.trans pm
        obtain ⟨c, e1, e2⟩ := g3 i k' hi
        exact ⟨c, by rw [← Array.getElem?_toList, et]; exact e1, e2⟩
      · refine wp_if_neg (by simp [hfull]) (wpAny_pure ?_)
        have hf2 : ¬ (ks.length + 1) * 5 ≥ t2.mask * 3 := by
          have h := hfull
          unfold SetTable.tooFull at h
          rw [decide_eq_true_eq, f2] at h
          exact h
        exact hQ true h1 ks1 es1 (ep + 1) t2 sb ⟨⟨_, ho1, ⟨hex.1, hex.2.1, hex.2.2⟩, rfl⟩, by omega, rows, T2, nd1, by omega, by omega⟩ (fun z => absurd z hm) fun _ => pm
    have f1 : t1.fill = ks.length + 1 := q9
    have off : TabOk { t1 with plain := false } (ks1.map (nh w)) := ⟨q3'.ris, q3'.dm, q3'.sz, q3'.mok, q3'.bd, q3'.reach⟩
    by_cases hp : t1.plain = true
    · refine wp_if_pos hp (wpAny_bind ((hx.calm (P := P) (w := w) A E).2 _ fun b => ?_))
      cases b
      · exact tail { t1 with plain := false } off q4 f1
      · exact tail t1 q3' q4 f1
    · refine wp_if_neg hp (wpAny_bind (wpAny_pure ?_))
      exact tail t1 q3' q4 f1
end
end PZ
end
section
/-! SetN3: {e for x in xs} of nested tuples, its len. -/
set_option linter.all false
set_option maxRecDepth 100000
set_option maxHeartbeats 4000000
set_option Elab.async false
namespace PZ
open PySem PySem.Spec PyProof.Rows L2 PpSet
mutual
/-- a value is a key, as the abstract heap tells -/
inductive NkV (K : PySem.W.Frag) (H : Hp) : V → NestedKey → Prop
  | int (i : Int) : NkV K H (.int i) (.num i)
  | tup {a : Addr} {xs : List V} {ks : List NestedKey} : SqT K H a xs → NkVs K H xs ks → NkV K H (.ref a) (.tup ks)
inductive NkVs (K : PySem.W.Frag) (H : Hp) : List V → List NestedKey → Prop
  | nil : NkVs K H [] []
  | cons {v : V} {vs : List V} {k : NestedKey} {ks : List NestedKey} : NkV K H v k → NkVs K H vs ks → NkVs K H (v :: vs) (k :: ks)
end
section
variable {X : Cx} {pins : List (Addr × Obj)} {σ : L2.St} {H : Hp} {s : Shared}
mutual
theorem NkV.is (I : Inv X pins σ H s) : ∀ {v : V} {k : NestedKey} {u : Value}, NkV X.K H v k → RelV v u → NestedIs s.heap k u
  | _, _, _, .int i, r => by obtain ⟨t, rfl⟩ := r; exact .int i t
  | _, _, _, .tup h r, e => by
    cases e
    obtain ⟨its, rv, ⟨o, ho, hc, n, hd⟩, _⟩ := I.tuple h
    exact .tup ho hc hd (by simpa using NkVs.is I r rv)
theorem NkVs.is (I : Inv X pins σ H s) : ∀ {vs : List V} {ks : List NestedKey} {us : List Value}, NkVs X.K H vs ks → Vals vs us → NestedAll s.heap ks us
  | _, _, _, .nil, .nil => .nil
  | _, _, _, .cons h t, .cons r q => .cons (NkV.is I h r) (NkVs.is I t q)
end
theorem sn_fresh {G : NestedKey → Addr → Prop} {w : World} {h : Heap} {a : Addr} {led : Bool} (ho : h.get? a = some { cls := .type "set", dict := none, data := .set #[] 0 (.fresh 0 0 led) }) : Sn G w h a [] #[] 0 (.fresh 0 0 led) := by
  refine ⟨⟨_, ho, ⟨rfl, rfl, rfl⟩, rfl⟩, rfl, fun i k e => by simp at e, ⟨?_, rfl, rfl, .inl rfl, fun x hx => by simp [SetTable.fresh] at hx, fun i h j e => by simp at e⟩, List.nodup_nil, Nat.lt_of_sub_pos (Nat.zero_lt_succ _), by decide⟩
  simp [SetTable.fresh, Ris]
/-- the set at D as a thing that is tracked -/
def SNo (G : NestedKey → Addr → Prop) (w : World) (D : Addr) (ks : List NestedKey) : HO := .ext fun h => ∃ es ep t, Sn G w h D ks es ep t
theorem sno_new {G : NestedKey → Addr → Prop} {w : World} {P : Program} {H : Hp} {h : Heap} {D : Addr} {ks : List NestedKey} {es : Array (Int × Value)} {ep : Nat} {t : SetTable} (R : Sn G w h D ks es ep t) : ObjOk P w H h D (SNo G w D ks) := by
  refine ⟨⟨es, ep, t, R⟩, ?_, fun h1 h2 p k => ?_⟩
  · obtain ⟨o, ho, _⟩ := R.ob
    exact ⟨o, ho⟩
  · obtain ⟨es, ep, t, R⟩ := p
    obtain ⟨o, ho, z⟩ := R.ob
    exact ⟨es, ep, t, ⟨o, k o ho, z⟩, R.len, R.row, R.tab, R.nd, R.room, R.few⟩
theorem sn_stay {G : NestedKey → Addr → Prop} {w : World} {h h' : Heap} {D : Addr} {ks : List NestedKey} {es : Array (Int × Value)} {ep : Nat} {t : SetTable} (R : Sn G w h D ks es ep t) (k : ∀ o, h.get? D = some o → h'.get? D = some o) : Sn G w h' D ks es ep t :=
  let ⟨o, ho, z⟩ := R.ob
  ⟨⟨o, k o ho, z⟩, R.len, R.row, R.tab, R.nd, R.room, R.few⟩
theorem sn_mono {G G' : NestedKey → Addr → Prop} {w : World} {h : Heap} {D : Addr} {ks : List NestedKey} {es : Array (Int × Value)} {ep : Nat} {t : SetTable} (R : Sn G w h D ks es ep t) (g : ∀ k c, G k c → G' k c) : Sn G' w h D ks es ep t :=
  ⟨R.ob, R.len, fun i k e => let ⟨c, h1, h2⟩ := R.row i k e; ⟨c, h1, g _ _ h2⟩, R.tab, R.nd, R.room, R.few⟩
/-- set.add of a key -/
theorem add_call {P : Program} {w : World} {A : Around} {E : Value → Shared → Prop} {s : Shared} {G : NestedKey → Addr → Prop} {D x : Addr} {k : NestedKey} {ks : List NestedKey} {es : Array (Int × Value)} {ep : Nat} {t : SetTable} (R : Sn G w s.heap D ks es ep t) (hG : ∀ k c, G k c → IsN s.heap k c) (hx : G k x) (hu : A.units + 9 < cLine) (hf : ks.length + 1 ≤ 18) {Q : Value → Shared → Prop}
    (hQ : ∀ h' t' ks' es' ep' tb, Heap.SameBut D s.heap h' → Sn G w h' D ks' es' ep' tb → (k ∈ ks → ks'.Perm ks) → (k ∉ ks → ks'.Perm (k :: ks)) → Q .none { s with heap := h', toks := t' }) : wpAny (model P w) A (call (.builtin "set.add") [.ref D, .ref x]) Q E s := by
  obtain ⟨o, ho, hex, hd⟩ := R.ob
  have hT : s.TypeIs (.ref D) "set" := ⟨o, ho, hex.1⟩
  refine wpAny_call_entry F.slot_set_add hT F.entry_set_add ?_ (F.args_set_add_2 _ _)
  unfold Builtin.«set.add» Builtin.Frozenset.oneOther
  simp only [List.isEmpty_nil, bind_assoc]
  unfold Builtin.Frozenset.addrOf setAdd
  refine wpAny_bind (wpAny_pure ?_)
  try dsimp only
  refine wpAny_bind (wpAny_pure ?_)
  try dsimp only
  refine wpAny_bind (wpAny_holding (wpAny_bind ((NKd P w).pyHash (A := A.in1) (show A.units + 1 + 8 < cLine by omega) (hG _ _ hx) ?_)))
  refine add_key (A := A.in1) (P := P) (s := { s with toks := s.toks + (NKd P w).draws k }) R hG hx (show A.units + 1 + 8 < cLine by omega) hf fun b h' ks' es' ep' tb sb R' p1 p2 => ?_
  show wpAny _ _ (ret Value.none) _ _ _
  exact wpAny_pure ⟨_, rfl, hQ h' _ ks' es' ep' tb sb R' p1 p2⟩
/-- what is asked of such a comprehension -/
def tSn (K : PySem.W.Frag) (w : World) (wi : TI) (g : TG) (te : TE) (vs : List Nat) : TE := fun σ H Q => wi σ H fun J H1 => ∃ I : Nat → Nat → (NestedKey → Addr → Prop) → List NestedKey → Hp → Prop, (∃ m G, I 0 m G [] H1) ∧ ∀ i m G ks H, I i m G ks H →
  (J.stop i H ∧ ∀ D, H D = none → Q (.ref D) (upd H D (SNo G w D ks))) ∨
  (J.go i H ∧ ∃ Nx : (NestedKey → Addr → Prop) → List NestedKey → Hp → Prop, (∀ G' ks' H', Nx G' ks' H' → ∃ m', m' < m ∧ I (i + 1) m' G' ks' H') ∧ ∀ x H', J.yld i H x H' → g x (wipe σ vs) H' fun σ2 H2 => wipe σ2 vs = wipe σ vs ∧ te σ2 H2 fun y H4 =>
    ∃ (k : NestedKey) (c : Addr) (G' : NestedKey → Addr → Prop), y = .ref c ∧ (∀ k c, G k c → G' k c) ∧ G' k c ∧ (∀ k c, G' k c → NkV K H4 (.ref c) k ∧ k.depth ≤ 8) ∧ ks.length + 1 ≤ 18 ∧ ∀ ks', (k ∈ ks → ks'.Perm ks) → (k ∉ ks → ks'.Perm (k :: ks)) → Nx G' ks' H4)
theorem pe_sn {elt tg iter : Expr} {scope : Scope} {own : List (PySem.Str × Nat)} {pos : Pos} {wi : TI} {g : TG} {te : TE} (hu : X.A.units + 9 < cLine) (hc : X.calm = true) (hN : X.N.Nodup) (hi : PI X tg iter wi) (ok : BlkOk X.N X.env.scope scope own)
    (hg : ∀ (s : Shared) (H : Hp) (C : Addr) (cl : List (PySem.Str × Addr)) (fp : List Addr), PG (X.blk s H scope (compEnvC scope cl C X.env) fp) tg g)
    (he : ∀ (s : Shared) (H : Hp) (C : Addr) (cl : List (PySem.Str × Addr)) (fp : List Addr), PE (X.blk s H scope (compEnvC scope cl C X.env) fp) elt te) (hs : ∀ x, foldedSetIterable iter X.env x = pure x := by intro _; rfl) :
    PE X (.SetComp elt [⟨tg, iter, [], 0⟩] scope pos) (tSn X.K X.w wi g te (own.map (·.2))) := by
  refine ⟨fun pins s σ H Q I h => ?_⟩
  rw [eval_SetComp]
  have free : ∀ y ∈ scope.names, y.2 = .free → ∃ c, X.env.cells.lookup y.1 = some c := fun y hy e => (ok.free y hy e).elim (fun k => I.ok.has _ (.inl k)) fun k => I.ok.has _ (.inr k)
  refine wpAny_comprehension_free (use := none) rfl hs (closure_ok free) ok.kind (fun y hy e => by rw [ok.uniq y hy, e]) (thn (hi.run pins s σ H _ I h) fun xv s1 hx => thn hx fun itv s2 h2 => ?_)
  obtain ⟨it, fp, tn, J, H2, rfl, I2, T, st2, f2, Iv, ⟨m0, G0, i0⟩, step⟩ := h2
  refine newSet_ok (newEnv_comp ?_)
  obtain ⟨D, hD⟩ : ∃ D, D = s2.heap.objs.size := ⟨_, rfl⟩
  rw [← hD]
  obtain ⟨s3, hs3⟩ : ∃ s3 : Shared, s3 = { s2 with heap := s2.heap.push { cls := .type "set", dict := none, data := .set #[] 0 (.fresh 0 0 (!X.w.params.followText "set-order")) } } := ⟨_, rfl⟩
  rw [← hs3]
  have hp3 : s3.heap = s2.heap.push { cls := .type "set", dict := none, data := .set #[] 0 (.fresh 0 0 (!X.w.params.followText "set-order")) } := by rw [hs3]
  have I3 : Inv X pins σ H2 s3 := by rw [hs3]; exact I2.kept (t' := s2.toks) fun b o e => Heap.get?_push_of_some _ e
  have nD : H2 D = none := I2.hok.fresh (Nat.le_of_eq hD.symm)
  have gD : s3.heap.get? D = some { cls := .type "set", dict := none, data := .set #[] 0 (.fresh 0 0 (!X.w.params.followText "set-order")) } := by rw [hp3, hD]; exact Heap.get?_push_size _ rfl
  have small : ∀ b ∈ fp, b < D := fun b hb => by
    obtain ⟨o, e, _⟩ := T.obj _ _ st2 b hb
    rw [hD]; exact Heap.lt_size e
  have size3 : s3.heap.objs.size = D + 1 := by rw [hp3, hD]; exact Heap.size_push ..
  have okD : FpOk X pins H2 D := I2.fpOk (Nat.le_of_eq hD.symm) nD
  -- the set stands beside the iterator
  have f3 : ∀ b ∈ D :: fp, FpOk X pins H2 b ∧ b < s3.heap.objs.size := fun b hb => by
    rcases List.mem_cons.mp hb with e | hb
    · refine ⟨e ▸ okD, ?_⟩
      rw [e, size3]; exact Nat.lt_succ_self _
    · refine ⟨f2 b hb, ?_⟩
      rw [size3]; exact Nat.lt_succ_of_lt (small b hb)
  have st3 : tn 0 s3.heap := T.keep _ _ _ st2 fun b _ o e => by rw [hp3]; exact Heap.get?_push_of_some _ e
  have I4 := block_start I3 ok hN f3
  have pg := hg s3 H2 s3.heap.objs.size (cellsFrom (s3.heap.objs.size + 1) scope.names (cloFrom X.env.cells scope.names [])) (D :: fp)
  have pe := he s3 H2 s3.heap.objs.size (cellsFrom (s3.heap.objs.size + 1) scope.names (cloFrom X.env.cells scope.names [])) (D :: fp)
  show codeAny _ _ (.compStart (.SetComp elt [⟨tg, iter, [], 0⟩] scope pos) 0 (.ref it) (.ref D) (compEnvC scope (cellsFrom (s3.heap.objs.size + 1) scope.names (cloFrom X.env.cells scope.names [])) s3.heap.objs.size X.env)) (compPost (model X.prog X.w) X.A X.xe none (EP X pins σ Q) (.ref D) s3.heap.objs.size) { s3 with heap := pushCells (s3.heap.push { cls := .type "dict", data := .dict #[] }) scope.names }
  obtain ⟨ce, hce⟩ : ∃ ce, ce = compEnvC scope (cellsFrom (s3.heap.objs.size + 1) scope.names (cloFrom X.env.cells scope.names [])) s3.heap.objs.size X.env := ⟨_, rfl⟩
  rw [← hce] at I4 pg pe ⊢
  have cL : ce.locals = s3.heap.objs.size := by rw [hce]; rfl
  obtain ⟨s4, hs4⟩ : ∃ s4 : Shared, s4 = { s3 with heap := pushCells (s3.heap.push { cls := .type "dict", data := .dict #[] }) scope.names } := ⟨_, rfl⟩
  rw [← hs4] at I4 ⊢
  have old4 : ∀ b o, s3.heap.get? b = some o → s4.heap.get? b = some o := fun b o e => by rw [hs4]; exact pushCells_keeps _ _ _ _ (Heap.get?_push_of_some _ e)
  have st4 : tn 0 s4.heap := T.keep _ _ _ st3 fun b _ o e => old4 b o e
  have stat : ∀ {σ' : L2.St} {H' : Hp} {s' : Shared}, Inv (X.blk s3 H2 scope ce (D :: fp)) [] σ' H' s' → (∀ b ∈ D :: fp, H' b = none) → ∀ b ∈ D :: fp, FpOk (X.blk s3 H2 scope ce (D :: fp)) [] H' b := fun I' hn b hb =>
    ⟨hn b hb, (I'.ok.exf b hb).1, I'.ok.exfs b hb, .inl hb, fun x c e => (I'.ok.exf b hb).2 x c e, fun p hp => absurd (show p ∈ ([] : List (Addr × Obj)) ++ [] from hp) (by simp)⟩
  have loop : codeAny (model X.prog X.w) X.A (.compLoop (.SetComp elt [⟨tg, iter, [], 0⟩] scope pos) 0 (.ref it) (.ref D) ce) (compPost (model X.prog X.w) X.A X.xe none (EP X pins σ Q) (.ref D) s3.heap.objs.size) s4 := by
    refine compLoopS_any (fun n s' => ∃ i Gk ks H', Inv (X.blk s3 H2 scope ce (D :: fp)) [] (wipe σ (own.map (·.2))) H' s' ∧ tn i s'.heap ∧ (∀ b ∈ D :: fp, H' b = none) ∧ (∃ es ep t, Sn Gk X.w s'.heap D ks es ep t) ∧ Iv i n Gk ks H') ?_ m0
      ⟨0, G0, [], H2, I4, st4, fun b hb => (f3 b hb).1.1, ⟨_, _, _, sn_fresh (old4 _ _ gD)⟩, i0⟩
    rintro n s5 ⟨i, Gk, ks, H5, I5, st5, n5, ⟨es, ep, tb, R5⟩, w5⟩
    have fok := stat I5 n5
    obtain ⟨o5, ho5, hex5, hd5⟩ := R5.ob
    have noc : ∀ v, o5.data ≠ .cell v := fun v e => by rw [hd5] at e; cases e
    -- the set is pinned while the iterator goes on
    have I5p := I5.pinned (fp := [D]) (fun b hb => fok b (by rw [List.mem_singleton.mp hb]; exact List.mem_cons_self)) fun b hb => by rw [List.mem_singleton.mp hb]; exact ⟨o5, ho5, noc⟩
    have pin5 : (D, o5) ∈ pinsAt [D] s5.heap := mem_pinsAt (List.mem_singleton.mpr rfl) ho5
    have fokp : ∀ b ∈ fp, FpOk (X.blk s3 H2 scope ce (D :: fp)) ([] ++ pinsAt [D] s5.heap) H5 b := fun b hb => by
      obtain ⟨a1, a2, a3, a4, a5, _⟩ := fok b (List.mem_cons_of_mem _ hb)
      refine ⟨a1, a2, a3, a4, a5, fun p hp e => ?_⟩
      have hp' : p ∈ pinsAt [D] s5.heap := by simpa using (show p ∈ ([] : List (Addr × Obj)) ++ ([] ++ pinsAt [D] s5.heap) from hp)
      have e1 := List.mem_singleton.mp (of_pinsAt hp').1
      have := small b hb
      rw [← e, e1] at this
      exact Nat.lt_irrefl _ this
    rcases step i n Gk ks H5 w5 with ⟨stop, fin⟩ | ⟨go, Nx, hNx, turn⟩
    · have td := T.done (X.blk s3 H2 scope ce (D :: fp)) rfl rfl rfl hc i _ s5 _ H5 (fun _ _ => False) I5p fokp st5 stop
      refine thnF td fun r s6 ⟨hr, I6⟩ => ?_
      subst hr
      have g6 : s6.heap.get? D = some o5 := (I6.pin (D, o5) (List.mem_append_right _ (List.mem_append_right _ pin5))).1
      have R6 : Sn Gk X.w s6.heap D ks es ep tb := sn_stay R5 fun o e => by rw [ho5] at e; cases e; exact g6
      have I7 : Inv X pins σ H5 s6 := I3.call' (ch := D :: fp) I6.os I6.base I6.hok I6.bare fun b hb => ⟨(f3 b hb).1.2.2.2.1, (f3 b hb).1.2.1, (f3 b hb).1.2.2.2.2.1, (f3 b hb).1.2.2.2.2.2⟩
      have nC : H5 s3.heap.objs.size = none := by
        have z : H5 ce.locals = none := I6.free
        rwa [cL] at z
      obtain ⟨m, hn, _⟩ := I6.loc
      replace hn : s6.heap.Ns ce.locals m := hn
      rw [cL] at hn
      obtain ⟨c0, c1, c2, c3, c4, c5⟩ := I3.fpOk (Nat.le_refl _) nC
      refine ⟨m, hn, fun h'' sb => ?_⟩
      have I8 : Inv X pins σ H5 { s6 with heap := h'' } := I7.turned (t' := s6.toks) (fun b o hb e => (sb.2 b hb).trans e) c0 c1 c3 c4 c5
      have hDC : D ≠ s3.heap.objs.size := by omega
      have R8 : Sn Gk X.w h'' D ks es ep tb := sn_stay R6 fun o e => (sb.2 D hDC).trans e
      obtain ⟨d0, d1, d2, d3, d4, d5⟩ := okD
      have okD5 : FpOk X pins H5 D := ⟨n5 D List.mem_cons_self, d1, d2, d3, d4, d5⟩
      exact ⟨.ref D, _, I8.take (t' := s6.toks) (fun b o _ e => e) okD5 (sno_new R8), rfl, fin D (n5 D List.mem_cons_self)⟩
    · have ti := T.item (X.blk s3 H2 scope ce (D :: fp)) rfl rfl rfl hc i _ s5 _ H5 (fun _ _ => False) I5p fokp st5 go
      refine thnF ti fun r s6 ⟨u, hr, h6⟩ => ?_
      subst hr
      refine thnF h6 fun _ s7 ⟨x, H7, I7, r7, y7, st7, n7⟩ => ?_
      obtain ⟨g7, h7D, _⟩ := I7.pin (D, o5) (List.mem_append_right _ (List.mem_append_right _ pin5))
      replace g7 : s7.heap.get? D = some o5 := g7
      have n7' : ∀ b ∈ D :: fp, H7 b = none := fun b hb => by
        rcases List.mem_cons.mp hb with e | hb
        · rw [e]; exact h7D
        · exact n7 b hb
      have I7u : Inv (X.blk s3 H2 scope ce (D :: fp)) [] (wipe σ (own.map (·.2))) H7 s7 := I7.unpinned
      have ob7 : ∀ b ∈ D :: fp, ∃ o, s7.heap.get? b = some o ∧ ∀ v, o.data ≠ .cell v := fun b hb => by
        rcases List.mem_cons.mp hb with e | hb
        · rw [e]; exact ⟨o5, g7, noc⟩
        · exact T.obj _ _ st7 b hb
      have I7' := I7u.pinned (stat I7u n7') ob7
      refine thnF (pg.run _ s7 _ H7 x u _ I7' r7 (turn x H7 y7)) fun _ s8 ⟨σ8, H8, I8, hw8, q8⟩ => ?_
      refine wpAny_pure ?_
      rw [if_pos rfl]
      refine thnF (pe.run _ s8 σ8 H8 _ I8 q8) fun z s10 ⟨yv, H10, I10, r10, k, c, G', ey, gsub, gk, hGk, hfew, nx⟩ => ?_
      subst ey
      cases (show z = Value.ref c from r10)
      have pin10 : ∀ b ∈ D :: fp, ∀ o, s7.heap.get? b = some o → s10.heap.get? b = some o ∧ H10 b = none := fun b hb o e =>
        let z := I10.pin (b, o) (List.mem_append_right _ (List.mem_append_right _ (mem_pinsAt hb e)))
        ⟨z.1, z.2.1⟩
      have n10 : ∀ b ∈ D :: fp, H10 b = none := fun b hb => let ⟨o, e, _⟩ := ob7 b hb; (pin10 b hb o e).2
      have g10 := (pin10 D List.mem_cons_self o5 g7).1
      have R10 : Sn G' X.w s10.heap D ks es ep tb := sn_mono (sn_stay R5 fun o e => by rw [ho5] at e; cases e; exact g10) gsub
      have I10u : Inv (X.blk s3 H2 scope ce (D :: fp)) [] σ8 H10 s10 := I10.unpinned
      refine add_call R10 (fun k c h => ⟨NkV.is I10u (X := X.blk s3 H2 scope ce (D :: fp)) (hGk k c h).1 rfl, (hGk k c h).2⟩) gk hu hfew fun h' t' ks' es' ep' tb' sb R' p1 p2 => ?_
      have okD10 : ∀ b ∈ [D], FpOk (X.blk s3 H2 scope ce (D :: fp)) [] H10 b := fun b hb => by
        rw [List.mem_singleton.mp hb]
        exact ⟨n10 D List.mem_cons_self, (I10u.ok.exf D List.mem_cons_self).1, I10u.ok.exfs D List.mem_cons_self, .inl List.mem_cons_self, fun x c e => (I10u.ok.exf D List.mem_cons_self).2 x c e, fun p hp => absurd (show p ∈ ([] : List (Addr × Obj)) ++ [] from hp) (by simp)⟩
      have I11 : Inv (X.blk s3 H2 scope ce (D :: fp)) [] σ8 H10 { s10 with heap := h', toks := t' } := I10u.turnedL (ch := [D]) (fun b o hb e => (sb.2 b (fun z => hb (List.mem_singleton.mpr z))).trans e) okD10
      obtain ⟨m', hm, w'⟩ := hNx G' ks' H10 (nx ks' p1 p2)
      have hl : (wipe σ (own.map (·.2))).length = σ8.length := by rw [← hw8, wipe_length]
      refine ⟨m', hm, i + 1, G', ks', H10, I11.weak hl (fun j v e => ?_), T.keep _ _ _ st7 fun b hb o e => ?_, n10, ⟨es', ep', tb', R'⟩, w'⟩
      · rw [← hw8] at e
        exact (wipe_some e).1
      · have hne : b ≠ D := Nat.ne_of_lt (small b hb)
        exact (sb.2 b hne).trans (pin10 b (List.mem_cons_of_mem _ hb) o e).1
  exact codeAny_compStart_set loop (T.self X.A 0 _ _ _ st4 loop)
/-- len of such a set -/
theorem cr_lenSet : CallR X (.builtin "len") (fun xs H Q => ∃ G D ks, xs = [.ref D] ∧ H D = some (SNo G X.w D ks) ∧ Q (.int ks.length) H) := by
  intro pins s σ H xs us Q I r h
  obtain ⟨G, D, ks, rfl, hD, q⟩ := h
  obtain ⟨u, rfl, e⟩ := vals1 r
  cases (show u = Value.ref D from e)
  obtain ⟨es, ep, t, R⟩ := (I.hok D _ hD).1
  obtain ⟨o, ho, hex, hd⟩ := R.ob
  have hf := R.few
  refine call_len_set ho hex hd R.fits (by rw [R.len]; omega) ?_
  rw [R.len]
  exact ⟨.int ks.length, H, I.tok _, ⟨_, rfl⟩, q⟩
end
end PZ
end
section
/-! SetN4: len({e for x in xs}). -/
set_option linter.all false
set_option maxRecDepth 100000
set_option maxHeartbeats 4000000
set_option Elab.async false
namespace PZ
open PySem PySem.Spec PyProof.Rows L2
mutual
def keyOf : D → NestedKey
  | .int i => .num i
  | .tup l => .tup (keysOf l)
  | _ => .none
def keysOf : List D → List NestedKey
  | [] => []
  | x :: xs => keyOf x :: keysOf xs
end
mutual
theorem keyOf_dep : ∀ d : D, (keyOf d).depth ≤ d.dep
  | .int _ => Nat.le_refl _
  | .tup l => Nat.succ_le_succ (keysOf_dep l)
  | .non => Nat.le_refl _
  | .bl _ => Nat.le_refl _
  | .str _ => Nat.le_refl _
  | .lst _ => Nat.zero_le _
  | .kt _ => Nat.zero_le _
  | .scr _ => Nat.le_refl _
  | .ref _ => Nat.le_refl _
  | .fn _ => Nat.le_refl _
  | .exv _ => Nat.le_refl _
theorem keysOf_dep : ∀ l : List D, NestedKey.depthAll (keysOf l) ≤ D.deps l
  | [] => Nat.le_refl _
  | x :: xs => by
    have h1 := keyOf_dep x
    have h2 := keysOf_dep xs
    simp only [keysOf, NestedKey.depthAll, D.deps]
    omega
end
mutual
theorem keyOf_inj : ∀ {a b : D}, nkD a = true → nkD b = true → keyOf a = keyOf b → a = b
  | .int i, b, _, hb, e => by
    cases b <;> first | (cases hb; done) | (simp only [keyOf, NestedKey.num.injEq] at e; rw [e]) | (simp [keyOf] at e)
  | .tup l, b, ha, hb, e => by
    cases b <;> first | (cases hb; done) | (simp [keyOf] at e; done) | skip
    simp only [keyOf, NestedKey.tup.injEq] at e
    rw [keysOf_inj ha hb e]
  | .non, _, ha, _, _ => by cases ha
  | .bl _, _, ha, _, _ => by cases ha
  | .str _, _, ha, _, _ => by cases ha
  | .lst _, _, ha, _, _ => by cases ha
  | .kt _, _, ha, _, _ => by cases ha
  | .scr _, _, ha, _, _ => by cases ha
  | .ref _, _, ha, _, _ => by cases ha
  | .fn _, _, ha, _, _ => by cases ha
  | .exv _, _, ha, _, _ => by cases ha
theorem keysOf_inj : ∀ {a b : List D}, nkDs a = true → nkDs b = true → keysOf a = keysOf b → a = b
  | [], b, _, _, e => by cases b <;> first | rfl | (simp [keysOf] at e)
  | x :: xs, b, ha, hb, e => by
    cases b with
    | nil => simp [keysOf] at e
    | cons y ys =>
      simp only [nkDs, Bool.and_eq_true] at ha hb
      simp only [keysOf, List.cons.injEq] at e
      rw [keyOf_inj ha.1 hb.1 e.1, keysOf_inj ha.2 hb.2 e.2]
end
section
variable {W : Wl} {Wx : WX} {X : Cx} {G : Glo} {m m' : Gh} {H H' : Hp} {S : Sto} {σ : L2.St} {ρ : PZ.Env} {elt tgt iter : Expr} {ce : CE} {pos p cpos : Pos} {tg : Tg} {it : IT}
mutual
theorem Rep.nk : ∀ {v : V} {d : D}, Rep W m H v d → nkD d = true → NkV W.K H v (keyOf d)
  | _, _, .int i, _ => .int i
  | _, _, .tup h r, p => .tup h.sq (Reps.nk r p)
  | _, _, .non, p => by cases p
  | _, _, .bl _, p => by cases p
  | _, _, .str _ _, p => by cases p
  | _, _, .lst _ _ _, p => by cases p
  | _, _, .kt _ _ _, p => by cases p
  | _, _, .scr _, p => by cases p
  | _, _, .ref _, p => by cases p
  | _, _, .fn, p => by cases p
  | _, _, .exv _, p => by cases p
theorem Reps.nk : ∀ {vs : List V} {ds : List D}, Reps W m H vs ds → nkDs ds = true → NkVs W.K H vs (keysOf ds)
  | _, _, .nil, _ => .nil
  | _, _, .cons r t, p => by
    simp only [nkDs, Bool.and_eq_true] at p
    exact .cons (Rep.nk r p.1) (Reps.nk t p.2)
end
/-- each once -/
theorem once_step (acc : List D) (x : D) : onceD (acc ++ [x]) = if (onceD acc).contains x then onceD acc else onceD acc ++ [x] := by
  unfold onceD
  rw [List.foldl_append]
  rfl
theorem once_mem : ∀ {acc : List D} {x : D}, x ∈ onceD acc ↔ x ∈ acc := by
  intro acc
  induction h : acc.length generalizing acc with
  | zero =>
    intro x
    have : acc = [] := List.length_eq_zero_iff.mp h
    subst this; simp [onceD]
  | succ n ih =>
    intro x
    rcases List.eq_nil_or_concat acc with rfl | ⟨u, c, rfl⟩
    · simp at h
    · rw [List.concat_eq_append] at h ⊢
      have hu : u.length = n := by simp at h; exact h
      rw [once_step, List.mem_append, List.mem_singleton]
      split
      · rename_i hc
        rw [ih hu]
        constructor
        · exact .inl
        · rintro (z | rfl)
          · exact z
          · exact (ih hu).mp (by simpa using hc)
      · rw [List.mem_append, List.mem_singleton, ih hu]
def lenCe (ce : CE) (tg : Tg) (it : IT) : CE := .bi .lenSet (.cons (.comp ce tg it (.c (.bl true))) .nil)
/-- a turn of the comprehension's loop -/
theorem ctrue_post {d : D} {o : Option D} {S S4 : Sto} {ρ' : PZ.Env} (hb : bindT tg d (wipeE ρ tg.slots) = some ρ') (hf : compF G ce tg (.c (.bl true)) ρ d S = .ok o S4) : ∃ y, o = some y ∧ ev G ce ρ' S = .ok y S4 := by
  unfold compF at hf
  rw [hb] at hf
  obtain ⟨k, S5, hk, hf⟩ := bl_post hf
  cases hk
  obtain ⟨y, S6, hy, hf⟩ := bind_post hf
  cases hf
  exact ⟨y, rfl, hy⟩
def itsOk (l : List D) : Bool := l.all fun d => isTup1 d && nkD d && decide (d.dep ≤ 7)
/-- what a loop adds to a list stays in it -/
theorem compL_pre {f : D → M (Option D)} {w : Wk} : ∀ (l acc : List D) (S S' : Sto) (r : List D), compL f w l acc S = .ok r S' → ∃ u, r = acc ++ u
  | [], acc, S, S', r, h => by
    simp only [compL] at h
    split at h
    · cases h; exact ⟨[], by simp⟩
    · cases h
  | x :: l, acc, S, S', r, h => by
    simp only [compL] at h
    split at h
    · cases z : f x S with
      | ok o s2 =>
        rw [z] at h
        cases o with
        | none => exact compL_pre l acc s2 S' r h
        | some y =>
          replace h : (if acc.length < line then compL f w l (acc ++ [y]) else M.bad) s2 = .ok r S' := h
          split at h
          · obtain ⟨u, e⟩ := compL_pre l (acc ++ [y]) s2 S' r h
            exact ⟨y :: u, by rw [e]; simp⟩
          · cases h
      | exc c s2 => rw [z] at h; cases h
      | bad => rw [z] at h; cases h
    · cases h
theorem lenSet_post {r : List D} {d : D} (h : biD .lenSet [.lst r] = some d) : r.length ≤ 17 ∧ itsOk r = true ∧ d = .int (onceD r).length := by
  replace h : (if r.length ≤ 17 ∧ (r.all fun d => isTup1 d && nkD d && decide (d.dep ≤ 7)) = true then some (D.int (onceD r).length) else none) = some d := h
  split at h
  · rename_i z
    cases h
    exact ⟨z.1, z.2, rfl⟩
  · cases h
theorem lenset_core {own : List (Str × Nat)} (hK : X.K = W.K) (hv : own.map (·.2) = tg.slots) {Q : VK} (h : tM W Wx (ev G (lenCe ce tg it)) σ H Q) :
    tSn X.K X.w (tI W Wx (evi G it)) (tG W tg) (tM W Wx0 (ev G ce)) (own.map (·.2)) σ H (fun v H' => ∃ Gk D ks, [v] = [V.ref D] ∧ H' D = some (SNo Gk X.w D ks) ∧ Q (.int (ks.length : Nat)) H') := by
  obtain ⟨m, ρ, S, re, rs, p⟩ := h
  refine ⟨m, ρ, S, re, rs, ?_⟩
  replace p : PostA W Wx σ m H (((evi G it ρ S).bind fun w => M.nolk w ((compL (compF G ce tg (.c (.bl true)) ρ) w w.its []).bind fun l => M.opt (biD .lenSet [.lst l])))) (KV1 W Q) := by
    have e : ev G (lenCe ce tg it) ρ S = (evi G it ρ S).bind fun w => M.nolk w ((compL (compF G ce tg (.c (.bl true)) ρ) w w.its []).bind fun l => M.opt (biD .lenSet [.lst l])) := by
      show ((((evi G it ρ).bind fun w => M.nolk w ((compL (compF G ce tg (.c (.bl true)) ρ) w w.its []).bind fun l => M.ret (.lst l))).bind fun x => ((M.ret []).bind fun xs => M.ret (x :: xs))).bind fun xs => biM .lenSet xs) S = _
      show ((((evi G it ρ S).bind fun w => M.nolk w ((compL (compF G ce tg (.c (.bl true)) ρ) w w.its []).bind fun l => M.ret (.lst l))).bind fun x => ((M.ret []).bind fun xs => M.ret (x :: xs))).bind fun xs => biM .lenSet xs) = _
      cases evi G it ρ S with
      | exc c s => rfl
      | bad => rfl
      | ok w s =>
        show ((M.nolk w ((compL (compF G ce tg (.c (.bl true)) ρ) w w.its []).bind fun l => M.ret (.lst l)) s).bind fun x => ((M.ret []).bind fun xs => M.ret (x :: xs))).bind (fun xs => biM .lenSet xs) = M.nolk w _ s
        unfold M.nolk
        split
        · show (((compL (compF G ce tg (.c (.bl true)) ρ) w w.its [] s).bind fun l => M.ret (.lst l)).bind fun x => ((M.ret []).bind fun xs => M.ret (x :: xs))).bind (fun xs => biM .lenSet xs) = (compL (compF G ce tg (.c (.bl true)) ρ) w w.its [] s).bind _
          cases compL (compF G ce tg (.c (.bl true)) ρ) w w.its [] s <;> rfl
        · rfl
    rw [← e]; exact p
  cases hw : evi G it ρ S with
  | exc c s => rw [hw] at p; exact p
  | bad => rw [hw] at p; exact p
  | ok w S1 =>
    rw [hw] at p
    intro m1 H1 x1 rs1 J wk
    have p1 := PostA.ext p x1
    clear p
    replace p1 : PostA W Wx σ m1 H1 (if w.lk = none then ((compL (compF G ce tg (.c (.bl true)) ρ) w w.its [] S1).bind fun l => M.opt (biD .lenSet [.lst l])) else .bad) (KV1 W Q) := p1
    split at p1
    case isFalse => exact p1.elim
    obtain ⟨Gd, Y, wl, hG, hY⟩ := wk.ex
    have re1 := re.ext x1
    rw [hv]
    -- the whole list, known from the end
    obtain ⟨r, Se, hr, pe⟩ : ∃ r Se, compL (compF G ce tg (.c (.bl true)) ρ) w w.its [] S1 = .ok r Se ∧ PostA W Wx σ m1 H1 (M.opt (biD .lenSet [.lst r]) Se) (KV1 W Q) := by
      cases z : compL (compF G ce tg (.c (.bl true)) ρ) w w.its [] S1 with
      | ok r s => rw [z] at p1; exact ⟨r, s, rfl, p1⟩
      | exc c s =>
        exfalso
        -- nothing is raised in a comprehension
        have no : ∀ (l acc : List D) (S : Sto) c s, compL (compF G ce tg (.c (.bl true)) ρ) w l acc S ≠ .exc c s := by
          intro l
          induction l with
          | nil => intro acc S c s h; simp only [compL] at h; split at h <;> cases h
          | cons x l ih =>
            intro acc S c s h
            simp only [compL] at h
            split at h
            · cases y : compF G ce tg (.c (.bl true)) ρ x S with
              | ok o s2 =>
                rw [y] at h
                cases o with
                | none => exact ih acc s2 c s h
                | some y2 =>
                  replace h : (if acc.length < line then compL (compF G ce tg (.c (.bl true)) ρ) w l (acc ++ [y2]) else M.bad) s2 = .exc c s := h
                  split at h
                  · exact ih _ s2 c s h
                  · cases h
              | exc c2 s2 => rw [y] at h; cases h
              | bad => rw [y] at h; cases h
            · cases h
        exact no _ _ _ _ _ z
      | bad => rw [z] at p1; exact p1.elim
    obtain ⟨dE, hdE, _⟩ : ∃ d, biD .lenSet [.lst r] = some d ∧ True := by
      cases z : biD .lenSet [.lst r] with
      | none => rw [z] at pe; exact pe.elim
      | some d => exact ⟨d, rfl, trivial⟩
    obtain ⟨h17, hits, hde⟩ := lenSet_post hdE
    rw [hdE, hde] at pe
    -- the invariant
    refine ⟨fun i n Gk ks H2 => n = w.its.length - i ∧ i ≤ w.its.length ∧ ∃ m2 S2 acc, Ext m1 H1 m2 H2 ∧ RepS W m2 H2 S2 ∧ compL (compF G ce tg (.c (.bl true)) ρ) w (w.its.drop i) acc S2 = .ok r Se ∧ ks.Perm ((onceD acc).map keyOf) ∧
        (∀ k c, Gk k c → ∃ d, Rep W m2 H2 (.ref c) d ∧ nkD d = true ∧ keyOf d = k ∧ d.dep ≤ 7), ⟨w.its.length, fun _ _ => False, rfl, Nat.zero_le _, m1, S1, [], Ext.refl _ _, rs1, by rw [List.drop_zero]; exact hr, by simp [onceD], fun _ _ z => z.elim⟩, ?_⟩
    rintro i n Gk ks H2 ⟨rfl, hi, m2, S2, acc, x2, rs2, hc2, pm, hGk⟩
    have hok : w.ok S2 = true := by
      cases z : w.its.drop i with
      | nil => rw [z] at hc2; simp only [compL] at hc2; split at hc2 <;> first | assumption | cases hc2
      | cons a l => rw [z] at hc2; simp only [compL] at hc2; split at hc2 <;> first | assumption | cases hc2
    have g := hG m2 H2 S2 x2.w rs2 hok
    by_cases hlt : i < w.its.length
    · refine .inr ⟨wl.goes i H2 hlt g, fun G' ks' H' => ∃ m3 S3 acc3, Ext m1 H1 m3 H' ∧ RepS W m3 H' S3 ∧ compL (compF G ce tg (.c (.bl true)) ρ) w (w.its.drop (i + 1)) acc3 S3 = .ok r Se ∧ ks'.Perm ((onceD acc3).map keyOf) ∧
        (∀ k c, G' k c → ∃ d, Rep W m3 H' (.ref c) d ∧ nkD d = true ∧ keyOf d = k ∧ d.dep ≤ 7), fun G' ks' H' q => ⟨w.its.length - (i + 1), by omega, rfl, hlt, q⟩, fun x H3 yy => ?_⟩
      have y := wl.yields i H2 x H3 hlt g yy
      obtain ⟨d, hd, x3, rs3, r3⟩ := hY m2 H2 S2 i x H3 x2.w rs2 hok hlt y
      have edrop : w.its.drop i = d :: w.its.drop (i + 1) := by
        obtain ⟨h1, h2⟩ := List.getElem?_eq_some_iff.mp hd
        rw [List.drop_eq_getElem_cons h1, h2]
      rw [edrop] at hc2
      simp only [compL] at hc2
      rw [if_pos hok] at hc2
      cases hf : compF G ce tg (.c (.bl true)) ρ d S2 with
      | exc c s => rw [hf] at hc2; cases hc2
      | bad => rw [hf] at hc2; cases hc2
      | ok o S4 =>
        rw [hf] at hc2
        cases hb : bindT tg d (wipeE ρ tg.slots) with
        | none => unfold compF at hf; rw [hb] at hf; cases hf
        | some ρ' =>
          obtain ⟨yd, rfl, hy⟩ := ctrue_post hb hf
          replace hc2 : (if acc.length < line then compL (compF G ce tg (.c (.bl true)) ρ) w (w.its.drop (i + 1)) (acc ++ [yd]) else M.bad) S4 = .ok r Se := hc2
          split at hc2
          case isFalse => cases hc2
          obtain ⟨u, hu⟩ := compL_pre _ _ _ _ _ hc2
          have hyin : yd ∈ r := by rw [hu]; simp
          have hy3 := List.all_eq_true.mp hits yd hyin
          simp only [Bool.and_eq_true, decide_eq_true_eq] at hy3
          have alen : acc.length + 1 ≤ 17 := by rw [hu] at h17; simp at h17; omega
          have ait : ∀ z ∈ acc, nkD z = true := fun z hz => by
            have := List.all_eq_true.mp hits z (by rw [hu]; simp [hz])
            simp only [Bool.and_eq_true] at this
            exact this.1.2
          have olen : (onceD acc).length ≤ acc.length := by
            have key : ∀ l : List D, (onceD l).length ≤ l.length := by
              intro l
              induction h : l.length generalizing l with
              | zero => have : l = [] := List.length_eq_zero_iff.mp h; subst this; simp [onceD]
              | succ n ih =>
                rcases List.eq_nil_or_concat l with rfl | ⟨u, c, rfl⟩
                · simp at h
                · rw [List.concat_eq_append] at h ⊢
                  have := ih u (by simp at h; exact h)
                  rw [once_step]
                  split <;> simp at h ⊢ <;> omega
            exact key acc
          refine ⟨m2, wipeE ρ tg.slots, d, ρ', RepE.wipe ((re1.ext x2).ext x3) _, r3, hb, fun σ2 re2 kp => ⟨?_, ?_⟩⟩
          · rw [kp _ fun i hi => hi, wipe_wipe]
          · refine ⟨m2, ρ', S2, re2, rs3, ?_⟩
            rw [hy]
            intro m6 H6 x6 rs6 v r6
            -- the value is a tuple
            obtain ⟨c, rfl⟩ : ∃ c, v = .ref c := by
              have ht := hy3.1.1
              cases r6 <;> first | (cases ht; done) | exact ⟨_, rfl⟩
            refine ⟨keyOf yd, c, fun k' c' => Gk k' c' ∨ (k' = keyOf yd ∧ c' = c), rfl, fun _ _ z => .inl z, .inr ⟨rfl, rfl⟩, fun k' c' z => ?_, ?_, fun ks' p1 p2 => ?_⟩
            · have : ∃ d, Rep W m6 H6 (.ref c') d ∧ nkD d = true ∧ keyOf d = k' ∧ d.dep ≤ 7 := by
                rcases z with z | ⟨rfl, rfl⟩
                · obtain ⟨d, q1, q2⟩ := hGk k' c' z
                  exact ⟨d, (q1.ext x3).ext x6, q2⟩
                · exact ⟨yd, r6, hy3.1.2, rfl, hy3.2⟩
              obtain ⟨d, q1, q2, q3, q4⟩ := this
              rw [hK, ← q3]
              exact ⟨Rep.nk q1 q2, Nat.le_trans (keyOf_dep d) (by omega)⟩
            · have := pm.length_eq
              simp at this
              omega
            · refine ⟨m6, S4, acc ++ [yd], (x2.trans x3).trans x6, rs6, hc2, ?_, fun k' c' z => ?_⟩
              · have mk : keyOf yd ∈ ks ↔ yd ∈ onceD acc := by
                  rw [pm.mem_iff, List.mem_map]
                  constructor
                  · rintro ⟨a, ha, e⟩
                    have := keyOf_inj (ait a (once_mem.mp ha)) hy3.1.2 e
                    exact this ▸ ha
                  · exact fun z => ⟨yd, z, rfl⟩
                rw [once_step]
                by_cases hin : yd ∈ onceD acc
                · rw [if_pos (by simpa using hin)]
                  exact (p1 (mk.mpr hin)).trans pm
                · rw [if_neg (by simpa using hin), List.map_append]
                  refine (p2 fun z => hin (mk.mp z)).trans ((pm.cons _).trans ?_)
                  exact (List.perm_append_singleton _ _).symm
              · rcases z with z | ⟨rfl, rfl⟩
                · obtain ⟨d, q1, q2⟩ := hGk k' c' z
                  exact ⟨d, (q1.ext x3).ext x6, q2⟩
                · exact ⟨yd, r6, hy3.1.2, rfl, hy3.2⟩
    · have e : i = w.its.length := by omega
      subst e
      refine .inl ⟨wl.stops H2 g, fun D hD => ⟨Gk, D, ks, rfl, upd_same, ?_⟩⟩
      rw [List.drop_length] at hc2
      simp only [compL] at hc2
      rw [if_pos hok] at hc2
      cases hc2
      have hl := pm.length_eq
      rw [List.length_map] at hl
      rw [hl]
      exact pe m2 (upd H2 D _) (x2.trans (ext_new hD)) (rs2.new hD) _ (.int _)
theorem se_lenset {scope : Scope} {own : List (Str × Nat)} (O : Okx W Wx X) (hg0 : Gl X "len") (hm0 : X.mg "len" = none) (hv0 : bootBuiltins "len" = some (.builtin "len")) (hi : SI W Wx X G tgt iter it) (ok : BlkOk X.N X.env.scope scope own) (hv : own.map (·.2) = tg.slots)
    (hg : ∀ (s : Shared) (H : Hp) (C : Addr) (cl : List (Str × Addr)) (fp : List Addr), SG W (X.blk s H scope (compEnvC scope cl C X.env) fp) tgt tg)
    (he : ∀ (s : Shared) (H : Hp) (C : Addr) (cl : List (Str × Addr)) (fp : List Addr), SE W Wx0 (X.blk s H scope (compEnvC scope cl C X.env) fp) G elt ce) (hs : ∀ x, foldedSetIterable iter X.env x = pure x := by intro _; rfl)
    (hst : starEach [.SetComp elt [⟨tgt, iter, [], 0⟩] scope pos] X.env = [(false, eval (.SetComp elt [⟨tgt, iter, [], 0⟩] scope pos) X.env)] := by rfl) :
    SE W Wx X G (.Call (.Name "len" p) [.SetComp elt [⟨tgt, iter, [], 0⟩] scope pos] [] cpos) (lenCe ce tg it) := by
  have hu : X.A.units + 9 < cLine := by have := O.hu; omega
  refine PE.imp (pe_callB cr_lenSet hg0 hm0 hv0 (pa_cons (pe_sn hu O.calm O.nd hi ok hg he hs) pa_nil hst) (by decide) (by decide) hst (by rfl)) fun σ H Q h => ?_
  exact lenset_core O.hK hv h
end
end PZ
end
section
set_option linter.all false
set_option maxRecDepth 100000
set_option Elab.async false
namespace PZ
def b_is_whole : CSs := .cons (.ret (.and (.bi .isI (.cons (.v 0) .nil)) (.not (.bi .isB (.cons (.v 0) .nil))))) (.nil)
def d_is_whole : Def := ⟨1, 1, false, b_is_whole⟩
abbrev i_is_whole : Nat := 0
def b_is_word : CSs := .cons (.ret (.and (.bi .isS (.cons (.v 0) .nil)) (.and (.ch .le .le (.c (.int 1)) (.bi .len (.cons (.v 0) (.nil))) (.c (.int 8))) (.bi .all (.cons (.comp (.op .isin (.v 1) (.c (.str [97, 98, 99, 100, 101, 102, 103, 104, 105, 106, 107, 108, 109, 110, 111, 112, 113, 114, 115, 116, 117, 118, 119, 120, 121, 122]))) (.v 1) (.seq (.v 0)) (.c (.bl true))) (.nil)))))) (.nil)
def d_is_word : Def := ⟨2, 1, false, b_is_word⟩
abbrev i_is_word : Nat := 2
def b_common_of : CSs := .cons (.asg (.t (.cons (.v 0) (.cons (.v 1) .nil))) (.tup (.cons (.bi .abs (.cons (.v 0) (.nil))) (.cons (.bi .abs (.cons (.v 1) (.nil))) .nil)))) (.cons (.whl (.op .ne (.v 1) (.c (.int 0))) (.cons (.asg (.t (.cons (.v 0) (.cons (.v 1) .nil))) (.tup (.cons (.v 1) (.cons (.op .mod (.v 0) (.v 1)) .nil)))) (.nil))) (.cons (.ret (.v 0)) (.nil)))
def d_common_of : Def := ⟨2, 2, false, b_common_of⟩
abbrev i_common_of : Nat := 5
def b_is_fraction : CSs := .cons (.ite (.or (.not (.bi .isT (.cons (.v 0) .nil))) (.or (.op .ne (.bi .len (.cons (.v 0) (.nil))) (.c (.int 2))) (.or (.not (.call 0 (.cons (.op .ix (.v 0) (.c (.int 0))) (.nil)))) (.not (.call 0 (.cons (.op .ix (.v 0) (.c (.int 1))) (.nil))))))) (.cons (.ret (.c (.bl false))) (.nil)) (.nil)) (.cons (.ret (.and (.op .gt (.op .ix (.v 0) (.c (.int 1))) (.c (.int 0))) (.op .eq (.call 5 (.cons (.op .ix (.v 0) (.c (.int 0))) (.cons (.op .ix (.v 0) (.c (.int 1))) (.nil)))) (.c (.int 1))))) (.nil))
def d_is_fraction : Def := ⟨1, 1, false, b_is_fraction⟩
abbrev i_is_fraction : Nat := 7
def b_is_day : CSs := .cons (.ret (.and (.call 0 (.cons (.v 0) (.nil))) (.op .ge (.v 0) (.c (.int 0))))) (.nil)
def d_is_day : Def := ⟨1, 1, false, b_is_day⟩
abbrev i_is_day : Nat := 21
def b_is_code : CSs := .cons (.ret (.and (.bi .isS (.cons (.v 0) .nil)) (.and (.op .le (.bi .len (.cons (.v 0) (.nil))) (.c (.int 9))) (.bi .all (.cons (.comp (.op .isin (.v 1) (.c (.str [48, 49, 50, 51]))) (.v 1) (.seq (.v 0)) (.c (.bl true))) (.nil)))))) (.nil)
def d_is_code : Def := ⟨2, 1, false, b_is_code⟩
abbrev i_is_code : Nat := 43
def b_l_cell_at : CSs := .cons (.ite (.op .lt (.v 1) (.bi .len (.cons (.v 0) (.nil)))) (.cons (.ret (.op .ix (.v 0) (.v 1))) (.nil)) (.nil)) (.cons (.ret (.c (.int 0))) (.nil))
def d_l_cell_at : Def := ⟨2, 2, false, b_l_cell_at⟩
abbrev i_l_cell_at : Nat := 117
def b_l_state : CSs := .cons (.asg (.v 2) (.call 117 (.cons (.v 0) (.cons (.v 1) (.nil))))) (.cons (.ret (.new (.lst (.cons (.bi .max2 (.cons (.c (.int 0)) (.cons (.op .sub (.v 2) (.op .pow (.c (.int 10)) (.c (.int 18)))) (.nil)))) (.cons (.op .add (.op .mod (.v 2) (.c (.int 2147483629))) (.c (.int 1))) (.cons (.c (.int 0)) (.nil))))))) (.nil))
def d_l_state : Def := ⟨3, 2, true, b_l_state⟩
abbrev i_l_state : Nat := 118
def b_l_choice : CSs := .cons (.ite (.op .gt (.op .ix (.v 0) (.c (.int 0))) (.c (.int 0))) (.cons (.asg (.v 3) (.op .mod (.op .ix (.v 0) (.c (.int 0))) (.v 1))) (.cons (.setL (.v 0) (.c (.int 0)) (.op .fdiv (.op .ix (.v 0) (.c (.int 0))) (.v 1))) (.cons (.ret (.v 3)) (.nil)))) (.nil)) (.cons (.setL (.v 0) (.c (.int 2)) (.op .add (.op .ix (.v 0) (.c (.int 2))) (.c (.int 1)))) (.cons (.setL (.v 0) (.c (.int 1)) (.op .mod (.op .add (.op .add (.op .mul (.op .ix (.v 0) (.c (.int 1))) (.c (.int 48271))) (.c (.int 29))) (.op .ix (.v 0) (.c (.int 2)))) (.c (.int 2147483647)))) (.cons (.asg (.v 2) (.op .mod (.op .add (.op .add (.op .mul (.op .ix (.v 0) (.c (.int 1))) (.op .ix (.v 0) (.c (.int 1)))) (.op .mul (.c (.int 39373)) (.op .ix (.v 0) (.c (.int 1))))) (.c (.int 7))) (.c (.int 2147483629)))) (.cons (.asg (.v 2) (.op .mod (.op .add (.op .mul (.v 2) (.v 2)) (.op .mul (.c (.int 50021)) (.v 2))) (.c (.int 2147483587)))) (.cons (.ret (.op .mod (.op .fdiv (.v 2) (.c (.int 8))) (.v 1))) (.nil))))))
def d_l_choice : Def := ⟨4, 2, false, b_l_choice⟩
abbrev i_l_choice : Nat := 119
def b_l_low : CSs := .cons (.asg (.t (.cons (.v 3) (.cons (.v 4) .nil))) (.tup (.cons (.bi .abs (.cons (.v 0) (.nil))) (.cons (.bi .abs (.cons (.v 1) (.nil))) .nil)))) (.cons (.whl (.op .gt (.v 4) (.c (.int 0))) (.cons (.asg (.t (.cons (.v 3) (.cons (.v 4) .nil))) (.tup (.cons (.v 4) (.cons (.op .mod (.v 3) (.v 4)) .nil)))) (.nil))) (.cons (.asg (.v 2) (.ite (.op .gt (.v 1) (.c (.int 0))) (.v 3) (.op .sub (.c (.int 0)) (.v 3)))) (.cons (.ret (.tup (.cons (.op .fdiv (.v 0) (.v 2)) (.cons (.op .fdiv (.v 1) (.v 2)) (.nil))))) (.nil))))
def d_l_low : Def := ⟨5, 2, false, b_l_low⟩
abbrev i_l_low : Nat := 120
def b_l_any : CSs := .cons (.asg (.v 1) (.call 119 (.cons (.v 0) (.cons (.op .ix (.lst (.cons (.c (.int 7)) (.cons (.c (.int 200)) (.cons (.op .pow (.c (.int 10)) (.c (.int 9))) (.nil))))) (.call 119 (.cons (.v 0) (.cons (.c (.int 3)) (.nil))))) (.nil))))) (.cons (.asg (.v 2) (.op .ix (.lst (.cons (.c (.int 1)) (.cons (.c (.int 2)) (.cons (.c (.int 3)) (.cons (.c (.int 7)) (.cons (.c (.int 12)) (.cons (.op .add (.op .pow (.c (.int 10)) (.c (.int 6))) (.c (.int 3))) (.nil)))))))) (.call 119 (.cons (.v 0) (.cons (.c (.int 6)) (.nil)))))) (.cons (.ret (.call 120 (.cons (.op .mul (.v 1) (.op .ix (.lst (.cons (.c (.int 1)) (.cons (.neg (.c (.int 1))) (.nil)))) (.call 119 (.cons (.v 0) (.cons (.c (.int 2)) (.nil)))))) (.cons (.v 2) (.nil))))) (.nil)))
def d_l_any : Def := ⟨3, 1, false, b_l_any⟩
abbrev i_l_any : Nat := 127
def b_l_same : CSs := .cons (.ret (.op .eq (.bi .repr (.cons (.v 0) (.nil))) (.bi .repr (.cons (.v 1) (.nil))))) (.nil)
def d_l_same : Def := ⟨2, 2, false, b_l_same⟩
abbrev i_l_same : Nat := 137
def b_is_of : CSs := .cons (.ite (.op .eq (.v 0) (.c (.str [119]))) (.cons (.ret (.call 2 (.cons (.v 1) (.nil)))) (.nil)) (.nil)) (.cons (.ite (.op .eq (.v 0) (.c (.str [102]))) (.cons (.ret (.call 7 (.cons (.v 1) (.nil)))) (.nil)) (.nil)) (.cons (.ret (.ite (.op .eq (.v 0) (.c (.str [99]))) (.call 43 (.cons (.v 1) (.nil))) (.call 21 (.cons (.v 1) (.nil))))) (.nil)))
def d_is_of : Def := ⟨2, 2, false, b_is_of⟩
abbrev i_is_of : Nat := 234
def b_has_shape : CSs := .cons (.ite (.or (.not (.bi .isT (.cons (.v 0) .nil))) (.or (.op .eq (.v 0) (.tup (.nil))) (.or (.not (.bi .isS (.cons (.op .ix (.v 0) (.c (.int 0))) .nil))) (.gin true 1 (.op .ix (.v 0) (.c (.int 0))))))) (.cons (.ret (.c (.bl false))) (.nil)) (.nil)) (.cons (.asg (.v 1) (.gget 1 (.op .ix (.v 0) (.c (.int 0))))) (.cons (.ret (.and (.op .eq (.bi .len (.cons (.v 0) (.nil))) (.op .add (.bi .len (.cons (.v 1) (.nil))) (.c (.int 1)))) (.bi .all (.cons (.comp (.call 234 (.cons (.v 2) (.cons (.v 3) (.nil)))) (.t (.cons (.v 2) (.cons (.v 3) (.nil)))) (.zip (.cons (.v 1) (.cons (.slLo (.v 0) (.c (.int 1))) (.nil)))) (.c (.bl true))) (.nil))))) (.nil)))
def d_has_shape : Def := ⟨4, 1, false, b_has_shape⟩
abbrev i_has_shape : Nat := 235
def b_written : CSs := .cons (.asg (.t (.cons (.v 1) (.cons (.v 2) (.nil)))) (.v 0)) (.cons (.ret (.ite (.op .eq (.v 2) (.c (.int 1))) (.fstr (.cons (.v 1) .nil)) (.fstr (.cons (.v 1) (.cons (.c (.str [47])) (.cons (.v 2) (.nil))))))) (.nil))
def d_written : Def := ⟨3, 1, false, b_written⟩
abbrev i_written : Nat := 236
def b_fraction_text : CSs := .cons (.ite (.not (.call 7 (.cons (.v 0) (.nil)))) (.cons (.rse 1) (.nil)) (.nil)) (.cons (.ret (.call 236 (.cons (.v 0) (.nil)))) (.nil))
def d_fraction_text : Def := ⟨1, 1, false, b_fraction_text⟩
abbrev i_fraction_text : Nat := 237
def b_word_of : CSs := .cons (.ite (.op .eq (.v 0) (.c (.str [102]))) (.cons (.ret (.call 236 (.cons (.v 1) (.nil)))) (.nil)) (.nil)) (.cons (.ret (.ite (.op .eq (.v 1) (.c (.str []))) (.c (.str [45])) (.bi .str (.cons (.v 1) (.nil))))) (.nil))
def d_word_of : Def := ⟨2, 2, false, b_word_of⟩
abbrev i_word_of : Nat := 238
def b_form_by : CSs := .cons (.asg (.v 1) (.gget 1 (.op .ix (.v 0) (.c (.int 0))))) (.cons (.ret (.me .join (.c (.str [32])) (.cons (.op .add (.lst (.cons (.op .ix (.v 0) (.c (.int 0))) (.nil))) (.comp (.call 238 (.cons (.v 2) (.cons (.v 3) (.nil)))) (.t (.cons (.v 2) (.cons (.v 3) (.nil)))) (.zip (.cons (.v 1) (.cons (.slLo (.v 0) (.c (.int 1))) (.nil)))) (.c (.bl true)))) (.nil)))) (.nil))
def d_form_by : Def := ⟨4, 1, false, b_form_by⟩
abbrev i_form_by : Nat := 239
def b_form_text : CSs := .cons (.ite (.not (.call 235 (.cons (.v 0) (.nil)))) (.cons (.rse 25) (.nil)) (.nil)) (.cons (.ret (.call 239 (.cons (.v 0) (.nil)))) (.nil))
def d_form_text : Def := ⟨1, 1, false, b_form_text⟩
abbrev i_form_text : Nat := 240
def b_l_marks'2 : CSs := .cons (.asg (.v 1) (.lst (.cons (.isx (some 24) (.v 0)) (.cons (.isx (some 27) (.v 0)) (.cons (.isx (some 14) (.v 0)) (.cons (.isx (some 18) (.v 0)) (.nil))))))) (.cons (.asg (.v 1) (.op .add (.v 1) (.lst (.cons (.isx (some 29) (.v 0)) (.cons (.isx (some 8) (.v 0)) (.cons (.isx (some 25) (.v 0)) (.cons (.isx (some 4) (.v 0)) (.nil)))))))) (.cons (.asg (.v 1) (.op .add (.v 1) (.lst (.cons (.isx (some 3) (.v 0)) (.cons (.isx (some 21) (.v 0)) (.cons (.isx (some 26) (.v 0)) (.nil))))))) (.cons (.asg (.v 1) (.op .add (.v 1) (.lst (.cons (.isx (some 31) (.v 0)) (.nil))))) (.cons (.asg (.v 1) (.op .add (.v 1) (.lst (.cons (.isx (some 2) (.v 0)) (.cons (.isx (some 19) (.v 0)) (.cons (.isx (some 28) (.v 0)) (.cons (.isx (some 17) (.v 0)) (.nil)))))))) (.cons (.asg (.v 1) (.op .add (.v 1) (.lst (.cons (.isx (some 1) (.v 0)) (.cons (.isx (some 6) (.v 0)) (.cons (.isx (some 20) (.v 0)) (.nil))))))) (.cons (.asg (.v 1) (.op .add (.v 1) (.lst (.cons (.isx (some 5) (.v 0)) (.nil))))) (.cons (.asg (.v 1) (.op .add (.v 1) (.lst (.cons (.isx (some 12) (.v 0)) (.cons (.isx (some 15) (.v 0)) (.cons (.isx (some 13) (.v 0)) (.cons (.isx (some 16) (.v 0)) (.nil)))))))) (.cons (.asg (.v 1) (.op .add (.v 1) (.lst (.cons (.isx (some 23) (.v 0)) (.cons (.isx (some 30) (.v 0)) (.cons (.isx (some 10) (.v 0)) (.nil))))))) (.cons (.asg (.v 1) (.op .add (.v 1) (.lst (.cons (.isx (some 7) (.v 0)) (.nil))))) (.cons (.ret (.op .add (.v 1) (.lst (.cons (.isx (some 9) (.v 0)) (.cons (.isx (some 11) (.v 0)) (.cons (.isx (some 22) (.v 0)) (.nil))))))) (.nil)))))))))))
def d_l_marks'2 : Def := ⟨2, 1, false, b_l_marks'2⟩
abbrev i_l_marks'2 : Nat := 241
def b_l_word'3 : CSs := .cons (.asg (.v 1) (.lst (.cons (.c (.str [97, 116, 108, 97, 115])) (.cons (.c (.str [99, 104, 97, 105, 110])) (.cons (.c (.str [99, 108, 111, 115, 101, 100])) (.cons (.c (.str [100, 97, 121])) (.cons (.c (.str [100, 101, 101, 100])) (.cons (.c (.str [100, 101, 112, 116, 104])) (.cons (.c (.str [102, 111, 114, 109])) (.cons (.c (.str [102, 114, 97, 109, 101])) (.cons (.c (.str [102, 114, 97, 109, 101, 115])) (.cons (.c (.str [105, 110, 115, 116, 97, 110, 116])) (.nil))))))))))))) (.cons (.asg (.v 1) (.op .add (.v 1) (.lst (.cons (.c (.str [107, 105, 110, 100])) (.cons (.c (.str [108, 105, 110, 101])) (.nil)))))) (.cons (.asg (.v 1) (.op .add (.v 1) (.lst (.cons (.c (.str [109, 97, 112])) (.cons (.c (.str [109, 111, 118, 101, 115])) (.cons (.c (.str [110, 97, 109, 101])) (.cons (.c (.str [110, 117, 109, 98, 101, 114])) (.cons (.c (.str [112, 111, 105, 110, 116])) (.cons (.c (.str [112, 111, 105, 110, 116, 115])) (.cons (.c (.str [114, 101, 103, 105, 111, 110])) (.cons (.c (.str [114, 105, 110, 103])) (.cons (.c (.str [114, 111, 97, 100])) (.cons (.c (.str [114, 111, 119, 115])) (.cons (.c (.str [115, 112, 111, 116])) (.nil))))))))))))))) (.cons (.asg (.v 1) (.op .add (.v 1) (.lst (.cons (.c (.str [115, 116, 114, 101, 101, 116])) (.cons (.c (.str [116, 101, 108, 108, 105, 110, 103])) (.cons (.c (.str [116, 101, 120, 116])) (.cons (.c (.str [116, 104, 101, 114, 101])) (.cons (.c (.str [116, 105, 108, 101])) (.cons (.c (.str [116, 105, 108, 101, 115])) (.cons (.c (.str [119, 101, 98])) (.cons (.c (.str [122, 111, 110, 101, 115])) (.nil)))))))))))) (.cons (.asg (.v 2) (.call 241 (.cons (.v 0) (.nil)))) (.cons (.ret (.ite (.and (.op .eq (.me .count (.v 2) (.cons (.c (.bl true)) (.nil))) (.c (.int 1))) (.isx none (.v 0))) (.op .ix (.v 1) (.me .index (.v 2) (.cons (.c (.bl true)) (.nil)))) (.c (.str [111, 116, 104, 101, 114])))) (.nil))))))
def d_l_word'3 : Def := ⟨3, 1, false, b_l_word'3⟩
abbrev i_l_word'3 : Nat := 242
def b_l_signs : CSs := .cons (.ret (.me .join (.c (.str [])) (.cons (.comp (.op .ix (.c (.str [97, 98, 99, 120, 121, 122])) (.call 119 (.cons (.v 0) (.cons (.c (.int 6)) (.nil))))) (.v 2) (.rng1 (.v 1)) (.c (.bl true))) (.nil)))) (.nil)
def d_l_signs : Def := ⟨3, 2, false, b_l_signs⟩
abbrev i_l_signs : Nat := 244
def b_l_shape : CSs := .cons (.asg (.v 1) (.call 119 (.cons (.v 0) (.cons (.c (.int 5)) (.nil))))) (.cons (.ite (.op .eq (.v 1) (.c (.int 0))) (.cons (.asg (.v 2) (.op .ix (.lst (.cons (.c (.str [103, 114, 111, 117, 110, 100])) (.cons (.c (.str [97])) (.cons (.c (.str [98, 97, 115, 101])) (.cons (.call 244 (.cons (.v 0) (.cons (.c (.int 8)) (.nil)))) (.nil)))))) (.call 119 (.cons (.v 0) (.cons (.c (.int 4)) (.nil)))))) (.cons (.ret (.tup (.cons (.c (.str [112, 111, 105, 110, 116])) (.cons (.v 2) (.cons (.call 127 (.cons (.v 0) (.nil))) (.cons (.call 127 (.cons (.v 0) (.nil))) (.nil))))))) (.nil))) (.nil)) (.cons (.ite (.op .eq (.v 1) (.c (.int 1))) (.cons (.ret (.tup (.cons (.c (.str [116, 105, 108, 101])) (.cons (.me .join (.c (.str [])) (.cons (.comp (.op .ix (.c (.str [48, 49, 50, 51])) (.call 119 (.cons (.v 0) (.cons (.c (.int 4)) (.nil))))) (.v 3) (.rng1 (.call 119 (.cons (.v 0) (.cons (.c (.int 10)) (.nil))))) (.c (.bl true))) (.nil))) (.nil))))) (.nil)) (.nil)) (.cons (.ite (.op .eq (.v 1) (.c (.int 2))) (.cons (.ret (.tup (.cons (.c (.str [115, 112, 111, 116])) (.cons (.op .ix (.lst (.cons (.c (.int 0)) (.cons (.call 119 (.cons (.v 0) (.cons (.c (.int 20)) (.nil)))) (.cons (.op .pow (.c (.int 10)) (.c (.int 27))) (.nil))))) (.call 119 (.cons (.v 0) (.cons (.c (.int 3)) (.nil))))) (.cons (.call 127 (.cons (.v 0) (.nil))) (.nil)))))) (.nil)) (.nil)) (.cons (.ite (.op .eq (.v 1) (.c (.int 3))) (.cons (.ret (.tup (.cons (.c (.str [97, 100, 100, 114, 101, 115, 115])) (.cons (.op .ix (.lst (.cons (.c (.str [101, 108, 109])) (.cons (.c (.str [111, 97, 107])) (.cons (.call 244 (.cons (.v 0) (.cons (.c (.int 1)) (.nil)))) (.nil))))) (.call 119 (.cons (.v 0) (.cons (.c (.int 3)) (.nil))))) (.cons (.call 119 (.cons (.v 0) (.cons (.c (.int 1000)) (.nil)))) (.nil)))))) (.nil)) (.nil)) (.cons (.ret (.tup (.cons (.c (.str [114, 101, 103, 105, 111, 110])) (.cons (.op .ix (.lst (.cons (.c (.str [102, 101, 110])) (.cons (.c (.str [108, 97, 110, 100])) (.cons (.call 244 (.cons (.v 0) (.cons (.c (.int 8)) (.nil)))) (.nil))))) (.call 119 (.cons (.v 0) (.cons (.c (.int 3)) (.nil))))) (.nil))))) (.nil))))))
def d_l_shape : Def := ⟨4, 1, false, b_l_shape⟩
abbrev i_l_shape : Nat := 245
def b_l_fraction_text : CSs := .cons (.ret (.op .add (.bi .str (.cons (.op .ix (.v 0) (.c (.int 0))) (.nil))) (.op .mul (.op .add (.c (.str [47])) (.bi .str (.cons (.op .ix (.v 0) (.c (.int 1))) (.nil)))) (.bi .int (.cons (.op .gt (.op .ix (.v 0) (.c (.int 1))) (.c (.int 1))) (.nil)))))) (.nil)
def d_l_fraction_text : Def := ⟨1, 1, false, b_l_fraction_text⟩
abbrev i_l_fraction_text : Nat := 246
def b_l_form_text : CSs := .cons (.asg (.v 1) (.new (.lst (.cons (.op .ix (.v 0) (.c (.int 0))) (.nil))))) (.cons (.loop (.v 2) (.seq (.slLo (.v 0) (.c (.int 1)))) (.cons (.ite (.bi .isT (.cons (.v 2) .nil)) (.cons (.ex (.me .append (.v 1) (.cons (.call 246 (.cons (.v 2) (.nil))) (.nil)))) (.nil)) (.cons (.ex (.me .append (.v 1) (.cons (.ite (.op .eq (.v 2) (.c (.str []))) (.c (.str [45])) (.bi .str (.cons (.v 2) (.nil)))) (.nil)))) (.nil))) (.nil))) (.cons (.ret (.me .join (.c (.str [32])) (.cons (.v 1) (.nil)))) (.nil)))
def d_l_form_text : Def := ⟨3, 1, false, b_l_form_text⟩
abbrev i_l_form_text : Nat := 247
def b_l_no_shapes : CSs := .cons (.asg (.v 1) (.lst (.cons (.c .non) (.cons (.tup (.nil)) (.cons (.c (.str [116, 105, 108, 101, 32, 48])) (.cons (.tup (.cons (.c (.str [116, 105, 108, 101])) (.nil))) (.cons (.tup (.cons (.c (.str [116, 105, 108, 101])) (.cons (.c (.str [52])) (.nil)))) (.cons (.tup (.cons (.c (.str [116, 105, 108, 101])) (.cons (.op .mul (.c (.str [48])) (.c (.int 10))) (.nil)))) (.cons (.tup (.cons (.c (.str [116, 105, 108, 101])) (.cons (.c (.int 0)) (.nil)))) (.nil)))))))))) (.cons (.asg (.v 1) (.op .add (.v 1) (.lst (.cons (.tup (.cons (.c (.str [116, 105, 108, 101])) (.cons (.c (.str [48])) (.cons (.c (.str [49])) (.nil))))) (.cons (.lst (.cons (.c (.str [116, 105, 108, 101])) (.cons (.c (.str [48])) (.nil)))) (.nil)))))) (.cons (.asg (.v 1) (.op .add (.v 1) (.lst (.cons (.tup (.cons (.c (.str [84, 105, 108, 101])) (.cons (.c (.str [48])) (.nil)))) (.cons (.tup (.cons (.c (.str [115, 112, 111, 116])) (.cons (.neg (.c (.int 1))) (.cons (.tup (.cons (.c (.int 0)) (.cons (.c (.int 1)) (.nil)))) (.nil))))) (.cons (.tup (.cons (.c (.str [115, 112, 111, 116])) (.cons (.c (.bl true)) (.cons (.tup (.cons (.c (.int 0)) (.cons (.c (.int 1)) (.nil)))) (.nil))))) (.cons (.tup (.cons (.c (.str [115, 112, 111, 116])) (.cons (.c (.int 0)) (.cons (.c (.int 5)) (.nil))))) (.cons (.tup (.cons (.c (.str [115, 112, 111, 116])) (.cons (.c (.int 0)) (.cons (.tup (.cons (.c (.int 2)) (.cons (.c (.int 4)) (.nil)))) (.nil))))) (.nil))))))))) (.cons (.asg (.v 1) (.op .add (.v 1) (.lst (.cons (.tup (.cons (.c (.str [97, 100, 100, 114, 101, 115, 115])) (.cons (.c (.str [101, 108, 109])) (.cons (.neg (.c (.int 1))) (.nil))))) (.cons (.tup (.cons (.c (.str [97, 100, 100, 114, 101, 115, 115])) (.cons (.c (.str [69, 108, 109])) (.cons (.c (.int 1)) (.nil))))) (.cons (.tup (.cons (.c (.str [97, 100, 100, 114, 101, 115, 115])) (.cons (.c (.str [101, 108, 109])) (.cons (.c .non) (.nil))))) (.cons (.tup (.cons (.c (.str [114, 101, 103, 105, 111, 110])) (.cons (.c (.str [])) (.nil)))) (.nil)))))))) (.cons (.asg (.v 1) (.op .add (.v 1) (.lst (.cons (.tup (.cons (.c (.str [114, 101, 103, 105, 111, 110])) (.cons (.c (.str [97, 32, 98])) (.nil)))) (.nil))))) (.cons (.asg (.v 1) (.op .add (.v 1) (.lst (.cons (.tup (.cons (.c (.str [112, 111, 105, 110, 116])) (.cons (.c (.str [103, 114, 111, 117, 110, 100])) (.cons (.tup (.cons (.c (.int 0)) (.cons (.c (.int 1)) (.nil)))) (.nil))))) (.cons (.tup (.cons (.c (.str [112, 111, 105, 110, 116])) (.cons (.c (.str [103, 114, 111, 117, 110, 100])) (.cons (.tup (.cons (.c (.int 0)) (.cons (.c (.int 1)) (.nil)))) (.cons (.tup (.cons (.c (.int 1)) (.cons (.c (.int 0)) (.nil)))) (.nil)))))) (.nil)))))) (.cons (.asg (.v 1) (.op .add (.v 1) (.lst (.cons (.tup (.cons (.c (.str [112, 111, 105, 110, 116])) (.cons (.c .non) (.cons (.tup (.cons (.c (.int 0)) (.cons (.c (.int 1)) (.nil)))) (.cons (.tup (.cons (.c (.int 0)) (.cons (.c (.int 1)) (.nil)))) (.nil)))))) (.cons (.dict false .nil .nil) (.nil)))))) (.cons (.asg (.v 1) (.op .add (.v 1) (.lst (.cons (.tup (.cons (.c (.str [114, 101, 103, 105, 111, 110])) (.cons (.c (.str [97, 98, 99, 100, 101, 102, 103, 104, 105])) (.nil)))) (.cons (.tup (.cons (.c (.str [114, 101, 103, 105, 111, 110])) (.cons (.tup (.cons (.c (.str [102, 101, 110])) (.nil))) (.nil)))) (.cons (.tup (.cons (.lst (.cons (.c (.str [116, 105, 108, 101])) (.nil))) (.cons (.c (.str [48])) (.nil)))) (.nil))))))) (.cons (.ret (.op .add (.v 1) (.lst (.cons (.tup (.cons (.c (.str [115, 116, 114, 101, 116, 99, 104])) (.cons (.c (.int 0)) (.cons (.tup (.cons (.c (.int 0)) (.cons (.c (.int 1)) (.nil)))) (.cons (.tup (.cons (.c (.int 1)) (.cons (.c (.int 1)) (.nil)))) (.nil)))))) (.cons (.c (.int 0)) (.nil)))))) (.nil)))))))))
def d_l_no_shapes : Def := ⟨2, 1, false, b_l_no_shapes⟩
abbrev i_l_no_shapes : Nat := 248
def b_l_right : CSs := .cons (.loop (.v 1) (.rng1 (.c (.int 8))) (.cons (.asg (.t (.cons (.v 6) (.cons (.v 7) .nil))) (.tup (.cons (.call 127 (.cons (.v 0) (.nil))) (.cons (.call 245 (.cons (.v 0) (.nil))) .nil)))) (.cons (.asg (.v 4) (.bi .repr (.cons (.tup (.cons (.v 6) (.cons (.v 7) (.nil)))) (.nil)))) (.cons (.loop (.v 5) (.rng1 (.c (.int 2))) (.cons (.ite (.or (.op .ne (.call 237 (.cons (.v 6) (.nil))) (.call 246 (.cons (.v 6) (.nil)))) (.op .ne (.call 240 (.cons (.v 7) (.nil))) (.call 247 (.cons (.v 7) (.nil))))) (.cons (.ret (.c (.bl false))) (.nil)) (.nil)) (.nil))) (.cons (.ite (.op .ne (.bi .repr (.cons (.tup (.cons (.v 6) (.cons (.v 7) (.nil)))) (.nil))) (.v 4)) (.cons (.ret (.c (.bl false))) (.nil)) (.nil)) (.nil)))))) (.cons (.loop (.v 2) (.seq (.lst (.cons (.c .non) (.cons (.tup (.cons (.c (.int 2)) (.cons (.c (.int 4)) (.nil)))) (.cons (.tup (.cons (.c (.int 1)) (.cons (.c (.int 0)) (.nil)))) (.cons (.tup (.cons (.c (.int 1)) (.cons (.neg (.c (.int 1))) (.nil)))) (.cons (.tup (.cons (.c (.int 0)) (.cons (.c (.int 2)) (.nil)))) (.cons (.c (.int 5)) (.cons (.c (.str [49, 47, 50])) (.cons (.tup (.cons (.c (.bl true)) (.cons (.c (.int 1)) (.nil)))) (.cons (.lst (.cons (.c (.int 1)) (.cons (.c (.int 2)) (.nil)))) (.cons (.tup (.cons (.c (.int 1)) (.cons (.c (.int 2)) (.cons (.c (.int 3)) (.nil))))) (.cons (.tup (.nil)) (.cons (.tup (.cons (.c (.int 1)) (.cons (.c .non) (.nil)))) (.nil))))))))))))))) (.cons (.ite (.op .ne (.said 243 (.call 237 (.cons (.v 2) (.nil)))) (.c (.str [112, 111, 105, 110, 116]))) (.cons (.ret (.c (.bl false))) (.nil)) (.nil)) (.nil))) (.cons (.loop (.v 2) (.seq (.call 248 (.cons (.v 0) (.nil)))) (.cons (.ite (.op .ne (.said 243 (.call 240 (.cons (.v 2) (.nil)))) (.c (.str [102, 111, 114, 109]))) (.cons (.ret (.c (.bl false))) (.nil)) (.nil)) (.nil))) (.cons (.asg (.v 3) (.lst (.cons (.tup (.cons (.tup (.cons (.c (.int 0)) (.cons (.c (.int 1)) (.nil)))) (.cons (.c (.str [48])) (.nil)))) (.cons (.tup (.cons (.tup (.cons (.neg (.c (.int 7))) (.cons (.c (.int 2)) (.nil)))) (.cons (.c (.str [45, 55, 47, 50])) (.nil)))) (.cons (.tup (.cons (.tup (.cons (.c (.int 3)) (.cons (.c (.int 1)) (.nil)))) (.cons (.c (.str [51])) (.nil)))) (.cons (.tup (.cons (.tup (.cons (.op .pow (.c (.int 10)) (.c (.int 29))) (.cons (.c (.int 3)) (.nil)))) (.cons (.op .add (.op .add (.c (.str [49])) (.op .mul (.c (.str [48])) (.c (.int 29)))) (.c (.str [47, 51]))) (.nil)))) (.nil))))))) (.cons (.ret (.op .eq (.comp (.call 237 (.cons (.v 8) (.nil))) (.t (.cons (.v 8) (.cons (.v 9) (.nil)))) (.seq (.v 3)) (.c (.bl true))) (.comp (.v 9) (.t (.cons (.v 8) (.cons (.v 9) (.nil)))) (.seq (.v 3)) (.c (.bl true))))) (.nil)))))
def d_l_right : Def := ⟨10, 1, false, b_l_right⟩
abbrev i_l_right : Nat := 249
def b_law'8 : CSs := .cons (.loop (.v 1) (.rng1 (.bi .max2 (.cons (.c (.int 1)) (.cons (.bi .min2 (.cons (.bi .len (.cons (.v 0) (.nil))) (.cons (.c (.int 4)) (.nil)))) (.nil))))) (.cons (.asg (.v 2) (.call 118 (.cons (.v 0) (.cons (.v 1) (.nil))))) (.cons (.loop (.v 3) (.rng1 (.c (.int 1))) (.cons (.ite (.not (.call 249 (.cons (.v 2) (.nil)))) (.cons (.ret (.c (.bl false))) (.nil)) (.nil)) (.nil))) (.nil)))) (.cons (.ret (.c (.bl true))) (.nil))
def d_law'8 : Def := ⟨4, 1, false, b_law'8⟩
abbrev i_law'8 : Nat := 250
def b_is_code'2 : CSs := .cons (.ret (.and (.bi .isS (.cons (.v 0) .nil)) (.and (.op .le (.bi .len (.cons (.v 0) (.nil))) (.c (.int 9))) (.bi .all (.cons (.comp (.op .isin (.v 1) (.c (.str [48, 49, 50, 51]))) (.v 1) (.seq (.v 0)) (.c (.bl true))) (.nil)))))) (.nil)
def d_is_code'2 : Def := ⟨2, 1, false, b_is_code'2⟩
abbrev i_is_code'2 : Nat := 251
def b_number_in : CSs := .cons (.ite (.or (.op .eq (.v 0) (.c (.str []))) (.or (.not (.bi .all (.cons (.comp (.op .isin (.v 1) (.c (.str [48, 49, 50, 51, 52, 53, 54, 55, 56, 57]))) (.v 1) (.seq (.v 0)) (.c (.bl true))) (.nil)))) (.and (.op .eq (.op .ix (.v 0) (.c (.int 0))) (.c (.str [48]))) (.op .ne (.v 0) (.c (.str [48])))))) (.cons (.ret (.c .non)) (.nil)) (.nil)) (.cons (.ret (.bi .int (.cons (.v 0) (.nil)))) (.nil))
def d_number_in : Def := ⟨2, 1, false, b_number_in⟩
abbrev i_number_in : Nat := 252
def b_whole_in : CSs := .cons (.ite (.op .ne (.slHi (.v 0) (.c (.int 1))) (.c (.str [45]))) (.cons (.ret (.call 252 (.cons (.v 0) (.nil)))) (.nil)) (.nil)) (.cons (.asg (.v 1) (.call 252 (.cons (.slLo (.v 0) (.c (.int 1))) (.nil)))) (.cons (.ret (.ite (.or (.op .isN (.v 1) (.c .non)) (.op .eq (.v 1) (.c (.int 0)))) (.c .non) (.op .sub (.c (.int 0)) (.v 1)))) (.nil)))
def d_whole_in : Def := ⟨2, 1, false, b_whole_in⟩
abbrev i_whole_in : Nat := 253
def b_fraction_in : CSs := .cons (.asg (.t (.cons (.v 3) (.cons (.v 4) (.cons (.v 5) (.nil))))) (.me .partition (.v 0) (.cons (.c (.str [47])) (.nil)))) (.cons (.asg (.v 1) (.call 253 (.cons (.v 3) (.nil)))) (.cons (.asg (.v 2) (.ite (.op .ne (.v 4) (.c (.str []))) (.call 252 (.cons (.v 5) (.nil))) (.c (.int 1)))) (.cons (.ite (.or (.op .isN (.v 1) (.c .non)) (.or (.op .isN (.v 2) (.c .non)) (.or (.and (.op .ne (.v 4) (.c (.str []))) (.op .lt (.v 2) (.c (.int 2)))) (.not (.call 7 (.cons (.tup (.cons (.v 1) (.cons (.v 2) (.nil)))) (.nil))))))) (.cons (.ret (.c .non)) (.nil)) (.nil)) (.cons (.ret (.tup (.cons (.v 1) (.cons (.v 2) (.nil))))) (.nil)))))
def d_fraction_in : Def := ⟨6, 1, false, b_fraction_in⟩
abbrev i_fraction_in : Nat := 254
def b_thing_in : CSs := .cons (.ite (.op .eq (.v 0) (.c (.str [102]))) (.cons (.ret (.call 254 (.cons (.v 1) (.nil)))) (.nil)) (.nil)) (.cons (.ite (.op .eq (.v 0) (.c (.str [110]))) (.cons (.ret (.call 252 (.cons (.v 1) (.nil)))) (.nil)) (.nil)) (.cons (.ite (.op .eq (.v 0) (.c (.str [99]))) (.cons (.asg (.v 2) (.ite (.op .eq (.v 1) (.c (.str [45]))) (.c (.str [])) (.v 1))) (.cons (.ret (.ite (.and (.op .ne (.v 1) (.c (.str []))) (.call 251 (.cons (.v 2) (.nil)))) (.v 2) (.c .non))) (.nil))) (.nil)) (.cons (.ret (.ite (.call 2 (.cons (.v 1) (.nil))) (.v 1) (.c .non))) (.nil))))
def d_thing_in : Def := ⟨3, 2, false, b_thing_in⟩
abbrev i_thing_in : Nat := 255
def b_form_in : CSs := .cons (.asg (.hd 3 4) (.me .split (.v 0) (.cons (.c (.str [32])) (.nil)))) (.cons (.asg (.v 1) (.ggetD 1 (.v 3) (.c (.str [])))) (.cons (.ite (.or (.op .eq (.v 1) (.c (.str []))) (.op .ne (.bi .len (.cons (.v 4) (.nil))) (.bi .len (.cons (.v 1) (.nil))))) (.cons (.ret (.c .non)) (.nil)) (.nil)) (.cons (.asg (.v 2) (.comp (.call 255 (.cons (.v 5) (.cons (.v 6) (.nil)))) (.t (.cons (.v 5) (.cons (.v 6) (.nil)))) (.zip (.cons (.v 1) (.cons (.v 4) (.nil)))) (.c (.bl true)))) (.cons (.ret (.ite (.op .isin (.c .non) (.v 2)) (.c .non) (.op .add (.tup (.cons (.v 3) (.nil))) (.bi .tuple (.cons (.v 2) (.nil)))))) (.nil)))))
def d_form_in : Def := ⟨7, 1, false, b_form_in⟩
abbrev i_form_in : Nat := 256
def b_read_fraction : CSs := .cons (.asg (.v 1) (.ite (.bi .isS (.cons (.v 0) .nil)) (.call 254 (.cons (.v 0) (.nil))) (.c .non))) (.cons (.ite (.op .isN (.v 1) (.c .non)) (.cons (.rse 30) (.nil)) (.nil)) (.cons (.ret (.v 1)) (.nil)))
def d_read_fraction : Def := ⟨2, 1, false, b_read_fraction⟩
abbrev i_read_fraction : Nat := 257
def b_read_form : CSs := .cons (.asg (.v 1) (.ite (.bi .isS (.cons (.v 0) .nil)) (.call 256 (.cons (.v 0) (.nil))) (.c .non))) (.cons (.ite (.op .isN (.v 1) (.c .non)) (.cons (.rse 30) (.nil)) (.nil)) (.cons (.ret (.v 1)) (.nil)))
def d_read_form : Def := ⟨2, 1, false, b_read_form⟩
abbrev i_read_form : Nat := 258
def b_l_number_in : CSs := .cons (.ite (.or (.op .eq (.v 0) (.c (.str []))) (.op .ne (.comp (.v 1) (.v 1) (.seq (.v 0)) (.op .notin (.v 1) (.c (.str [48, 49, 50, 51, 52, 53, 54, 55, 56, 57])))) (.lst (.nil)))) (.cons (.ret (.c .non)) (.nil)) (.nil)) (.cons (.ret (.ite (.op .eq (.bi .str (.cons (.bi .int (.cons (.v 0) (.nil))) (.nil))) (.v 0)) (.bi .int (.cons (.v 0) (.nil))) (.c .non))) (.nil))
def d_l_number_in : Def := ⟨2, 1, false, b_l_number_in⟩
abbrev i_l_number_in : Nat := 259
def b_l_fraction_in : CSs := .cons (.asg (.v 1) (.me .split (.v 0) (.cons (.c (.str [47])) (.nil)))) (.cons (.asg (.v 2) (.ite (.op .eq (.slHi (.v 0) (.c (.int 1))) (.c (.str [45]))) (.neg (.c (.int 1))) (.c (.int 1)))) (.cons (.asg (.v 3) (.call 259 (.cons (.slLo (.op .ix (.v 1) (.c (.int 0))) (.bi .int (.cons (.op .lt (.v 2) (.c (.int 0))) (.nil)))) (.nil)))) (.cons (.asg (.v 4) (.ite (.op .eq (.bi .len (.cons (.v 1) (.nil))) (.c (.int 2))) (.call 259 (.cons (.op .ix (.v 1) (.c (.int 1))) (.nil))) (.c (.int 1)))) (.cons (.ite (.or (.op .gt (.bi .len (.cons (.v 1) (.nil))) (.c (.int 2))) (.or (.op .isN (.v 3) (.c .non)) (.or (.op .isN (.v 4) (.c .non)) (.or (.op .lt (.v 4) (.c (.int 1))) (.and (.op .eq (.v 3) (.c (.int 0))) (.op .lt (.v 2) (.c (.int 0)))))))) (.cons (.ret (.c .non)) (.nil)) (.nil)) (.cons (.ite (.or (.and (.op .eq (.bi .len (.cons (.v 1) (.nil))) (.c (.int 2))) (.op .eq (.v 4) (.c (.int 1)))) (.op .ne (.call 120 (.cons (.v 3) (.cons (.v 4) (.nil)))) (.tup (.cons (.v 3) (.cons (.v 4) (.nil)))))) (.cons (.ret (.c .non)) (.nil)) (.nil)) (.cons (.ret (.tup (.cons (.op .mul (.v 2) (.v 3)) (.cons (.v 4) (.nil))))) (.nil)))))))
def d_l_fraction_in : Def := ⟨5, 1, false, b_l_fraction_in⟩
abbrev i_l_fraction_in : Nat := 260
def b_l_is_small : CSs := .cons (.ret (.and (.ch .le .le (.c (.int 1)) (.bi .len (.cons (.v 0) (.nil))) (.c (.int 8))) (.op .eq (.comp (.v 1) (.v 1) (.seq (.v 0)) (.op .notin (.v 1) (.c (.str [97, 98, 99, 100, 101, 102, 103, 104, 105, 106, 107, 108, 109, 110, 111, 112, 113, 114, 115, 116, 117, 118, 119, 120, 121, 122])))) (.lst (.nil))))) (.nil)
def d_l_is_small : Def := ⟨2, 1, false, b_l_is_small⟩
abbrev i_l_is_small : Nat := 261
def b_l_thing_in : CSs := .cons (.ite (.op .eq (.v 0) (.c (.str [102]))) (.cons (.ret (.call 260 (.cons (.v 1) (.nil)))) (.nil)) (.nil)) (.cons (.ite (.op .eq (.v 0) (.c (.str [110]))) (.cons (.ret (.call 259 (.cons (.v 1) (.nil)))) (.nil)) (.nil)) (.cons (.ite (.op .eq (.v 0) (.c (.str [119]))) (.cons (.ret (.ite (.call 261 (.cons (.v 1) (.nil))) (.v 1) (.c .non))) (.nil)) (.nil)) (.cons (.ite (.op .eq (.v 1) (.c (.str [45]))) (.cons (.ret (.c (.str []))) (.nil)) (.nil)) (.cons (.ret (.ite (.and (.ch .le .le (.c (.int 1)) (.bi .len (.cons (.v 1) (.nil))) (.c (.int 9))) (.op .eq (.comp (.v 2) (.v 2) (.seq (.v 1)) (.op .notin (.v 2) (.c (.str [48, 49, 50, 51])))) (.lst (.nil)))) (.v 1) (.c .non))) (.nil)))))
def d_l_thing_in : Def := ⟨3, 2, false, b_l_thing_in⟩
abbrev i_l_thing_in : Nat := 262
def b_l_form_in : CSs := .cons (.asg (.v 1) (.me .split (.v 0) (.cons (.c (.str [32])) (.nil)))) (.cons (.asg (.v 2) (.me .get1 (.dict false (.cons (.c (.str [112, 111, 105, 110, 116])) (.cons (.c (.str [116, 105, 108, 101])) (.cons (.c (.str [115, 112, 111, 116])) (.cons (.c (.str [97, 100, 100, 114, 101, 115, 115])) (.cons (.c (.str [114, 101, 103, 105, 111, 110])) (.nil)))))) (.cons (.c (.str [119, 102, 102])) (.cons (.c (.str [99])) (.cons (.c (.str [110, 102])) (.cons (.c (.str [119, 110])) (.cons (.c (.str [119])) (.nil))))))) (.cons (.op .ix (.v 1) (.c (.int 0))) .nil))) (.cons (.ite (.or (.op .isN (.v 2) (.c .non)) (.op .ne (.bi .len (.cons (.v 1) (.nil))) (.op .add (.bi .len (.cons (.v 2) (.nil))) (.c (.int 1))))) (.cons (.ret (.c .non)) (.nil)) (.nil)) (.cons (.asg (.v 3) (.comp (.call 262 (.cons (.v 4) (.cons (.v 5) (.nil)))) (.t (.cons (.v 4) (.cons (.v 5) (.nil)))) (.zip (.cons (.v 2) (.cons (.slLo (.v 1) (.c (.int 1))) (.nil)))) (.c (.bl true)))) (.cons (.ret (.ite (.op .isin (.c .non) (.v 3)) (.c .non) (.op .add (.tup (.cons (.op .ix (.v 1) (.c (.int 0))) (.nil))) (.bi .tuple (.cons (.v 3) (.nil)))))) (.nil)))))
def d_l_form_in : Def := ⟨6, 1, false, b_l_form_in⟩
abbrev i_l_form_in : Nat := 263
def b_l_torn : CSs := .cons (.asg (.t (.cons (.v 5) (.cons (.v 6) (.cons (.v 7) .nil)))) (.tup (.cons (.c (.str [48, 49, 50, 51, 52, 53, 54, 55, 56, 57, 47, 45, 32, 97, 98, 65, 66, 46, 43])) (.cons (.me .split (.v 1) (.cons (.c (.str [32])) (.nil))) (.cons (.call 119 (.cons (.v 0) (.cons (.op .add (.bi .len (.cons (.v 1) (.nil))) (.c (.int 1))) (.nil)))) .nil))))) (.cons (.asg (.t (.cons (.v 8) (.cons (.v 9) (.cons (.v 10) .nil)))) (.tup (.cons (.op .ix (.v 5) (.call 119 (.cons (.v 0) (.cons (.c (.int 19)) (.nil))))) (.cons (.call 119 (.cons (.v 0) (.cons (.c (.int 7)) (.nil)))) (.cons (.call 119 (.cons (.v 0) (.cons (.bi .len (.cons (.v 6) (.nil))) (.nil)))) .nil))))) (.cons (.ite (.op .lt (.v 9) (.c (.int 2))) (.cons (.ret (.op .add (.op .add (.slHi (.v 1) (.v 7)) (.v 8)) (.slLo (.v 1) (.op .add (.v 7) (.v 9))))) (.nil)) (.nil)) (.cons (.ite (.op .eq (.v 9) (.c (.int 2))) (.cons (.ret (.op .add (.slHi (.v 1) (.v 7)) (.slLo (.v 1) (.op .add (.v 7) (.c (.int 1)))))) (.nil)) (.nil)) (.cons (.asg (.v 2) (.lst (.cons (.c (.str [48])) (.cons (.c (.str [48, 48])) (.cons (.c (.str [45, 48])) (.cons (.c (.str [49, 47, 49])) (.cons (.c (.str [50, 47, 52])) (.cons (.c (.str [49, 47, 45, 50])) (.cons (.c (.str [45])) (.cons (.c (.str [])) (.cons (.c (.str [48, 47, 53])) (.cons (.c (.str [45, 51, 47, 55])) (.cons (.c (.str [101, 108, 109])) (.cons (.c (.str [69, 108, 109])) (.cons (.c (.str [103, 114, 111, 117, 110, 100])) (.nil)))))))))))))))) (.cons (.asg (.v 2) (.op .add (.v 2) (.lst (.cons (.c (.str [116, 105, 108, 101])) (.cons (.c (.str [115, 112, 111, 116])) (.cons (.c (.str [48, 49, 50, 51])) (.nil))))))) (.cons (.asg (.v 3) (.op .ix (.v 2) (.call 119 (.cons (.v 0) (.cons (.c (.int 16)) (.nil)))))) (.cons (.asg (.v 4) (.lst (.cons (.op .add (.op .add (.slHi (.v 6) (.v 10)) (.lst (.cons (.v 3) (.nil)))) (.slLo (.v 6) (.op .add (.v 10) (.c (.int 1))))) (.cons (.op .add (.slHi (.v 6) (.v 10)) (.slLo (.v 6) (.op .add (.v 10) (.c (.int 1))))) (.nil))))) (.cons (.asg (.v 4) (.op .add (.v 4) (.lst (.cons (.op .add (.op .add (.slHi (.v 6) (.v 10)) (.lst (.cons (.v 3) (.nil)))) (.slLo (.v 6) (.v 10))) (.nil))))) (.cons (.ret (.me .join (.c (.str [32])) (.cons (.op .ix (.op .add (.v 4) (.lst (.cons (.rev (.v 6)) (.nil)))) (.op .sub (.v 9) (.c (.int 3)))) (.nil)))) (.nil))))))))))
def d_l_torn : Def := ⟨11, 2, false, b_l_torn⟩
abbrev i_l_torn : Nat := 264
def b_l_due'3 : CSs := .cons (.ret (.ite (.op .isN (.v 0) (.c .non)) (.c (.str [116, 101, 120, 116])) (.lst (.cons (.v 0) (.nil))))) (.nil)
def d_l_due'3 : Def := ⟨1, 1, false, b_l_due'3⟩
abbrev i_l_due'3 : Nat := 265
def b_l_right'2 : CSs := .cons (.asg (.v 1) (.lst (.cons (.c .non) (.cons (.c (.int 0)) (.cons (.c (.str [])) (.cons (.c (.str [32])) (.cons (.c (.str [48])) (.cons (.c (.str [45, 48])) (.cons (.c (.str [49, 47, 50])) (.cons (.c (.str [50, 47, 52])) (.cons (.c (.str [45, 49, 47, 50])) (.cons (.c (.str [49, 47, 45, 50])) (.cons (.c (.str [45, 45, 49])) (.cons (.c (.str [49, 47, 50, 47, 51])) (.cons (.c (.str [47])) (.cons (.c (.str [49, 47])) (.cons (.c (.str [47, 50])) (.nil)))))))))))))))))) (.cons (.asg (.v 1) (.op .add (.v 1) (.lst (.cons (.c (.str [43, 49])) (.cons (.c (.str [49, 46, 48])) (.cons (.c (.str [32, 49])) (.cons (.c (.str [48, 49])) (.nil)))))))) (.cons (.asg (.v 1) (.op .add (.v 1) (.lst (.cons (.c (.str [48, 47, 49])) (.cons (.c (.str [48, 47, 50])) (.cons (.c (.str [51, 47, 49])) (.cons (.c (.str [45, 55, 47, 50])) (.cons (.c (.str [55, 47, 45, 50])) (.cons (.c (.str [116, 105, 108, 101, 32, 45])) (.cons (.c (.str [116, 105, 108, 101, 32])) (.cons (.c (.str [116, 105, 108, 101])) (.cons (.c (.str [116, 105, 108, 101, 32, 48])) (.cons (.c (.str [116, 105, 108, 101, 32, 52])) (.nil)))))))))))))) (.cons (.asg (.v 1) (.op .add (.v 1) (.lst (.cons (.c (.str [116, 105, 108, 101, 32, 48, 49, 50, 51, 48, 49, 50, 51, 48, 49])) (.nil))))) (.cons (.asg (.v 1) (.op .add (.v 1) (.lst (.cons (.c (.str [112, 111, 105, 110, 116, 32, 103, 114, 111, 117, 110, 100, 32, 48, 32, 48])) (.cons (.c (.str [112, 111, 105, 110, 116, 32, 103, 114, 111, 117, 110, 100, 32, 48])) (.cons (.c (.str [112, 111, 105, 110, 116, 32, 71, 114, 111, 117, 110, 100, 32, 48, 32, 48])) (.cons (.c (.str [112, 111, 105, 110, 116, 32, 103, 114, 111, 117, 110, 100, 32, 49, 47, 50, 32, 45, 51])) (.nil)))))))) (.cons (.asg (.v 1) (.op .add (.v 1) (.lst (.cons (.c (.str [115, 112, 111, 116, 32, 48, 32, 48])) (.cons (.c (.str [115, 112, 111, 116, 32, 45, 49, 32, 48])) (.nil)))))) (.cons (.asg (.v 1) (.op .add (.v 1) (.lst (.cons (.c (.str [115, 112, 111, 116, 32, 48, 48, 32, 49])) (.cons (.c (.str [115, 112, 111, 116, 32, 49, 32, 50, 47, 52])) (.cons (.c (.str [97, 100, 100, 114, 101, 115, 115, 32, 101, 108, 109, 32, 53])) (.cons (.c (.str [97, 100, 100, 114, 101, 115, 115, 32, 101, 108, 109, 32, 45, 53])) (.cons (.c (.str [97, 100, 100, 114, 101, 115, 115, 32, 101, 108, 109, 32, 48, 53])) (.nil))))))))) (.cons (.asg (.v 1) (.op .add (.v 1) (.lst (.cons (.c (.str [97, 100, 100, 114, 101, 115, 115, 32, 53, 32, 101, 108, 109])) (.cons (.c (.str [114, 101, 103, 105, 111, 110, 32, 102, 101, 110])) (.nil)))))) (.cons (.asg (.v 1) (.op .add (.v 1) (.lst (.cons (.c (.str [114, 101, 103, 105, 111, 110])) (.cons (.c (.str [114, 101, 103, 105, 111, 110, 32, 102, 101, 110, 32])) (.cons (.c (.str [32, 114, 101, 103, 105, 111, 110, 32, 102, 101, 110])) (.cons (.c (.str [114, 101, 103, 105, 111, 110, 32, 32, 102, 101, 110])) (.cons (.c (.str [114, 101, 103, 105, 111, 110, 32, 102, 101, 110, 32, 102, 101, 110])) (.cons (.c (.str [82, 101, 103, 105, 111, 110, 32, 102, 101, 110])) (.nil)))))))))) (.cons (.asg (.v 1) (.op .add (.v 1) (.lst (.cons (.lst (.cons (.c (.str [116, 105, 108, 101, 32, 48])) (.nil))) (.cons (.tup (.cons (.c (.str [116, 105, 108, 101])) (.cons (.c (.str [48])) (.nil)))) (.nil)))))) (.cons (.loop (.v 2) (.rng1 (.c (.int 8))) (.cons (.asg (.v 3) (.call 247 (.cons (.call 245 (.cons (.v 0) (.nil))) (.nil)))) (.cons (.asg (.v 4) (.call 264 (.cons (.v 0) (.cons (.v 3) (.nil))))) (.cons (.asg (.v 1) (.op .add (.v 1) (.lst (.cons (.v 3) (.cons (.v 4) (.cons (.call 264 (.cons (.v 0) (.cons (.v 4) (.nil)))) (.nil))))))) (.cons (.asg (.v 5) (.call 246 (.cons (.call 127 (.cons (.v 0) (.nil))) (.nil)))) (.cons (.asg (.v 1) (.op .add (.v 1) (.lst (.cons (.v 5) (.cons (.call 264 (.cons (.v 0) (.cons (.v 5) (.nil)))) (.nil)))))) (.nil))))))) (.cons (.loop (.v 3) (.seq (.v 1)) (.cons (.asg (.v 6) (.bi .isS (.cons (.v 3) .nil))) (.cons (.asg (.v 7) (.lst (.cons (.call 265 (.cons (.ite (.v 6) (.call 260 (.cons (.v 3) (.nil))) (.c .non)) (.nil))) (.cons (.call 265 (.cons (.ite (.v 6) (.call 263 (.cons (.v 3) (.nil))) (.c .non)) (.nil))) (.nil))))) (.cons (.loop (.v 8) (.rng1 (.c (.int 2))) (.cons (.asg (.v 9) (.new (.lst (.cons (.said 243 (.call 257 (.cons (.v 3) (.nil)))) (.nil))))) (.cons (.ex (.me .append (.v 9) (.cons (.said 243 (.call 258 (.cons (.v 3) (.nil)))) (.nil)))) (.cons (.ite (.not (.call 137 (.cons (.v 9) (.cons (.v 7) (.nil))))) (.cons (.ret (.c (.bl false))) (.nil)) (.nil)) (.nil))))) (.nil))))) (.cons (.ret (.c (.bl true))) (.nil)))))))))))))
def d_l_right'2 : Def := ⟨10, 1, false, b_l_right'2⟩
abbrev i_l_right'2 : Nat := 266
def b_law'9 : CSs := .cons (.loop (.v 1) (.rng1 (.bi .max2 (.cons (.c (.int 1)) (.cons (.bi .min2 (.cons (.bi .len (.cons (.v 0) (.nil))) (.cons (.c (.int 4)) (.nil)))) (.nil))))) (.cons (.asg (.v 2) (.call 118 (.cons (.v 0) (.cons (.v 1) (.nil))))) (.cons (.loop (.v 3) (.rng1 (.c (.int 1))) (.cons (.ite (.not (.call 266 (.cons (.v 2) (.nil)))) (.cons (.ret (.c (.bl false))) (.nil)) (.nil)) (.nil))) (.nil)))) (.cons (.ret (.c (.bl true))) (.nil))
def d_law'9 : Def := ⟨4, 1, false, b_law'9⟩
abbrev i_law'9 : Nat := 267
def pgL0 : List (Option Def) := [some d_is_whole, none, some d_is_word, none, none, some d_common_of, none, some d_is_fraction, none, none, none, none, none, none, none, none, none, none, none, none]
def pgL1 : List (Option Def) := [none, some d_is_day, none, none, none, none, none, none, none, none, none, none, none, none, none, none, none, none, none, none]
def pgL2 : List (Option Def) := [none, none, none, some d_is_code, none, none, none, none, none, none, none, none, none, none, none, none, none, none, none, none]
def pgL3 : List (Option Def) := [none, none, none, none, none, none, none, none, none, none, none, none, none, none, none, none, none, none, none, none]
def pgL4 : List (Option Def) := [none, none, none, none, none, none, none, none, none, none, none, none, none, none, none, none, none, none, none, none]
def pgL5 : List (Option Def) := [none, none, none, none, none, none, none, none, none, none, none, none, none, none, none, none, none, some d_l_cell_at, some d_l_state, some d_l_choice]
def pgL6 : List (Option Def) := [some d_l_low, none, none, none, none, none, none, some d_l_any, none, none, none, none, none, none, none, none, none, some d_l_same, none, none]
def pgL7 : List (Option Def) := [none, none, none, none, none, none, none, none, none, none, none, none, none, none, none, none, none, none, none, none]
def pgL8 : List (Option Def) := [none, none, none, none, none, none, none, none, none, none, none, none, none, none, none, none, none, none, none, none]
def pgL9 : List (Option Def) := [none, none, none, none, none, none, none, none, none, none, none, none, none, none, none, none, none, none, none, none]
def pgL10 : List (Option Def) := [none, none, none, none, none, none, none, none, none, none, none, none, none, none, none, none, none, none, none, none]
def pgL11 : List (Option Def) := [none, none, none, none, none, none, none, none, none, none, none, none, none, none, some d_is_of, some d_has_shape, some d_written, some d_fraction_text, some d_word_of, some d_form_by]
def pgL12 : List (Option Def) := [some d_form_text, some d_l_marks'2, some d_l_word'3, none, some d_l_signs, some d_l_shape, some d_l_fraction_text, some d_l_form_text, some d_l_no_shapes, some d_l_right, some d_law'8, some d_is_code'2, some d_number_in, some d_whole_in, some d_fraction_in, some d_thing_in, some d_form_in, some d_read_fraction, some d_read_form, some d_l_number_in]
def pgL13 : List (Option Def) := [some d_l_fraction_in, some d_l_is_small, some d_l_thing_in, some d_l_form_in, some d_l_torn, some d_l_due'3, some d_l_right'2, some d_law'9, none, none, none, none, none, none, none, none, none, none, none, none]
def pgL14 : List (Option Def) := [none, none, none, none, none, none, none, none, none, none, none, none, none, none, none, none, none, none, none, none]
def pgL15 : List (Option Def) := [none, none, none, none, none, none, none, none, none, none, none, none, none, none, none, none, none, none, none, none]
def pgL16 : List (Option Def) := [none, none, none, none, none, none, none, none, none, none, none, none, none, none, none, none, none, none, none, none]
def pgL17 : List (Option Def) := [none, none, none, none, none, none, none, none, none, none, none, none, none, none, none, none, none, none, none, none]
def pgL18 : List (Option Def) := [none, none, none, none, none, none, none, none, none, none, none, none, none, none, none, none, none, none, none, none]
def pgL19 : List (Option Def) := [none, none, none, none, none, none, none, none, none, none, none, none, none, none, none, none, none, none, none, none]
def pgL20 : List (Option Def) := [none, none, none, none, none, none, none, none, none, none, none, none, none, none, none, none, none, none, none, none]
def pgL21 : List (Option Def) := [none, none, none, none, none, none, none, none, none, none, none, none, none, none, none, none, none, none, none, none]
def pgL22 : List (Option Def) := [none, none, none, none, none, none, none, none, none, none, none, none, none, none, none, none, none, none, none, none]
def pgL23 : List (Option Def) := [none, none, none, none, none, none, none, none, none, none, none, none, none, none, none, none, none, none, none, none]
def pgL24 : List (Option Def) := [none, none, none, none, none, none, none, none, none, none, none, none, none, none, none, none, none, none, none, none]
def pgL25 : List (Option Def) := [none, none, none, none, none, none, none, none, none, none, none, none, none, none, none, none, none, none, none, none]
def pgL : List (List (Option Def)) := [pgL0, pgL1, pgL2, pgL3, pgL4, pgL5, pgL6, pgL7, pgL8, pgL9, pgL10, pgL11, pgL12, pgL13, pgL14, pgL15, pgL16, pgL17, pgL18, pgL19, pgL20, pgL21, pgL22, pgL23, pgL24, pgL25]
def Pg : Prg := ⟨fun i => (pgL.getD (i / 20) []).getD (i % 20) none, fun _ => .non, fun i => ([[], [([112, 111, 105, 110, 116], .str [119, 102, 102]), ([116, 105, 108, 101], .str [99]), ([115, 112, 111, 116], .str [110, 102]), ([97, 100, 100, 114, 101, 115, 115], .str [119, 110]), ([114, 101, 103, 105, 111, 110], .str [119])]] : List (List (Tx × D))).getD i [], fun i => if i = 243 then some (.lst 242 [0, 1, 2, 3, 4, 5, 6, 7, 8, 9, 10, 11, 12, 13, 14, 15, 16, 17, 18, 19, 20, 21, 22, 23, 24, 25, 26, 27, 28, 29, 30, 31]) else none⟩
end PZ
end
section
set_option linter.all false
set_option maxRecDepth 100000
set_option maxHeartbeats 0
set_option Elab.async false
namespace PZ
open PySem PySem.Spec PyProof.Rows L2
def top (i : Nat) : Stmt := PySem.Challenge.pw_onewhere_k75_texts_read.main.body.getD i (.Pass ⟨0, 0, 0, 0⟩)
structure Fx (W : Wl) (w : World) (mg : Str → Option Value) : Prop where
  b_ValueError : mg "ValueError" = none
  b_abs : mg "abs" = none
  b_all : mg "all" = none
  b_bool : mg "bool" = none
  b_int : mg "int" = none
  b_isinstance : mg "isinstance" = none
  b_len : mg "len" = none
  b_max : mg "max" = none
  b_min : mg "min" = none
  b_range : mg "range" = none
  b_repr : mg "repr" = none
  b_str : mg "str" = none
  b_tuple : mg "tuple" = none
  b_zip : mg "zip" = none
  g_BAR : GcAt W mg "BAR" (.str [47])
  g_BARE : GcAt W mg "BARE" (.str [45])
  g_FIGURES_texts : GcAt W mg "FIGURES_texts" (.str [48, 49, 50, 51, 52, 53, 54, 55, 56, 57])
  g_FIGURES_tiles : GcAt W mg "FIGURES_tiles" (.str [48, 49, 50, 51])
  g_MOST_DEPTH : GcAt W mg "MOST_DEPTH" (.int 9)
  g_SMALL : GcAt W mg "SMALL" (.str [97, 98, 99, 100, 101, 102, 103, 104, 105, 106, 107, 108, 109, 110, 111, 112, 113, 114, 115, 116, 117, 118, 119, 120, 121, 122])
  x_NoText : ExC W mg 30 "NoText"
  d_SHAPES : GdAt W w mg "SHAPES" [([112, 111, 105, 110, 116], .str [119, 102, 102]), ([116, 105, 108, 101], .str [99]), ([115, 112, 111, 116], .str [110, 102]), ([97, 100, 100, 114, 101, 115, 115], .str [119, 110]), ([114, 101, 103, 105, 111, 110], .str [119])]
  k_NoAtlas : mg "NoAtlas" = some (.ref (W.cad 24))
  k_NoChain : mg "NoChain" = some (.ref (W.cad 27))
  k_NoClosed : mg "NoClosed" = some (.ref (W.cad 14))
  k_NoDay : mg "NoDay" = some (.ref (W.cad 18))
  k_NoDeed : mg "NoDeed" = some (.ref (W.cad 29))
  k_NoDepth : mg "NoDepth" = some (.ref (W.cad 8))
  k_NoForm : mg "NoForm" = some (.ref (W.cad 25))
  k_NoFrame : mg "NoFrame" = some (.ref (W.cad 4))
  k_NoFrames : mg "NoFrames" = some (.ref (W.cad 3))
  k_NoInstant : mg "NoInstant" = some (.ref (W.cad 21))
  k_NoKind : mg "NoKind" = some (.ref (W.cad 26))
  k_NoLine : mg "NoLine" = some (.ref (W.cad 31))
  k_NoMap : mg "NoMap" = some (.ref (W.cad 2))
  k_NoMoves : mg "NoMoves" = some (.ref (W.cad 19))
  k_NoName : mg "NoName" = some (.ref (W.cad 28))
  k_NoNumber : mg "NoNumber" = some (.ref (W.cad 17))
  k_NoPoint : mg "NoPoint" = some (.ref (W.cad 1))
  k_NoPoints : mg "NoPoints" = some (.ref (W.cad 6))
  k_NoRegion : mg "NoRegion" = some (.ref (W.cad 20))
  k_NoRing : mg "NoRing" = some (.ref (W.cad 5))
  k_NoRoad : mg "NoRoad" = some (.ref (W.cad 12))
  k_NoRows : mg "NoRows" = some (.ref (W.cad 15))
  k_NoSpot : mg "NoSpot" = some (.ref (W.cad 13))
  k_NoStreet : mg "NoStreet" = some (.ref (W.cad 16))
  k_NoTelling : mg "NoTelling" = some (.ref (W.cad 23))
  k_NoText : mg "NoText" = some (.ref (W.cad 30))
  k_NoTile : mg "NoTile" = some (.ref (W.cad 7))
  k_NoTiles : mg "NoTiles" = some (.ref (W.cad 9))
  k_NoWeb : mg "NoWeb" = some (.ref (W.cad 11))
  k_NoZones : mg "NoZones" = some (.ref (W.cad 22))
  k_NotThere : mg "NotThere" = some (.ref (W.cad 10))
  k_WhereError : mg "WhereError" = some (.ref (W.cad 0))
  xcl : Xcl W [0, 1, 2, 3, 4, 5, 6, 7, 8, 9, 10, 11, 12, 13, 14, 15, 16, 17, 18, 19, 20, 21, 22, 23, 24, 25, 26, 27, 28, 29, 30, 31]
  dummy : True
structure CalsF (W : Wl) (P : Program) (w : World) (mg : Str → Option Value) (base : Heap) (A : Around) (G : Glo) : Prop where
  c_is_whole : Cal W P w mg base A G 0 "is_whole" []
  c_is_word : Cal W P w mg base A G 2 "is_word" []
  c_common_of : Cal W P w mg base A G 5 "common_of" []
  c_is_fraction : Cal W P w mg base A G 7 "is_fraction" []
  c_is_code : Cal W P w mg base A G 251 "is_code" []
  c_number_in : Cal W P w mg base A G 252 "number_in" []
  c_whole_in : Cal W P w mg base A G 253 "whole_in" []
  c_fraction_in : Cal W P w mg base A G 254 "fraction_in" []
  c_thing_in : Cal W P w mg base A G 255 "thing_in" []
  c_form_in : Cal W P w mg base A G 256 "form_in" []
  c_read_fraction : Cal W P w mg base A G 257 "read_fraction" []
  c_read_form : Cal W P w mg base A G 258 "read_form" []
  c__law_cell_at : Cal W P w mg base A G 117 "_law_cell_at" []
  c__law_state : Cal W P w mg base A G 118 "_law_state" []
  c__law_choice : Cal W P w mg base A G 119 "_law_choice" []
  c__law_low : Cal W P w mg base A G 120 "_law_low" []
  c__law_any : Cal W P w mg base A G 127 "_law_any" []
  c__law_signs : Cal W P w mg base A G 244 "_law_signs" []
  c__law_shape : Cal W P w mg base A G 245 "_law_shape" []
  c__law_fraction_text : Cal W P w mg base A G 246 "_law_fraction_text" []
  c__law_form_text : Cal W P w mg base A G 247 "_law_form_text" []
  c__law_number_in : Cal W P w mg base A G 259 "_law_number_in" []
  c__law_fraction_in : Cal W P w mg base A G 260 "_law_fraction_in" []
  c__law_is_small : Cal W P w mg base A G 261 "_law_is_small" []
  c__law_thing_in : Cal W P w mg base A G 262 "_law_thing_in" []
  c__law_form_in : Cal W P w mg base A G 263 "_law_form_in" []
  c__law_torn : Cal W P w mg base A G 264 "_law_torn" []
  c__law_due : Cal W P w mg base A G 265 "_law_due" []
  dummy : True
structure CalsT (W : Wl) (P : Program) (w : World) (mg : Str → Option Value) (base : Heap) (A : Around) (G : Glo) : Prop where
  c__law_same : Cal W P w mg base A G 137 "_law_same" []
  c__law_right : Cal W P w mg base A G 266 "_law_right" []
  dummy : True
structure CalsX (n : List Nat) (W : Wl) (P : Program) (w : World) (mg : Str → Option Value) (base : Heap) (A : Around) (G : Glo) : Prop where
  h__law_marks : CalX W P w mg base A G n 241 "_law_marks"
  h__law_word : CalX W P w mg base A G n 242 "_law_word"
abbrev st_0 : Stmt := top 35
abbrev N_0 : List Str := ["thing"]
theorem sc_0 : FnScope N_0 ["thing"] (defScope st_0) := ⟨rfl, rfl, rfl, by decide +kernel, rfl, by decide +kernel, by decide +kernel⟩
abbrev st_2 : Stmt := top 36
abbrev N_2 : List Str := ["thing", "one"]
theorem sc_2 : FnScope N_2 ["thing"] (defScope st_2) := ⟨rfl, rfl, rfl, by decide +kernel, rfl, by decide +kernel, by decide +kernel⟩
abbrev st_5 : Stmt := top 37
abbrev N_5 : List Str := ["one", "other"]
theorem sc_5 : FnScope N_5 ["one", "other"] (defScope st_5) := ⟨rfl, rfl, rfl, by decide +kernel, rfl, by decide +kernel, by decide +kernel⟩
abbrev st_7 : Stmt := top 38
abbrev N_7 : List Str := ["thing"]
theorem sc_7 : FnScope N_7 ["thing"] (defScope st_7) := ⟨rfl, rfl, rfl, by decide +kernel, rfl, by decide +kernel, by decide +kernel⟩
abbrev st_251 : Stmt := top 42
abbrev N_251 : List Str := ["thing", "sign"]
theorem sc_251 : FnScope N_251 ["thing"] (defScope st_251) := ⟨rfl, rfl, rfl, by decide +kernel, rfl, by decide +kernel, by decide +kernel⟩
abbrev st_252 : Stmt := top 48
abbrev N_252 : List Str := ["word", "sign"]
theorem sc_252 : FnScope N_252 ["word"] (defScope st_252) := ⟨rfl, rfl, rfl, by decide +kernel, rfl, by decide +kernel, by decide +kernel⟩
abbrev st_253 : Stmt := top 49
abbrev N_253 : List Str := ["word", "found"]
theorem sc_253 : FnScope N_253 ["word"] (defScope st_253) := ⟨rfl, rfl, rfl, by decide +kernel, rfl, by decide +kernel, by decide +kernel⟩
abbrev st_254 : Stmt := top 50
abbrev N_254 : List Str := ["word", "top", "bottom", "above", "bar", "below"]
theorem sc_254 : FnScope N_254 ["word"] (defScope st_254) := ⟨rfl, rfl, rfl, by decide +kernel, rfl, by decide +kernel, by decide +kernel⟩
abbrev st_255 : Stmt := top 51
abbrev N_255 : List Str := ["kind", "word", "found"]
theorem sc_255 : FnScope N_255 ["kind", "word"] (defScope st_255) := ⟨rfl, rfl, rfl, by decide +kernel, rfl, by decide +kernel, by decide +kernel⟩
abbrev st_256 : Stmt := top 52
abbrev N_256 : List Str := ["text", "kinds", "things", "word", "words", "kind", "one"]
theorem sc_256 : FnScope N_256 ["text"] (defScope st_256) := ⟨rfl, rfl, rfl, by decide +kernel, rfl, by decide +kernel, by decide +kernel⟩
abbrev st_257 : Stmt := top 53
abbrev N_257 : List Str := ["text", "found"]
theorem sc_257 : FnScope N_257 ["text"] (defScope st_257) := ⟨rfl, rfl, rfl, by decide +kernel, rfl, by decide +kernel, by decide +kernel⟩
abbrev st_258 : Stmt := top 54
abbrev N_258 : List Str := ["text", "found"]
theorem sc_258 : FnScope N_258 ["text"] (defScope st_258) := ⟨rfl, rfl, rfl, by decide +kernel, rfl, by decide +kernel, by decide +kernel⟩
abbrev st_117 : Stmt := top 56
abbrev N_117 : List Str := ["_law_script", "_law_k"]
theorem sc_117 : FnScope N_117 ["_law_script", "_law_k"] (defScope st_117) := ⟨rfl, rfl, rfl, by decide +kernel, rfl, by decide +kernel, by decide +kernel⟩
abbrev st_118 : Stmt := top 57
abbrev N_118 : List Str := ["_law_script", "_law_k", "_law_cell"]
theorem sc_118 : FnScope N_118 ["_law_script", "_law_k"] (defScope st_118) := ⟨rfl, rfl, rfl, by decide +kernel, rfl, by decide +kernel, by decide +kernel⟩
abbrev st_119 : Stmt := top 58
abbrev N_119 : List Str := ["_law_state_here", "_law_many", "_law_mixed", "_law_found"]
theorem sc_119 : FnScope N_119 ["_law_state_here", "_law_many"] (defScope st_119) := ⟨rfl, rfl, rfl, by decide +kernel, rfl, by decide +kernel, by decide +kernel⟩
abbrev st_120 : Stmt := top 59
abbrev N_120 : List Str := ["_law_top", "_law_bottom", "_law_by", "_law_one", "_law_other"]
theorem sc_120 : FnScope N_120 ["_law_top", "_law_bottom"] (defScope st_120) := ⟨rfl, rfl, rfl, by decide +kernel, rfl, by decide +kernel, by decide +kernel⟩
abbrev st_127 : Stmt := top 60
abbrev N_127 : List Str := ["_law_state_here", "_law_top", "_law_bottom"]
theorem sc_127 : FnScope N_127 ["_law_state_here"] (defScope st_127) := ⟨rfl, rfl, rfl, by decide +kernel, rfl, by decide +kernel, by decide +kernel⟩
abbrev st_137 : Stmt := top 61
abbrev N_137 : List Str := ["_law_found", "_law_due_here"]
theorem sc_137 : FnScope N_137 ["_law_found", "_law_due_here"] (defScope st_137) := ⟨rfl, rfl, rfl, by decide +kernel, rfl, by decide +kernel, by decide +kernel⟩
abbrev st_241 : Stmt := top 62
abbrev N_241 : List Str := ["_law_e", "_law_marks_here"]
theorem sc_241 : FnScope N_241 ["_law_e"] (defScope st_241) := ⟨rfl, rfl, rfl, by decide +kernel, rfl, by decide +kernel, by decide +kernel⟩
abbrev st_242 : Stmt := top 63
abbrev N_242 : List Str := ["_law_e", "_law_words", "_law_marks_here"]
theorem sc_242 : FnScope N_242 ["_law_e"] (defScope st_242) := ⟨rfl, rfl, rfl, by decide +kernel, rfl, by decide +kernel, by decide +kernel⟩
abbrev st_243 : Stmt := top 64
abbrev N_243 : List Str := ["_law_call", "_law_e"]
theorem sc_243 : FnScope N_243 ["_law_call"] (defScope st_243) := ⟨rfl, rfl, rfl, by decide +kernel, rfl, by decide +kernel, by decide +kernel⟩
abbrev st_244 : Stmt := top 65
abbrev N_244 : List Str := ["_law_state_here", "_law_many", "_law_nth"]
theorem sc_244 : FnScope N_244 ["_law_state_here", "_law_many"] (defScope st_244) := ⟨rfl, rfl, rfl, by decide +kernel, rfl, by decide +kernel, by decide +kernel⟩
abbrev st_245 : Stmt := top 66
abbrev N_245 : List Str := ["_law_state_here", "_law_way", "_law_frame", "_law_nth"]
theorem sc_245 : FnScope N_245 ["_law_state_here"] (defScope st_245) := ⟨rfl, rfl, rfl, by decide +kernel, rfl, by decide +kernel, by decide +kernel⟩
abbrev st_246 : Stmt := top 67
abbrev N_246 : List Str := ["_law_one"]
theorem sc_246 : FnScope N_246 ["_law_one"] (defScope st_246) := ⟨rfl, rfl, rfl, by decide +kernel, rfl, by decide +kernel, by decide +kernel⟩
abbrev st_247 : Stmt := top 68
abbrev N_247 : List Str := ["_law_form", "_law_words", "_law_one"]
theorem sc_247 : FnScope N_247 ["_law_form"] (defScope st_247) := ⟨rfl, rfl, rfl, by decide +kernel, rfl, by decide +kernel, by decide +kernel⟩
abbrev st_259 : Stmt := top 69
abbrev N_259 : List Str := ["_law_word_here", "_law_sign"]
theorem sc_259 : FnScope N_259 ["_law_word_here"] (defScope st_259) := ⟨rfl, rfl, rfl, by decide +kernel, rfl, by decide +kernel, by decide +kernel⟩
abbrev st_260 : Stmt := top 70
abbrev N_260 : List Str := ["_law_word_here", "_law_parts", "_law_sign", "_law_top", "_law_bottom"]
theorem sc_260 : FnScope N_260 ["_law_word_here"] (defScope st_260) := ⟨rfl, rfl, rfl, by decide +kernel, rfl, by decide +kernel, by decide +kernel⟩
abbrev st_261 : Stmt := top 71
abbrev N_261 : List Str := ["_law_word_here", "_law_sign"]
theorem sc_261 : FnScope N_261 ["_law_word_here"] (defScope st_261) := ⟨rfl, rfl, rfl, by decide +kernel, rfl, by decide +kernel, by decide +kernel⟩
abbrev st_262 : Stmt := top 72
abbrev N_262 : List Str := ["_law_kind", "_law_word_here", "_law_sign"]
theorem sc_262 : FnScope N_262 ["_law_kind", "_law_word_here"] (defScope st_262) := ⟨rfl, rfl, rfl, by decide +kernel, rfl, by decide +kernel, by decide +kernel⟩
abbrev st_263 : Stmt := top 73
abbrev N_263 : List Str := ["_law_text", "_law_words", "_law_kinds", "_law_things", "_law_kind", "_law_word_here"]
theorem sc_263 : FnScope N_263 ["_law_text"] (defScope st_263) := ⟨rfl, rfl, rfl, by decide +kernel, rfl, by decide +kernel, by decide +kernel⟩
abbrev st_264 : Stmt := top 74
abbrev N_264 : List Str := ["_law_state_here", "_law_text", "_law_some", "_law_word_here", "_law_rows", "_law_signs_here", "_law_words", "_law_at", "_law_sign", "_law_way", "_law_spot"]
theorem sc_264 : FnScope N_264 ["_law_state_here", "_law_text"] (defScope st_264) := ⟨rfl, rfl, rfl, by decide +kernel, rfl, by decide +kernel, by decide +kernel⟩
abbrev st_265 : Stmt := top 75
abbrev N_265 : List Str := ["_law_found_one"]
theorem sc_265 : FnScope N_265 ["_law_found_one"] (defScope st_265) := ⟨rfl, rfl, rfl, by decide +kernel, rfl, by decide +kernel, by decide +kernel⟩
abbrev st_266 : Stmt := top 76
abbrev N_266 : List Str := ["_law_state_here", "_law_texts", "_law_lap", "_law_text", "_law_torn_here", "_law_share", "_law_good", "_law_dues", "_law_again", "_law_words"]
theorem sc_266 : FnScope N_266 ["_law_state_here"] (defScope st_266) := ⟨rfl, rfl, rfl, by decide +kernel, rfl, by decide +kernel, by decide +kernel⟩
abbrev st_267 : Stmt := top 77
abbrev N_267 : List Str := ["_law_script", "_law_k", "_law_state_here", "_law_nth"]
theorem sc_267 : FnScope N_267 ["_law_script"] (defScope st_267) := ⟨rfl, rfl, rfl, by decide +kernel, rfl, by decide +kernel, by decide +kernel⟩
structure Fds (W : Wl) (mg : Str → Option Value) : Prop where
  f_0 : ∃ fd, FunD W.K "is_whole" "is_whole" (defArgs st_0) (defBody st_0) (defScope st_0) [] [] (W.fad 0) fd
  m_0 : mg "is_whole" = some (.ref (W.fad 0))
  f_2 : ∃ fd, FunD W.K "is_word" "is_word" (defArgs st_2) (defBody st_2) (defScope st_2) [] [] (W.fad 2) fd
  m_2 : mg "is_word" = some (.ref (W.fad 2))
  f_5 : ∃ fd, FunD W.K "common_of" "common_of" (defArgs st_5) (defBody st_5) (defScope st_5) [] [] (W.fad 5) fd
  m_5 : mg "common_of" = some (.ref (W.fad 5))
  f_7 : ∃ fd, FunD W.K "is_fraction" "is_fraction" (defArgs st_7) (defBody st_7) (defScope st_7) [] [] (W.fad 7) fd
  m_7 : mg "is_fraction" = some (.ref (W.fad 7))
  f_251 : ∃ fd, FunD W.K "is_code" "is_code" (defArgs st_251) (defBody st_251) (defScope st_251) [] [] (W.fad 251) fd
  m_251 : mg "is_code" = some (.ref (W.fad 251))
  f_252 : ∃ fd, FunD W.K "number_in" "number_in" (defArgs st_252) (defBody st_252) (defScope st_252) [] [] (W.fad 252) fd
  m_252 : mg "number_in" = some (.ref (W.fad 252))
  f_253 : ∃ fd, FunD W.K "whole_in" "whole_in" (defArgs st_253) (defBody st_253) (defScope st_253) [] [] (W.fad 253) fd
  m_253 : mg "whole_in" = some (.ref (W.fad 253))
  f_254 : ∃ fd, FunD W.K "fraction_in" "fraction_in" (defArgs st_254) (defBody st_254) (defScope st_254) [] [] (W.fad 254) fd
  m_254 : mg "fraction_in" = some (.ref (W.fad 254))
  f_255 : ∃ fd, FunD W.K "thing_in" "thing_in" (defArgs st_255) (defBody st_255) (defScope st_255) [] [] (W.fad 255) fd
  m_255 : mg "thing_in" = some (.ref (W.fad 255))
  f_256 : ∃ fd, FunD W.K "form_in" "form_in" (defArgs st_256) (defBody st_256) (defScope st_256) [] [] (W.fad 256) fd
  m_256 : mg "form_in" = some (.ref (W.fad 256))
  f_257 : ∃ fd, FunD W.K "read_fraction" "read_fraction" (defArgs st_257) (defBody st_257) (defScope st_257) [] [] (W.fad 257) fd
  m_257 : mg "read_fraction" = some (.ref (W.fad 257))
  f_258 : ∃ fd, FunD W.K "read_form" "read_form" (defArgs st_258) (defBody st_258) (defScope st_258) [] [] (W.fad 258) fd
  m_258 : mg "read_form" = some (.ref (W.fad 258))
  f_117 : ∃ fd, FunD W.K "_law_cell_at" "_law_cell_at" (defArgs st_117) (defBody st_117) (defScope st_117) [] [] (W.fad 117) fd
  m_117 : mg "_law_cell_at" = some (.ref (W.fad 117))
  f_118 : ∃ fd, FunD W.K "_law_state" "_law_state" (defArgs st_118) (defBody st_118) (defScope st_118) [] [] (W.fad 118) fd
  m_118 : mg "_law_state" = some (.ref (W.fad 118))
  f_119 : ∃ fd, FunD W.K "_law_choice" "_law_choice" (defArgs st_119) (defBody st_119) (defScope st_119) [] [] (W.fad 119) fd
  m_119 : mg "_law_choice" = some (.ref (W.fad 119))
  f_120 : ∃ fd, FunD W.K "_law_low" "_law_low" (defArgs st_120) (defBody st_120) (defScope st_120) [] [] (W.fad 120) fd
  m_120 : mg "_law_low" = some (.ref (W.fad 120))
  f_127 : ∃ fd, FunD W.K "_law_any" "_law_any" (defArgs st_127) (defBody st_127) (defScope st_127) [] [] (W.fad 127) fd
  m_127 : mg "_law_any" = some (.ref (W.fad 127))
  f_137 : ∃ fd, FunD W.K "_law_same" "_law_same" (defArgs st_137) (defBody st_137) (defScope st_137) [] [] (W.fad 137) fd
  m_137 : mg "_law_same" = some (.ref (W.fad 137))
  f_241 : ∃ fd, FunD W.K "_law_marks" "_law_marks" (defArgs st_241) (defBody st_241) (defScope st_241) [] [] (W.fad 241) fd
  m_241 : mg "_law_marks" = some (.ref (W.fad 241))
  f_242 : ∃ fd, FunD W.K "_law_word" "_law_word" (defArgs st_242) (defBody st_242) (defScope st_242) [] [] (W.fad 242) fd
  m_242 : mg "_law_word" = some (.ref (W.fad 242))
  f_243 : ∃ fd, FunD W.K "_law_said" "_law_said" (defArgs st_243) (defBody st_243) (defScope st_243) [] [] (W.fad 243) fd
  m_243 : mg "_law_said" = some (.ref (W.fad 243))
  f_244 : ∃ fd, FunD W.K "_law_signs" "_law_signs" (defArgs st_244) (defBody st_244) (defScope st_244) [] [] (W.fad 244) fd
  m_244 : mg "_law_signs" = some (.ref (W.fad 244))
  f_245 : ∃ fd, FunD W.K "_law_shape" "_law_shape" (defArgs st_245) (defBody st_245) (defScope st_245) [] [] (W.fad 245) fd
  m_245 : mg "_law_shape" = some (.ref (W.fad 245))
  f_246 : ∃ fd, FunD W.K "_law_fraction_text" "_law_fraction_text" (defArgs st_246) (defBody st_246) (defScope st_246) [] [] (W.fad 246) fd
  m_246 : mg "_law_fraction_text" = some (.ref (W.fad 246))
  f_247 : ∃ fd, FunD W.K "_law_form_text" "_law_form_text" (defArgs st_247) (defBody st_247) (defScope st_247) [] [] (W.fad 247) fd
  m_247 : mg "_law_form_text" = some (.ref (W.fad 247))
  f_259 : ∃ fd, FunD W.K "_law_number_in" "_law_number_in" (defArgs st_259) (defBody st_259) (defScope st_259) [] [] (W.fad 259) fd
  m_259 : mg "_law_number_in" = some (.ref (W.fad 259))
  f_260 : ∃ fd, FunD W.K "_law_fraction_in" "_law_fraction_in" (defArgs st_260) (defBody st_260) (defScope st_260) [] [] (W.fad 260) fd
  m_260 : mg "_law_fraction_in" = some (.ref (W.fad 260))
  f_261 : ∃ fd, FunD W.K "_law_is_small" "_law_is_small" (defArgs st_261) (defBody st_261) (defScope st_261) [] [] (W.fad 261) fd
  m_261 : mg "_law_is_small" = some (.ref (W.fad 261))
  f_262 : ∃ fd, FunD W.K "_law_thing_in" "_law_thing_in" (defArgs st_262) (defBody st_262) (defScope st_262) [] [] (W.fad 262) fd
  m_262 : mg "_law_thing_in" = some (.ref (W.fad 262))
  f_263 : ∃ fd, FunD W.K "_law_form_in" "_law_form_in" (defArgs st_263) (defBody st_263) (defScope st_263) [] [] (W.fad 263) fd
  m_263 : mg "_law_form_in" = some (.ref (W.fad 263))
  f_264 : ∃ fd, FunD W.K "_law_torn" "_law_torn" (defArgs st_264) (defBody st_264) (defScope st_264) [] [] (W.fad 264) fd
  m_264 : mg "_law_torn" = some (.ref (W.fad 264))
  f_265 : ∃ fd, FunD W.K "_law_due" "_law_due" (defArgs st_265) (defBody st_265) (defScope st_265) [] [] (W.fad 265) fd
  m_265 : mg "_law_due" = some (.ref (W.fad 265))
  f_266 : ∃ fd, FunD W.K "_law_right" "_law_right" (defArgs st_266) (defBody st_266) (defScope st_266) [] [] (W.fad 266) fd
  m_266 : mg "_law_right" = some (.ref (W.fad 266))
  f_267 : ∃ fd, FunD W.K "law" "law" (defArgs st_267) (defBody st_267) (defScope st_267) [] [] (W.fad 267) fd
  m_267 : mg "law" = some (.ref (W.fad 267))
structure Sd_243 (P : Program) (w : World) (W : Wl) (mg : Str → Option Value) (base : Heap) (G : Glo) (kk : Nat) : Prop where
  f : ∃ fd, FunD W.K "_law_said" "_law_said" (defArgs st_243) (defBody st_243) (defScope st_243) [] [] (W.fad 243) fd
  m : mg "_law_said" = some (.ref (W.fad 243))
  s : ∃ G0, G.sd 243 = sdM G0 (.lst 242 [0, 1, 2, 3, 4, 5, 6, 7, 8, 9, 10, 11, 12, 13, 14, 15, 16, 17, 18, 19, 20, 21, 22, 23, 24, 25, 26, 27, 28, 29, 30, 31]) ∧ ∀ A, L2H.RoomH (kk + 1) A → CalX W P w mg base A G0 [0, 1, 2, 3, 4, 5, 6, 7, 8, 9, 10, 11, 12, 13, 14, 15, 16, 17, 18, 19, 20, 21, 22, 23, 24, 25, 26, 27, 28, 29, 30, 31] 242 "_law_word"
theorem said_243 {W : Wl} {Wx : WX} {X : Cx} {G : Glo} {kk : Nat} {ce : CE} {params : Arguments} {body : Expr} {scope : Scope} {p lpos pos : Pos} (F : Fx W X.w X.mg) (SD : Sd_243 X.prog X.w W X.mg X.base G kk) (O : Okx W Wx X) (hg : Gl X "_law_said") (hT : TabC W X) (hr : Room (kk + 2) X.A) (L : LamX.LamS X.env.scope scope)
    (hbody : ∀ (A : Around) (outer : List PySem.Env) (s : Shared) (H : Hp) (E : XK) (f c' : Addr), Room kk (LamX.lamCx X A outer s H E scope f c').A → Okx W (fun c d _ H => E c d H) (LamX.lamCx X A outer s H E scope f c') → SE W (fun c d _ H => E c d H) (LamX.lamCx X A outer s H E scope f c') G body ce)
    (hdef : defaultsOf params X.env = ([], []) := by rfl) (hbind : ∀ (q : Str) (cl : List (Str × Addr)) (pm cv ctv : Value), bindArgs (PySem.W.kla_fn "<lambda>" q params body scope cl pm cv ctv) ⟨[], []⟩ = pure [] := by intro _ _ _ _ _; rfl) :
    SE W Wx X G (.Call (.Name "_law_said" p) [.Lambda params body scope lpos] [] pos) (.said 243 ce) := by
  obtain ⟨⟨fd, FD⟩, hm, G0, hs⟩ := SD
  exact se_said O hs.1 hg hm FD (FD.bindsN fun _ _ _ _ _ _ us hl => match us, hl with | [_], _ => rfl) sc_243 (fun cdv => gives_lst (j := 1) F.xcl (by decide) O.hK (hr.mono (Nat.le_refl _)) hs.2 sc_243.nd rfl rfl rfl F.k_WhereError rfl) hT hr L hbody rfl (.inl rfl) hdef hbind
abbrev X_0 (P : Program) (w : World) (W : Wl) (mg : Str → Option Value) (base : Heap) (cdv : Value) (A : Around) (out : List PySem.Env) (s : Shared) (H : Hp) (E : XK) : Cx := cxB P w W.K mg base N_0 "is_whole" (defScope st_0) (W.fad 0) cdv A out s H E
theorem s_0 {P : Program} {w : World} {W : Wl} {mg : Str → Option Value} {base : Heap} {G : Glo} (F : Fx W w mg) (hdc : ∀ n, G.dct n = Pg.dct n) (cdv : Value) (A : Around) (out : List PySem.Env) (s : Shared) (H : Hp) (E : XK) (C : CalsF W P w mg base (X_0 P w W mg base cdv A out s H E).A G) (O : Okx W (fun c d _ H => E c d H) (X_0 P w W mg base cdv A out s H E)) (hp : PassesOwn (model P w) (X_0 P w W mg base cdv A out s H E).A (X_0 P w W mg base cdv A out s H E).env (X_0 P w W mg base cdv A out s H E).xe) :
    SSs W (fun c d _ H => E c d H) (X_0 P w W mg base cdv A out s H E) G (defBody st_0) b_is_whole :=
  (ss_cons (ss_ret (se_and (se_isi (cb_isI O.hK) (by rfl) F.b_isinstance (by decide +kernel) (by rfl) F.b_int (by decide +kernel) (sv 0)) (se_one (se_not (se_isi (cb_isB O.hK) (by rfl) F.b_isinstance (by decide +kernel) (by rfl) F.b_bool (by decide +kernel) (sv 0))))))
    ss_nil)
abbrev X_2 (P : Program) (w : World) (W : Wl) (mg : Str → Option Value) (base : Heap) (cdv : Value) (A : Around) (out : List PySem.Env) (s : Shared) (H : Hp) (E : XK) : Cx := cxB P w W.K mg base N_2 "is_word" (defScope st_2) (W.fad 2) cdv A out s H E
theorem s_2 {P : Program} {w : World} {W : Wl} {mg : Str → Option Value} {base : Heap} {G : Glo} (F : Fx W w mg) (hdc : ∀ n, G.dct n = Pg.dct n) (cdv : Value) (A : Around) (out : List PySem.Env) (s : Shared) (H : Hp) (E : XK) (C : CalsF W P w mg base (X_2 P w W mg base cdv A out s H E).A G) (O : Okx W (fun c d _ H => E c d H) (X_2 P w W mg base cdv A out s H E)) (hp : PassesOwn (model P w) (X_2 P w W mg base cdv A out s H E).A (X_2 P w W mg base cdv A out s H E).env (X_2 P w W mg base cdv A out s H E).xe) :
    SSs W (fun c d _ H => E c d H) (X_2 P w W mg base cdv A out s H E) G (defBody st_2) b_is_word :=
  (ss_cons (ss_ret (se_and (se_isi (cb_isS O.hK) (by rfl) F.b_isinstance (by decide +kernel) (by rfl) F.b_str (by decide +kernel) (sv 0)) (se_and (se_chain (ole O.toOkb) (ole O.toOkb) se_int (se_bi (cb_len O.hK) (by rfl) F.b_len (boot_len) (sa_cons (sv 0) sa_nil)) se_int) (se_one (se_bi (cb_all O.calm) (by rfl) F.b_all (by decide +kernel) (sa_cons (se_comp O (si_seq O (sv 0)) (blkOk_by (N := N_2) (sc := defScope st_2) (own := [("one", 1)]) (by decide +kernel)) rfl (fun _ _ _ _ _ => (tv 1 (Okx.blk O).toOkb)) (fun _ _ _ _ _ => sts_nil) (fun _ _ _ _ _ => (se_cmp (oin (Okx.blk O).toOkb) (sv 1) (se_gc (by rfl) F.g_SMALL) (by with_unfolding_all rfl)))) sa_nil))))))
    ss_nil)
abbrev X_5 (P : Program) (w : World) (W : Wl) (mg : Str → Option Value) (base : Heap) (cdv : Value) (A : Around) (out : List PySem.Env) (s : Shared) (H : Hp) (E : XK) : Cx := cxB P w W.K mg base N_5 "common_of" (defScope st_5) (W.fad 5) cdv A out s H E
theorem s_5 {P : Program} {w : World} {W : Wl} {mg : Str → Option Value} {base : Heap} {G : Glo} (F : Fx W w mg) (hdc : ∀ n, G.dct n = Pg.dct n) (cdv : Value) (A : Around) (out : List PySem.Env) (s : Shared) (H : Hp) (E : XK) (C : CalsF W P w mg base (X_5 P w W mg base cdv A out s H E).A G) (O : Okx W (fun c d _ H => E c d H) (X_5 P w W mg base cdv A out s H E)) (hp : PassesOwn (model P w) (X_5 P w W mg base cdv A out s H E).A (X_5 P w W mg base cdv A out s H E).env (X_5 P w W mg base cdv A out s H E).xe) :
    SSs W (fun c d _ H => E c d H) (X_5 P w W mg base cdv A out s H E) G (defBody st_5) b_common_of :=
  (ss_cons (ss_par O (i := 0) (j := 1) rfl rfl (by decide) rfl rfl (sa_cons (se_bi cb_abs (by rfl) F.b_abs (by decide +kernel) (sa_cons (sv 0) sa_nil)) (sa_cons (se_bi cb_abs (by rfl) F.b_abs (by decide +kernel) (sa_cons (sv 1) sa_nil)) sa_nil)))
    (ss_cons (ss_whl O hp (st_cmp (one_ O.toOkb) (sv 1) se_int (nomark _)) (ss_cons (ss_par O (i := 0) (j := 1) rfl rfl (by decide) rfl rfl (sa_cons (sv 1) (sa_cons (se_bin (omod O.toOkb) (sv 0) (sv 1)) sa_nil)))
    ss_nil))
    (ss_cons (ss_ret (sv 0))
    ss_nil)))
abbrev X_7 (P : Program) (w : World) (W : Wl) (mg : Str → Option Value) (base : Heap) (cdv : Value) (A : Around) (out : List PySem.Env) (s : Shared) (H : Hp) (E : XK) : Cx := cxB P w W.K mg base N_7 "is_fraction" (defScope st_7) (W.fad 7) cdv A out s H E
theorem s_7 {P : Program} {w : World} {W : Wl} {mg : Str → Option Value} {base : Heap} {G : Glo} (F : Fx W w mg) (hdc : ∀ n, G.dct n = Pg.dct n) (cdv : Value) (A : Around) (out : List PySem.Env) (s : Shared) (H : Hp) (E : XK) (C : CalsF W P w mg base (X_7 P w W mg base cdv A out s H E).A G) (O : Okx W (fun c d _ H => E c d H) (X_7 P w W mg base cdv A out s H E)) (hp : PassesOwn (model P w) (X_7 P w W mg base cdv A out s H E).A (X_7 P w W mg base cdv A out s H E).env (X_7 P w W mg base cdv A out s H E).xe) :
    SSs W (fun c d _ H => E c d H) (X_7 P w W mg base cdv A out s H E) G (defBody st_7) b_is_fraction :=
  (ss_cons (ss_if (sw_pt (sw_or (st_not (st_val (se_isi (cb_isT O.hK) (by rfl) F.b_isinstance (by decide +kernel) (by rfl) F.b_tuple (by decide +kernel) (sv 0)))) (sw_or (st_cmp (one_ O.toOkb) (se_bi (cb_len O.hK) (by rfl) F.b_len (boot_len) (sa_cons (sv 0) sa_nil)) se_int (nomark _)) (sw_or (st_not (st_val (se_call O C.c_is_whole (by rfl) (sa_cons (se_ix O.toOkb (sv 0) se_int) sa_nil)))) (sw_or1 (st_not (st_val (se_call O C.c_is_whole (by rfl) (sa_cons (se_ix O.toOkb (sv 0) se_int) sa_nil))))))))) (ss_cons (ss_ret se_bl)
    ss_nil) ss_nil)
    (ss_cons (ss_ret (se_and (se_cmp (ogt O.toOkb) (se_ix O.toOkb (sv 0) se_int) se_int (nomark _)) (se_one (se_cmp (oeq O.toOkb) (se_call O C.c_common_of (by rfl) (sa_cons (se_ix O.toOkb (sv 0) se_int) (sa_cons (se_ix O.toOkb (sv 0) se_int) sa_nil))) se_int (nomark _)))))
    ss_nil))
abbrev X_251 (P : Program) (w : World) (W : Wl) (mg : Str → Option Value) (base : Heap) (cdv : Value) (A : Around) (out : List PySem.Env) (s : Shared) (H : Hp) (E : XK) : Cx := cxB P w W.K mg base N_251 "is_code" (defScope st_251) (W.fad 251) cdv A out s H E
theorem s_251 {P : Program} {w : World} {W : Wl} {mg : Str → Option Value} {base : Heap} {G : Glo} (F : Fx W w mg) (hdc : ∀ n, G.dct n = Pg.dct n) (cdv : Value) (A : Around) (out : List PySem.Env) (s : Shared) (H : Hp) (E : XK) (C : CalsF W P w mg base (X_251 P w W mg base cdv A out s H E).A G) (O : Okx W (fun c d _ H => E c d H) (X_251 P w W mg base cdv A out s H E)) (hp : PassesOwn (model P w) (X_251 P w W mg base cdv A out s H E).A (X_251 P w W mg base cdv A out s H E).env (X_251 P w W mg base cdv A out s H E).xe) :
    SSs W (fun c d _ H => E c d H) (X_251 P w W mg base cdv A out s H E) G (defBody st_251) b_is_code'2 :=
  (ss_cons (ss_ret (se_and (se_isi (cb_isS O.hK) (by rfl) F.b_isinstance (by decide +kernel) (by rfl) F.b_str (by decide +kernel) (sv 0)) (se_and (se_cmp (ole O.toOkb) (se_bi (cb_len O.hK) (by rfl) F.b_len (boot_len) (sa_cons (sv 0) sa_nil)) (se_gc (by rfl) F.g_MOST_DEPTH) (nomark _)) (se_one (se_bi (cb_all O.calm) (by rfl) F.b_all (by decide +kernel) (sa_cons (se_comp O (si_seq O (sv 0)) (blkOk_by (N := N_251) (sc := defScope st_251) (own := [("sign", 1)]) (by decide +kernel)) rfl (fun _ _ _ _ _ => (tv 1 (Okx.blk O).toOkb)) (fun _ _ _ _ _ => sts_nil) (fun _ _ _ _ _ => (se_cmp (oin (Okx.blk O).toOkb) (sv 1) (se_gc (by rfl) F.g_FIGURES_tiles) (by with_unfolding_all rfl)))) sa_nil))))))
    ss_nil)
abbrev X_252 (P : Program) (w : World) (W : Wl) (mg : Str → Option Value) (base : Heap) (cdv : Value) (A : Around) (out : List PySem.Env) (s : Shared) (H : Hp) (E : XK) : Cx := cxB P w W.K mg base N_252 "number_in" (defScope st_252) (W.fad 252) cdv A out s H E
theorem s_252 {P : Program} {w : World} {W : Wl} {mg : Str → Option Value} {base : Heap} {G : Glo} (F : Fx W w mg) (hdc : ∀ n, G.dct n = Pg.dct n) (cdv : Value) (A : Around) (out : List PySem.Env) (s : Shared) (H : Hp) (E : XK) (C : CalsF W P w mg base (X_252 P w W mg base cdv A out s H E).A G) (O : Okx W (fun c d _ H => E c d H) (X_252 P w W mg base cdv A out s H E)) (hp : PassesOwn (model P w) (X_252 P w W mg base cdv A out s H E).A (X_252 P w W mg base cdv A out s H E).env (X_252 P w W mg base cdv A out s H E).xe) :
    SSs W (fun c d _ H => E c d H) (X_252 P w W mg base cdv A out s H E) G (defBody st_252) b_number_in :=
  (ss_cons (ss_if (sw_pt (sw_or (st_cmp (oeq O.toOkb) (sv 0) se_str (nomark _)) (sw_or (st_not (st_val (se_bi (cb_all O.calm) (by rfl) F.b_all (by decide +kernel) (sa_cons (se_comp O (si_seq O (sv 0)) (blkOk_by (N := N_252) (sc := defScope st_252) (own := [("sign", 1)]) (by decide +kernel)) rfl (fun _ _ _ _ _ => (tv 1 (Okx.blk O).toOkb)) (fun _ _ _ _ _ => sts_nil) (fun _ _ _ _ _ => (se_cmp (oin (Okx.blk O).toOkb) (sv 1) (se_gc (by rfl) F.g_FIGURES_texts) (by with_unfolding_all rfl)))) sa_nil)))) (sw_or1 (sw_pt (sw_and (st_cmp (oeq O.toOkb) (se_ix O.toOkb (sv 0) se_int) se_str (nomark _)) (sw_and1 (st_cmp (one_ O.toOkb) (sv 0) se_str (nomark _))))))))) (ss_cons (ss_ret se_non)
    ss_nil) ss_nil)
    (ss_cons (ss_ret (se_bty cb_int (by rfl) F.b_int (by decide +kernel) (sa_cons (sv 0) sa_nil)))
    ss_nil))
abbrev X_253 (P : Program) (w : World) (W : Wl) (mg : Str → Option Value) (base : Heap) (cdv : Value) (A : Around) (out : List PySem.Env) (s : Shared) (H : Hp) (E : XK) : Cx := cxB P w W.K mg base N_253 "whole_in" (defScope st_253) (W.fad 253) cdv A out s H E
theorem s_253 {P : Program} {w : World} {W : Wl} {mg : Str → Option Value} {base : Heap} {G : Glo} (F : Fx W w mg) (hdc : ∀ n, G.dct n = Pg.dct n) (cdv : Value) (A : Around) (out : List PySem.Env) (s : Shared) (H : Hp) (E : XK) (C : CalsF W P w mg base (X_253 P w W mg base cdv A out s H E).A G) (O : Okx W (fun c d _ H => E c d H) (X_253 P w W mg base cdv A out s H E)) (hp : PassesOwn (model P w) (X_253 P w W mg base cdv A out s H E).A (X_253 P w W mg base cdv A out s H E).env (X_253 P w W mg base cdv A out s H E).xe) :
    SSs W (fun c d _ H => E c d H) (X_253 P w W mg base cdv A out s H E) G (defBody st_253) b_whole_in :=
  (ss_cons (ss_if (st_cmp (one_ O.toOkb) (se_slHi O (sv 0) se_int) se_str (nomark _)) (ss_cons (ss_ret (se_call O C.c_number_in (by rfl) (sa_cons (sv 0) sa_nil)))
    ss_nil) ss_nil)
    (ss_cons (ss_set O.nd (i := 1) rfl (by first | exact .inl rfl | exact .inr rfl) (se_call O C.c_number_in (by rfl) (sa_cons (se_slLo O (sv 0) se_int) sa_nil)))
    (ss_cons (ss_ret (se_ite (sw_pt (sw_or (st_cmp (ois O.toOkb) (sv 1) se_non (nomark _)) (sw_or1 (st_cmp (oeq O.toOkb) (sv 1) se_int (nomark _))))) se_non (se_bin (osub O.toOkb) se_int (sv 1))))
    ss_nil)))
abbrev X_254 (P : Program) (w : World) (W : Wl) (mg : Str → Option Value) (base : Heap) (cdv : Value) (A : Around) (out : List PySem.Env) (s : Shared) (H : Hp) (E : XK) : Cx := cxB P w W.K mg base N_254 "fraction_in" (defScope st_254) (W.fad 254) cdv A out s H E
theorem s_254 {P : Program} {w : World} {W : Wl} {mg : Str → Option Value} {base : Heap} {G : Glo} (F : Fx W w mg) (hdc : ∀ n, G.dct n = Pg.dct n) (cdv : Value) (A : Around) (out : List PySem.Env) (s : Shared) (H : Hp) (E : XK) (C : CalsF W P w mg base (X_254 P w W mg base cdv A out s H E).A G) (O : Okx W (fun c d _ H => E c d H) (X_254 P w W mg base cdv A out s H E)) (hp : PassesOwn (model P w) (X_254 P w W mg base cdv A out s H E).A (X_254 P w W mg base cdv A out s H E).env (X_254 P w W mg base cdv A out s H E).xe) :
    SSs W (fun c d _ H => E c d H) (X_254 P w W mg base cdv A out s H E) G (defBody st_254) b_fraction_in :=
  (ss_cons (ss_asg (se_me O.toOkb PySem.F.plainAttrs_str PySem.F.slot_str_partition PySem.F.type_str_partition me_partition ty_partition (sv 0) (sa_cons (se_gc (by rfl) F.g_BAR) sa_nil)) (sg_t O.hK O.calm (sgs_cons (tv 3 O.toOkb) (sgs_cons (tv 4 O.toOkb) (sgs_cons (tv 5 O.toOkb) sgs_nil)))))
    (ss_cons (ss_set O.nd (i := 1) rfl (by first | exact .inl rfl | exact .inr rfl) (se_call O C.c_whole_in (by rfl) (sa_cons (sv 3) sa_nil)))
    (ss_cons (ss_set O.nd (i := 2) rfl (by first | exact .inl rfl | exact .inr rfl) (se_ite (st_cmp (one_ O.toOkb) (sv 4) se_str (nomark _)) (se_call O C.c_number_in (by rfl) (sa_cons (sv 5) sa_nil)) se_int))
    (ss_cons (ss_if (sw_pt (sw_or (st_cmp (ois O.toOkb) (sv 1) se_non (nomark _)) (sw_or (st_cmp (ois O.toOkb) (sv 2) se_non (nomark _)) (sw_or (sw_pt (sw_and (st_cmp (one_ O.toOkb) (sv 4) se_str (nomark _)) (sw_and1 (st_cmp (olt O.toOkb) (sv 2) se_int (nomark _))))) (sw_or1 (st_not (st_val (se_call O C.c_is_fraction (by rfl) (sa_cons (se_tup (sa_cons (sv 1) (sa_cons (sv 2) sa_nil))) sa_nil))))))))) (ss_cons (ss_ret se_non)
    ss_nil) ss_nil)
    (ss_cons (ss_ret (se_tup (sa_cons (sv 1) (sa_cons (sv 2) sa_nil))))
    ss_nil)))))
abbrev X_255 (P : Program) (w : World) (W : Wl) (mg : Str → Option Value) (base : Heap) (cdv : Value) (A : Around) (out : List PySem.Env) (s : Shared) (H : Hp) (E : XK) : Cx := cxB P w W.K mg base N_255 "thing_in" (defScope st_255) (W.fad 255) cdv A out s H E
theorem s_255 {P : Program} {w : World} {W : Wl} {mg : Str → Option Value} {base : Heap} {G : Glo} (F : Fx W w mg) (hdc : ∀ n, G.dct n = Pg.dct n) (cdv : Value) (A : Around) (out : List PySem.Env) (s : Shared) (H : Hp) (E : XK) (C : CalsF W P w mg base (X_255 P w W mg base cdv A out s H E).A G) (O : Okx W (fun c d _ H => E c d H) (X_255 P w W mg base cdv A out s H E)) (hp : PassesOwn (model P w) (X_255 P w W mg base cdv A out s H E).A (X_255 P w W mg base cdv A out s H E).env (X_255 P w W mg base cdv A out s H E).xe) :
    SSs W (fun c d _ H => E c d H) (X_255 P w W mg base cdv A out s H E) G (defBody st_255) b_thing_in :=
  (ss_cons (ss_if (st_cmp (oeq O.toOkb) (sv 0) se_str (nomark _)) (ss_cons (ss_ret (se_call O C.c_fraction_in (by rfl) (sa_cons (sv 1) sa_nil)))
    ss_nil) ss_nil)
    (ss_cons (ss_if (st_cmp (oeq O.toOkb) (sv 0) se_str (nomark _)) (ss_cons (ss_ret (se_call O C.c_number_in (by rfl) (sa_cons (sv 1) sa_nil)))
    ss_nil) ss_nil)
    (ss_cons (ss_if (st_cmp (oeq O.toOkb) (sv 0) se_str (nomark _)) (ss_cons (ss_set O.nd (i := 2) rfl (by first | exact .inl rfl | exact .inr rfl) (se_ite (st_cmp (oeq O.toOkb) (sv 1) (se_gc (by rfl) F.g_BARE) (nomark _)) se_str (sv 1)))
    (ss_cons (ss_ret (se_ite (sw_pt (sw_and (st_cmp (one_ O.toOkb) (sv 1) se_str (nomark _)) (sw_and1 (st_val (se_call O C.c_is_code (by rfl) (sa_cons (sv 2) sa_nil)))))) (sv 2) se_non))
    ss_nil)) ss_nil)
    (ss_cons (ss_ret (se_ite (st_val (se_call O C.c_is_word (by rfl) (sa_cons (sv 1) sa_nil))) (sv 1) se_non))
    ss_nil))))
abbrev X_256 (P : Program) (w : World) (W : Wl) (mg : Str → Option Value) (base : Heap) (cdv : Value) (A : Around) (out : List PySem.Env) (s : Shared) (H : Hp) (E : XK) : Cx := cxB P w W.K mg base N_256 "form_in" (defScope st_256) (W.fad 256) cdv A out s H E
theorem s_256 {P : Program} {w : World} {W : Wl} {mg : Str → Option Value} {base : Heap} {G : Glo} (F : Fx W w mg) (hdc : ∀ n, G.dct n = Pg.dct n) (cdv : Value) (A : Around) (out : List PySem.Env) (s : Shared) (H : Hp) (E : XK) (C : CalsF W P w mg base (X_256 P w W mg base cdv A out s H E).A G) (O : Okx W (fun c d _ H => E c d H) (X_256 P w W mg base cdv A out s H E)) (hp : PassesOwn (model P w) (X_256 P w W mg base cdv A out s H E).A (X_256 P w W mg base cdv A out s H E).env (X_256 P w W mg base cdv A out s H E).xe) :
    SSs W (fun c d _ H => E c d H) (X_256 P w W mg base cdv A out s H E) G (defBody st_256) b_form_in :=
  (ss_cons (ss_hd O (i := 3) (j := 4) rfl rfl (se_me O.toOkb PySem.F.plainAttrs_str PySem.F.slot_str_split PySem.F.type_str_split me_split ty_split (sv 0) (sa_cons se_str sa_nil)))
    (ss_cons (ss_set O.nd (i := 1) rfl (by first | exact .inl rfl | exact .inr rfl) (se_ggetD O.toOkb F.d_SHAPES (hdc 1) (by rfl) (sv 3) se_str))
    (ss_cons (ss_if (sw_pt (sw_or (st_cmp (oeq O.toOkb) (sv 1) se_str (nomark _)) (sw_or1 (st_cmp (one_ O.toOkb) (se_bi (cb_len O.hK) (by rfl) F.b_len (boot_len) (sa_cons (sv 4) sa_nil)) (se_bi (cb_len O.hK) (by rfl) F.b_len (boot_len) (sa_cons (sv 1) sa_nil)) (nomark _))))) (ss_cons (ss_ret se_non)
    ss_nil) ss_nil)
    (ss_cons (ss_setLc O (i := 2) rfl rfl (sw_true rfl rfl rfl (by decide +kernel)) (si_zip2 O (by rfl) F.b_zip (sa_cons (sv 1) (sa_cons (sv 4) sa_nil))) (blkOk_by (N := N_256) (sc := defScope st_256) (own := [("kind", 5), ("one", 6)]) (by decide +kernel)) rfl (fun _ _ _ _ _ => (sg_t (Okx.blk O).hK (Okx.blk O).calm (sgs_cons (tv 5 (Okx.blk O).toOkb) (sgs_cons (tv 6 (Okx.blk O).toOkb) sgs_nil)))) (fun _ _ _ _ _ => sts_nil) (fun _ _ _ _ _ => (se_call (Okx.blk O) C.c_thing_in (by rfl) (sa_cons (sv 5) (sa_cons (sv 6) sa_nil)))))
    (ss_cons (ss_ret (se_ite (st_cmp (oin O.toOkb) se_non (sv 2) (by with_unfolding_all rfl)) se_non (se_bin (oadd O.toOkb) (se_tup (sa_cons (sv 3) sa_nil)) (se_bty (cb_tuple O.hK) (by rfl) F.b_tuple (boot_tuple) (sa_cons (sv 2) sa_nil)))))
    ss_nil)))))
abbrev X_257 (P : Program) (w : World) (W : Wl) (mg : Str → Option Value) (base : Heap) (cdv : Value) (A : Around) (out : List PySem.Env) (s : Shared) (H : Hp) (E : XK) : Cx := cxB P w W.K mg base N_257 "read_fraction" (defScope st_257) (W.fad 257) cdv A out s H E
theorem s_257 {P : Program} {w : World} {W : Wl} {mg : Str → Option Value} {base : Heap} {G : Glo} (F : Fx W w mg) (hdc : ∀ n, G.dct n = Pg.dct n) (cdv : Value) (A : Around) (out : List PySem.Env) (s : Shared) (H : Hp) (E : XK) (C : CalsF W P w mg base (X_257 P w W mg base cdv A out s H E).A G) (O : Okx W (fun c d _ H => E c d H) (X_257 P w W mg base cdv A out s H E)) (hp : PassesOwn (model P w) (X_257 P w W mg base cdv A out s H E).A (X_257 P w W mg base cdv A out s H E).env (X_257 P w W mg base cdv A out s H E).xe) :
    SSs W (fun c d _ H => E c d H) (X_257 P w W mg base cdv A out s H E) G (defBody st_257) b_read_fraction :=
  (ss_cons (ss_set O.nd (i := 1) rfl (by first | exact .inl rfl | exact .inr rfl) (se_ite (st_val (se_isi (cb_isS O.hK) (by rfl) F.b_isinstance (by decide +kernel) (by rfl) F.b_str (by decide +kernel) (sv 0))) (se_call O C.c_fraction_in (by rfl) (sa_cons (sv 0) sa_nil)) se_non))
    (ss_cons (ss_if (st_cmp (ois O.toOkb) (sv 1) se_non (nomark _)) (ss_cons (ss_rse O F.x_NoText (by rfl))
    ss_nil) ss_nil)
    (ss_cons (ss_ret (sv 1))
    ss_nil)))
abbrev X_258 (P : Program) (w : World) (W : Wl) (mg : Str → Option Value) (base : Heap) (cdv : Value) (A : Around) (out : List PySem.Env) (s : Shared) (H : Hp) (E : XK) : Cx := cxB P w W.K mg base N_258 "read_form" (defScope st_258) (W.fad 258) cdv A out s H E
theorem s_258 {P : Program} {w : World} {W : Wl} {mg : Str → Option Value} {base : Heap} {G : Glo} (F : Fx W w mg) (hdc : ∀ n, G.dct n = Pg.dct n) (cdv : Value) (A : Around) (out : List PySem.Env) (s : Shared) (H : Hp) (E : XK) (C : CalsF W P w mg base (X_258 P w W mg base cdv A out s H E).A G) (O : Okx W (fun c d _ H => E c d H) (X_258 P w W mg base cdv A out s H E)) (hp : PassesOwn (model P w) (X_258 P w W mg base cdv A out s H E).A (X_258 P w W mg base cdv A out s H E).env (X_258 P w W mg base cdv A out s H E).xe) :
    SSs W (fun c d _ H => E c d H) (X_258 P w W mg base cdv A out s H E) G (defBody st_258) b_read_form :=
  (ss_cons (ss_set O.nd (i := 1) rfl (by first | exact .inl rfl | exact .inr rfl) (se_ite (st_val (se_isi (cb_isS O.hK) (by rfl) F.b_isinstance (by decide +kernel) (by rfl) F.b_str (by decide +kernel) (sv 0))) (se_call O C.c_form_in (by rfl) (sa_cons (sv 0) sa_nil)) se_non))
    (ss_cons (ss_if (st_cmp (ois O.toOkb) (sv 1) se_non (nomark _)) (ss_cons (ss_rse O F.x_NoText (by rfl))
    ss_nil) ss_nil)
    (ss_cons (ss_ret (sv 1))
    ss_nil)))
abbrev X_117 (P : Program) (w : World) (W : Wl) (mg : Str → Option Value) (base : Heap) (cdv : Value) (A : Around) (out : List PySem.Env) (s : Shared) (H : Hp) (E : XK) : Cx := cxB P w W.K mg base N_117 "_law_cell_at" (defScope st_117) (W.fad 117) cdv A out s H E
theorem s_117 {P : Program} {w : World} {W : Wl} {mg : Str → Option Value} {base : Heap} {G : Glo} (F : Fx W w mg) (hdc : ∀ n, G.dct n = Pg.dct n) (cdv : Value) (A : Around) (out : List PySem.Env) (s : Shared) (H : Hp) (E : XK) (C : CalsF W P w mg base (X_117 P w W mg base cdv A out s H E).A G) (O : Okx W (fun c d _ H => E c d H) (X_117 P w W mg base cdv A out s H E)) (hp : PassesOwn (model P w) (X_117 P w W mg base cdv A out s H E).A (X_117 P w W mg base cdv A out s H E).env (X_117 P w W mg base cdv A out s H E).xe) :
    SSs W (fun c d _ H => E c d H) (X_117 P w W mg base cdv A out s H E) G (defBody st_117) b_l_cell_at :=
  (ss_cons (ss_if (st_cmp (olt O.toOkb) (sv 1) (se_bi (cb_len O.hK) (by rfl) F.b_len (boot_len) (sa_cons (sv 0) sa_nil)) (nomark _)) (ss_cons (ss_ret (se_ix O.toOkb (sv 0) (sv 1)))
    ss_nil) ss_nil)
    (ss_cons (ss_ret se_int)
    ss_nil))
abbrev X_118 (P : Program) (w : World) (W : Wl) (mg : Str → Option Value) (base : Heap) (cdv : Value) (A : Around) (out : List PySem.Env) (s : Shared) (H : Hp) (E : XK) : Cx := cxB P w W.K mg base N_118 "_law_state" (defScope st_118) (W.fad 118) cdv A out s H E
theorem s_118 {P : Program} {w : World} {W : Wl} {mg : Str → Option Value} {base : Heap} {G : Glo} (F : Fx W w mg) (hdc : ∀ n, G.dct n = Pg.dct n) (cdv : Value) (A : Around) (out : List PySem.Env) (s : Shared) (H : Hp) (E : XK) (C : CalsF W P w mg base (X_118 P w W mg base cdv A out s H E).A G) (O : Okx W (fun c d _ H => E c d H) (X_118 P w W mg base cdv A out s H E)) (hp : PassesOwn (model P w) (X_118 P w W mg base cdv A out s H E).A (X_118 P w W mg base cdv A out s H E).env (X_118 P w W mg base cdv A out s H E).xe) :
    SSs W (fun c d _ H => E c d H) (X_118 P w W mg base cdv A out s H E) G (defBody st_118) b_l_state :=
  (ss_cons (ss_set O.nd (i := 2) rfl (by first | exact .inl rfl | exact .inr rfl) (se_call O C.c__law_cell_at (by rfl) (sa_cons (sv 0) (sa_cons (sv 1) sa_nil))))
    (ss_cons (ss_ret (se_new (sa_cons (se_bi (cb_max2 O.calm) (by rfl) F.b_max (by decide +kernel) (sa_cons se_int (sa_cons (se_bin (osub O.toOkb) (sv 2) (se_bin (opow O.toOkb) se_int se_int)) sa_nil))) (sa_cons (se_bin (oadd O.toOkb) (se_bin (omod O.toOkb) (sv 2) se_int) se_int) (sa_cons se_int sa_nil)))))
    ss_nil))
abbrev X_119 (P : Program) (w : World) (W : Wl) (mg : Str → Option Value) (base : Heap) (cdv : Value) (A : Around) (out : List PySem.Env) (s : Shared) (H : Hp) (E : XK) : Cx := cxB P w W.K mg base N_119 "_law_choice" (defScope st_119) (W.fad 119) cdv A out s H E
theorem s_119 {P : Program} {w : World} {W : Wl} {mg : Str → Option Value} {base : Heap} {G : Glo} (F : Fx W w mg) (hdc : ∀ n, G.dct n = Pg.dct n) (cdv : Value) (A : Around) (out : List PySem.Env) (s : Shared) (H : Hp) (E : XK) (C : CalsF W P w mg base (X_119 P w W mg base cdv A out s H E).A G) (O : Okx W (fun c d _ H => E c d H) (X_119 P w W mg base cdv A out s H E)) (hp : PassesOwn (model P w) (X_119 P w W mg base cdv A out s H E).A (X_119 P w W mg base cdv A out s H E).env (X_119 P w W mg base cdv A out s H E).xe) :
    SSs W (fun c d _ H => E c d H) (X_119 P w W mg base cdv A out s H E) G (defBody st_119) b_l_choice :=
  (ss_cons (ss_if (st_cmp (ogt O.toOkb) (se_ix O.toOkb (sv 0) se_int) se_int (nomark _)) (ss_cons (ss_set O.nd (i := 3) rfl (by first | exact .inl rfl | exact .inr rfl) (se_bin (omod O.toOkb) (se_ix O.toOkb (sv 0) se_int) (sv 1)))
    (ss_cons (ss_seti O (se_bin (ofdiv O.toOkb) (se_ix O.toOkb (sv 0) se_int) (sv 1)) (sv 0) se_int)
    (ss_cons (ss_ret (sv 3))
    ss_nil))) ss_nil)
    (ss_cons (ss_seti O (se_bin (oadd O.toOkb) (se_ix O.toOkb (sv 0) se_int) se_int) (sv 0) se_int)
    (ss_cons (ss_seti O (se_bin (omod O.toOkb) (se_bin (oadd O.toOkb) (se_bin (oadd O.toOkb) (se_bin (omul O.toOkb) (se_ix O.toOkb (sv 0) se_int) se_int) se_int) (se_ix O.toOkb (sv 0) se_int)) se_int) (sv 0) se_int)
    (ss_cons (ss_set O.nd (i := 2) rfl (by first | exact .inl rfl | exact .inr rfl) (se_bin (omod O.toOkb) (se_bin (oadd O.toOkb) (se_bin (oadd O.toOkb) (se_bin (omul O.toOkb) (se_ix O.toOkb (sv 0) se_int) (se_ix O.toOkb (sv 0) se_int)) (se_bin (omul O.toOkb) se_int (se_ix O.toOkb (sv 0) se_int))) se_int) se_int))
    (ss_cons (ss_set O.nd (i := 2) rfl (by first | exact .inl rfl | exact .inr rfl) (se_bin (omod O.toOkb) (se_bin (oadd O.toOkb) (se_bin (omul O.toOkb) (sv 2) (sv 2)) (se_bin (omul O.toOkb) se_int (sv 2))) se_int))
    (ss_cons (ss_ret (se_bin (omod O.toOkb) (se_bin (ofdiv O.toOkb) (sv 2) se_int) (sv 1)))
    ss_nil))))))
abbrev X_120 (P : Program) (w : World) (W : Wl) (mg : Str → Option Value) (base : Heap) (cdv : Value) (A : Around) (out : List PySem.Env) (s : Shared) (H : Hp) (E : XK) : Cx := cxB P w W.K mg base N_120 "_law_low" (defScope st_120) (W.fad 120) cdv A out s H E
theorem s_120 {P : Program} {w : World} {W : Wl} {mg : Str → Option Value} {base : Heap} {G : Glo} (F : Fx W w mg) (hdc : ∀ n, G.dct n = Pg.dct n) (cdv : Value) (A : Around) (out : List PySem.Env) (s : Shared) (H : Hp) (E : XK) (C : CalsF W P w mg base (X_120 P w W mg base cdv A out s H E).A G) (O : Okx W (fun c d _ H => E c d H) (X_120 P w W mg base cdv A out s H E)) (hp : PassesOwn (model P w) (X_120 P w W mg base cdv A out s H E).A (X_120 P w W mg base cdv A out s H E).env (X_120 P w W mg base cdv A out s H E).xe) :
    SSs W (fun c d _ H => E c d H) (X_120 P w W mg base cdv A out s H E) G (defBody st_120) b_l_low :=
  (ss_cons (ss_par O (i := 3) (j := 4) rfl rfl (by decide) rfl rfl (sa_cons (se_bi cb_abs (by rfl) F.b_abs (by decide +kernel) (sa_cons (sv 0) sa_nil)) (sa_cons (se_bi cb_abs (by rfl) F.b_abs (by decide +kernel) (sa_cons (sv 1) sa_nil)) sa_nil)))
    (ss_cons (ss_whl O hp (st_cmp (ogt O.toOkb) (sv 4) se_int (nomark _)) (ss_cons (ss_par O (i := 3) (j := 4) rfl rfl (by decide) rfl rfl (sa_cons (sv 4) (sa_cons (se_bin (omod O.toOkb) (sv 3) (sv 4)) sa_nil)))
    ss_nil))
    (ss_cons (ss_set O.nd (i := 2) rfl (by first | exact .inl rfl | exact .inr rfl) (se_ite (st_cmp (ogt O.toOkb) (sv 1) se_int (nomark _)) (sv 3) (se_bin (osub O.toOkb) se_int (sv 3))))
    (ss_cons (ss_ret (se_tup (sa_cons (se_bin (ofdiv O.toOkb) (sv 0) (sv 2)) (sa_cons (se_bin (ofdiv O.toOkb) (sv 1) (sv 2)) sa_nil))))
    ss_nil))))
abbrev X_127 (P : Program) (w : World) (W : Wl) (mg : Str → Option Value) (base : Heap) (cdv : Value) (A : Around) (out : List PySem.Env) (s : Shared) (H : Hp) (E : XK) : Cx := cxB P w W.K mg base N_127 "_law_any" (defScope st_127) (W.fad 127) cdv A out s H E
theorem s_127 {P : Program} {w : World} {W : Wl} {mg : Str → Option Value} {base : Heap} {G : Glo} (F : Fx W w mg) (hdc : ∀ n, G.dct n = Pg.dct n) (cdv : Value) (A : Around) (out : List PySem.Env) (s : Shared) (H : Hp) (E : XK) (C : CalsF W P w mg base (X_127 P w W mg base cdv A out s H E).A G) (O : Okx W (fun c d _ H => E c d H) (X_127 P w W mg base cdv A out s H E)) (hp : PassesOwn (model P w) (X_127 P w W mg base cdv A out s H E).A (X_127 P w W mg base cdv A out s H E).env (X_127 P w W mg base cdv A out s H E).xe) :
    SSs W (fun c d _ H => E c d H) (X_127 P w W mg base cdv A out s H E) G (defBody st_127) b_l_any :=
  (ss_cons (ss_set O.nd (i := 1) rfl (by first | exact .inl rfl | exact .inr rfl) (se_call O C.c__law_choice (by rfl) (sa_cons (sv 0) (sa_cons (se_ix O.toOkb (se_lst (sa_cons se_int (sa_cons se_int (sa_cons (se_bin (opow O.toOkb) se_int se_int) sa_nil)))) (se_call O C.c__law_choice (by rfl) (sa_cons (sv 0) (sa_cons se_int sa_nil)))) sa_nil))))
    (ss_cons (ss_set O.nd (i := 2) rfl (by first | exact .inl rfl | exact .inr rfl) (se_ix O.toOkb (se_lst (sa_cons se_int (sa_cons se_int (sa_cons se_int (sa_cons se_int (sa_cons se_int (sa_cons (se_bin (oadd O.toOkb) (se_bin (opow O.toOkb) se_int se_int) se_int) sa_nil))))))) (se_call O C.c__law_choice (by rfl) (sa_cons (sv 0) (sa_cons se_int sa_nil)))))
    (ss_cons (ss_ret (se_call O C.c__law_low (by rfl) (sa_cons (se_bin (omul O.toOkb) (sv 1) (se_ix O.toOkb (se_lst (sa_cons se_int (sa_cons (se_neg se_int) sa_nil))) (se_call O C.c__law_choice (by rfl) (sa_cons (sv 0) (sa_cons se_int sa_nil))))) (sa_cons (sv 2) sa_nil))))
    ss_nil)))
abbrev X_137 (P : Program) (w : World) (W : Wl) (mg : Str → Option Value) (base : Heap) (cdv : Value) (A : Around) (out : List PySem.Env) (s : Shared) (H : Hp) (E : XK) : Cx := cxB P w W.K mg base N_137 "_law_same" (defScope st_137) (W.fad 137) cdv A out s H E
theorem s_137 {P : Program} {w : World} {W : Wl} {mg : Str → Option Value} {base : Heap} {G : Glo} (F : Fx W w mg) (hdc : ∀ n, G.dct n = Pg.dct n) (cdv : Value) (A : Around) (out : List PySem.Env) (s : Shared) (H : Hp) (E : XK) (C : CalsF W P w mg base (X_137 P w W mg base cdv A out s H E).A G) (O : Okx W (fun c d _ H => E c d H) (X_137 P w W mg base cdv A out s H E)) (hp : PassesOwn (model P w) (X_137 P w W mg base cdv A out s H E).A (X_137 P w W mg base cdv A out s H E).env (X_137 P w W mg base cdv A out s H E).xe) (CT : CalsT W P w mg base (X_137 P w W mg base cdv A out s H E).A G) (hgd : (X_137 P w W mg base cdv A out s H E).A.guards = some []) :
    SSs W (fun c d _ H => E c d H) (X_137 P w W mg base cdv A out s H E) G (defBody st_137) b_l_same :=
  (ss_cons (ss_ret (se_cmp (oeq O.toOkb) (se_bi (cb_repr O.hK O.hu hgd) (by rfl) F.b_repr (by decide +kernel) (sa_cons (sv 0) sa_nil)) (se_bi (cb_repr O.hK O.hu hgd) (by rfl) F.b_repr (by decide +kernel) (sa_cons (sv 1) sa_nil)) (nomark _)))
    ss_nil)
abbrev X_241 (P : Program) (w : World) (W : Wl) (mg : Str → Option Value) (base : Heap) (cdv : Value) (A : Around) (out : List PySem.Env) (s : Shared) (H : Hp) (p : Addr × Obj) : Cx := cxX P w W mg base N_241 "_law_marks" (defScope st_241) 241 cdv A out s H p
theorem s_241 {P : Program} {w : World} {W : Wl} {mg : Str → Option Value} {base : Heap} {G : Glo} (F : Fx W w mg) (cdv : Value) (A : Around) (out : List PySem.Env) (s : Shared) (H : Hp) (p : Addr × Obj) (c : Nat) (C : CalsX [0, 1, 2, 3, 4, 5, 6, 7, 8, 9, 10, 11, 12, 13, 14, 15, 16, 17, 18, 19, 20, 21, 22, 23, 24, 25, 26, 27, 28, 29, 30, 31] W P w mg base (X_241 P w W mg base cdv A out s H p).A G) (O : OkX W [0, 1, 2, 3, 4, 5, 6, 7, 8, 9, 10, 11, 12, 13, 14, 15, 16, 17, 18, 19, 20, 21, 22, 23, 24, 25, 26, 27, 28, 29, 30, 31] p c (X_241 P w W mg base cdv A out s H p)) :
    SSs (W.hot p.1 c) wxF (X_241 P w W mg base cdv A out s H p) G (defBody st_241) b_l_marks'2 :=
  (ss_cons (ss_set O.nd (i := 1) rfl (by first | exact .inl rfl | exact .inr rfl) (se_lst (sa_cons (se_isx O F.xcl (by decide) (by rfl) F.b_isinstance (by decide +kernel) (by rfl) F.k_NoAtlas (sv 0)) (sa_cons (se_isx O F.xcl (by decide) (by rfl) F.b_isinstance (by decide +kernel) (by rfl) F.k_NoChain (sv 0)) (sa_cons (se_isx O F.xcl (by decide) (by rfl) F.b_isinstance (by decide +kernel) (by rfl) F.k_NoClosed (sv 0)) (sa_cons (se_isx O F.xcl (by decide) (by rfl) F.b_isinstance (by decide +kernel) (by rfl) F.k_NoDay (sv 0)) sa_nil))))))
    (ss_cons (ss_set O.nd (i := 1) rfl (by first | exact .inl rfl | exact .inr rfl) (se_bin (oadd O.toOkb) (sv 1) (se_lst (sa_cons (se_isx O F.xcl (by decide) (by rfl) F.b_isinstance (by decide +kernel) (by rfl) F.k_NoDeed (sv 0)) (sa_cons (se_isx O F.xcl (by decide) (by rfl) F.b_isinstance (by decide +kernel) (by rfl) F.k_NoDepth (sv 0)) (sa_cons (se_isx O F.xcl (by decide) (by rfl) F.b_isinstance (by decide +kernel) (by rfl) F.k_NoForm (sv 0)) (sa_cons (se_isx O F.xcl (by decide) (by rfl) F.b_isinstance (by decide +kernel) (by rfl) F.k_NoFrame (sv 0)) sa_nil)))))))
    (ss_cons (ss_set O.nd (i := 1) rfl (by first | exact .inl rfl | exact .inr rfl) (se_bin (oadd O.toOkb) (sv 1) (se_lst (sa_cons (se_isx O F.xcl (by decide) (by rfl) F.b_isinstance (by decide +kernel) (by rfl) F.k_NoFrames (sv 0)) (sa_cons (se_isx O F.xcl (by decide) (by rfl) F.b_isinstance (by decide +kernel) (by rfl) F.k_NoInstant (sv 0)) (sa_cons (se_isx O F.xcl (by decide) (by rfl) F.b_isinstance (by decide +kernel) (by rfl) F.k_NoKind (sv 0)) sa_nil))))))
    (ss_cons (ss_set O.nd (i := 1) rfl (by first | exact .inl rfl | exact .inr rfl) (se_bin (oadd O.toOkb) (sv 1) (se_lst (sa_cons (se_isx O F.xcl (by decide) (by rfl) F.b_isinstance (by decide +kernel) (by rfl) F.k_NoLine (sv 0)) sa_nil))))
    (ss_cons (ss_set O.nd (i := 1) rfl (by first | exact .inl rfl | exact .inr rfl) (se_bin (oadd O.toOkb) (sv 1) (se_lst (sa_cons (se_isx O F.xcl (by decide) (by rfl) F.b_isinstance (by decide +kernel) (by rfl) F.k_NoMap (sv 0)) (sa_cons (se_isx O F.xcl (by decide) (by rfl) F.b_isinstance (by decide +kernel) (by rfl) F.k_NoMoves (sv 0)) (sa_cons (se_isx O F.xcl (by decide) (by rfl) F.b_isinstance (by decide +kernel) (by rfl) F.k_NoName (sv 0)) (sa_cons (se_isx O F.xcl (by decide) (by rfl) F.b_isinstance (by decide +kernel) (by rfl) F.k_NoNumber (sv 0)) sa_nil)))))))
    (ss_cons (ss_set O.nd (i := 1) rfl (by first | exact .inl rfl | exact .inr rfl) (se_bin (oadd O.toOkb) (sv 1) (se_lst (sa_cons (se_isx O F.xcl (by decide) (by rfl) F.b_isinstance (by decide +kernel) (by rfl) F.k_NoPoint (sv 0)) (sa_cons (se_isx O F.xcl (by decide) (by rfl) F.b_isinstance (by decide +kernel) (by rfl) F.k_NoPoints (sv 0)) (sa_cons (se_isx O F.xcl (by decide) (by rfl) F.b_isinstance (by decide +kernel) (by rfl) F.k_NoRegion (sv 0)) sa_nil))))))
    (ss_cons (ss_set O.nd (i := 1) rfl (by first | exact .inl rfl | exact .inr rfl) (se_bin (oadd O.toOkb) (sv 1) (se_lst (sa_cons (se_isx O F.xcl (by decide) (by rfl) F.b_isinstance (by decide +kernel) (by rfl) F.k_NoRing (sv 0)) sa_nil))))
    (ss_cons (ss_set O.nd (i := 1) rfl (by first | exact .inl rfl | exact .inr rfl) (se_bin (oadd O.toOkb) (sv 1) (se_lst (sa_cons (se_isx O F.xcl (by decide) (by rfl) F.b_isinstance (by decide +kernel) (by rfl) F.k_NoRoad (sv 0)) (sa_cons (se_isx O F.xcl (by decide) (by rfl) F.b_isinstance (by decide +kernel) (by rfl) F.k_NoRows (sv 0)) (sa_cons (se_isx O F.xcl (by decide) (by rfl) F.b_isinstance (by decide +kernel) (by rfl) F.k_NoSpot (sv 0)) (sa_cons (se_isx O F.xcl (by decide) (by rfl) F.b_isinstance (by decide +kernel) (by rfl) F.k_NoStreet (sv 0)) sa_nil)))))))
    (ss_cons (ss_set O.nd (i := 1) rfl (by first | exact .inl rfl | exact .inr rfl) (se_bin (oadd O.toOkb) (sv 1) (se_lst (sa_cons (se_isx O F.xcl (by decide) (by rfl) F.b_isinstance (by decide +kernel) (by rfl) F.k_NoTelling (sv 0)) (sa_cons (se_isx O F.xcl (by decide) (by rfl) F.b_isinstance (by decide +kernel) (by rfl) F.k_NoText (sv 0)) (sa_cons (se_isx O F.xcl (by decide) (by rfl) F.b_isinstance (by decide +kernel) (by rfl) F.k_NotThere (sv 0)) sa_nil))))))
    (ss_cons (ss_set O.nd (i := 1) rfl (by first | exact .inl rfl | exact .inr rfl) (se_bin (oadd O.toOkb) (sv 1) (se_lst (sa_cons (se_isx O F.xcl (by decide) (by rfl) F.b_isinstance (by decide +kernel) (by rfl) F.k_NoTile (sv 0)) sa_nil))))
    (ss_cons (ss_ret (se_bin (oadd O.toOkb) (sv 1) (se_lst (sa_cons (se_isx O F.xcl (by decide) (by rfl) F.b_isinstance (by decide +kernel) (by rfl) F.k_NoTiles (sv 0)) (sa_cons (se_isx O F.xcl (by decide) (by rfl) F.b_isinstance (by decide +kernel) (by rfl) F.k_NoWeb (sv 0)) (sa_cons (se_isx O F.xcl (by decide) (by rfl) F.b_isinstance (by decide +kernel) (by rfl) F.k_NoZones (sv 0)) sa_nil))))))
    ss_nil)))))))))))
abbrev X_242 (P : Program) (w : World) (W : Wl) (mg : Str → Option Value) (base : Heap) (cdv : Value) (A : Around) (out : List PySem.Env) (s : Shared) (H : Hp) (p : Addr × Obj) : Cx := cxX P w W mg base N_242 "_law_word" (defScope st_242) 242 cdv A out s H p
theorem s_242 {P : Program} {w : World} {W : Wl} {mg : Str → Option Value} {base : Heap} {G : Glo} (F : Fx W w mg) (cdv : Value) (A : Around) (out : List PySem.Env) (s : Shared) (H : Hp) (p : Addr × Obj) (c : Nat) (C : CalsX [0, 1, 2, 3, 4, 5, 6, 7, 8, 9, 10, 11, 12, 13, 14, 15, 16, 17, 18, 19, 20, 21, 22, 23, 24, 25, 26, 27, 28, 29, 30, 31] W P w mg base (X_242 P w W mg base cdv A out s H p).A G) (O : OkX W [0, 1, 2, 3, 4, 5, 6, 7, 8, 9, 10, 11, 12, 13, 14, 15, 16, 17, 18, 19, 20, 21, 22, 23, 24, 25, 26, 27, 28, 29, 30, 31] p c (X_242 P w W mg base cdv A out s H p)) :
    SSs (W.hot p.1 c) wxF (X_242 P w W mg base cdv A out s H p) G (defBody st_242) b_l_word'3 :=
  (ss_cons (ss_set O.nd (i := 1) rfl (by first | exact .inl rfl | exact .inr rfl) (se_lst (sa_cons se_str (sa_cons se_str (sa_cons se_str (sa_cons se_str (sa_cons se_str (sa_cons se_str (sa_cons se_str (sa_cons se_str (sa_cons se_str (sa_cons se_str sa_nil))))))))))))
    (ss_cons (ss_set O.nd (i := 1) rfl (by first | exact .inl rfl | exact .inr rfl) (se_bin (oadd O.toOkb) (sv 1) (se_lst (sa_cons se_str (sa_cons se_str sa_nil)))))
    (ss_cons (ss_set O.nd (i := 1) rfl (by first | exact .inl rfl | exact .inr rfl) (se_bin (oadd O.toOkb) (sv 1) (se_lst (sa_cons se_str (sa_cons se_str (sa_cons se_str (sa_cons se_str (sa_cons se_str (sa_cons se_str (sa_cons se_str (sa_cons se_str (sa_cons se_str (sa_cons se_str (sa_cons se_str sa_nil))))))))))))))
    (ss_cons (ss_set O.nd (i := 1) rfl (by first | exact .inl rfl | exact .inr rfl) (se_bin (oadd O.toOkb) (sv 1) (se_lst (sa_cons se_str (sa_cons se_str (sa_cons se_str (sa_cons se_str (sa_cons se_str (sa_cons se_str (sa_cons se_str (sa_cons se_str sa_nil)))))))))))
    (ss_cons (ss_set O.nd (i := 2) rfl (by first | exact .inl rfl | exact .inr rfl) (se_callX O C.h__law_marks (by rfl) (sa_cons (sv 0) sa_nil)))
    (ss_cons (ss_ret (se_ite (sw_pt (sw_and (st_cmp (oeq O.toOkb) (se_me O.toOkb PySem.F.plainAttrs_list PySem.F.slot_list_count PySem.F.type_list_count (me_count O.hK O.hu) ty_count (sv 2) (sa_cons se_bl sa_nil)) se_int (nomark _)) (sw_and1 (st_val (se_isv O F.xcl (by rfl) F.b_isinstance (by decide +kernel) (by rfl) F.b_ValueError (by decide +kernel) (sv 0)))))) (se_ix O.toOkb (sv 1) (se_me O.toOkb PySem.F.plainAttrs_list PySem.F.slot_list_index PySem.F.type_list_index (me_index O.hK O.hu) ty_index (sv 2) (sa_cons se_bl sa_nil))) se_str))
    ss_nil))))))
abbrev X_244 (P : Program) (w : World) (W : Wl) (mg : Str → Option Value) (base : Heap) (cdv : Value) (A : Around) (out : List PySem.Env) (s : Shared) (H : Hp) (E : XK) : Cx := cxB P w W.K mg base N_244 "_law_signs" (defScope st_244) (W.fad 244) cdv A out s H E
theorem s_244 {P : Program} {w : World} {W : Wl} {mg : Str → Option Value} {base : Heap} {G : Glo} (F : Fx W w mg) (hdc : ∀ n, G.dct n = Pg.dct n) (cdv : Value) (A : Around) (out : List PySem.Env) (s : Shared) (H : Hp) (E : XK) (C : CalsF W P w mg base (X_244 P w W mg base cdv A out s H E).A G) (O : Okx W (fun c d _ H => E c d H) (X_244 P w W mg base cdv A out s H E)) (hp : PassesOwn (model P w) (X_244 P w W mg base cdv A out s H E).A (X_244 P w W mg base cdv A out s H E).env (X_244 P w W mg base cdv A out s H E).xe) :
    SSs W (fun c d _ H => E c d H) (X_244 P w W mg base cdv A out s H E) G (defBody st_244) b_l_signs :=
  (ss_cons (ss_ret (se_me O.toOkb PySem.F.plainAttrs_str PySem.F.slot_str_join PySem.F.type_str_join (me_join O.hK) ty_join se_str (sa_cons (se_comp O (si_rng1 O (by rfl) F.b_range (sv 1)) (blkOk_by (N := N_244) (sc := defScope st_244) (own := [("_law_nth", 2)]) (by decide +kernel)) rfl (fun _ _ _ _ _ => (tv 2 (Okx.blk O).toOkb)) (fun _ _ _ _ _ => sts_nil) (fun _ _ _ _ _ => (se_ix (Okx.blk O).toOkb se_str (se_call (Okx.blk O) C.c__law_choice (by rfl) (sa_cons (sv 0) (sa_cons se_int sa_nil)))))) sa_nil)))
    ss_nil)
abbrev X_245 (P : Program) (w : World) (W : Wl) (mg : Str → Option Value) (base : Heap) (cdv : Value) (A : Around) (out : List PySem.Env) (s : Shared) (H : Hp) (E : XK) : Cx := cxB P w W.K mg base N_245 "_law_shape" (defScope st_245) (W.fad 245) cdv A out s H E
theorem s_245 {P : Program} {w : World} {W : Wl} {mg : Str → Option Value} {base : Heap} {G : Glo} (F : Fx W w mg) (hdc : ∀ n, G.dct n = Pg.dct n) (cdv : Value) (A : Around) (out : List PySem.Env) (s : Shared) (H : Hp) (E : XK) (C : CalsF W P w mg base (X_245 P w W mg base cdv A out s H E).A G) (O : Okx W (fun c d _ H => E c d H) (X_245 P w W mg base cdv A out s H E)) (hp : PassesOwn (model P w) (X_245 P w W mg base cdv A out s H E).A (X_245 P w W mg base cdv A out s H E).env (X_245 P w W mg base cdv A out s H E).xe) :
    SSs W (fun c d _ H => E c d H) (X_245 P w W mg base cdv A out s H E) G (defBody st_245) b_l_shape :=
  (ss_cons (ss_set O.nd (i := 1) rfl (by first | exact .inl rfl | exact .inr rfl) (se_call O C.c__law_choice (by rfl) (sa_cons (sv 0) (sa_cons se_int sa_nil))))
    (ss_cons (ss_if (st_cmp (oeq O.toOkb) (sv 1) se_int (nomark _)) (ss_cons (ss_set O.nd (i := 2) rfl (by first | exact .inl rfl | exact .inr rfl) (se_ix O.toOkb (se_lst (sa_cons se_str (sa_cons se_str (sa_cons se_str (sa_cons (se_call O C.c__law_signs (by rfl) (sa_cons (sv 0) (sa_cons se_int sa_nil))) sa_nil))))) (se_call O C.c__law_choice (by rfl) (sa_cons (sv 0) (sa_cons se_int sa_nil)))))
    (ss_cons (ss_ret (se_tup (sa_cons se_str (sa_cons (sv 2) (sa_cons (se_call O C.c__law_any (by rfl) (sa_cons (sv 0) sa_nil)) (sa_cons (se_call O C.c__law_any (by rfl) (sa_cons (sv 0) sa_nil)) sa_nil))))))
    ss_nil)) ss_nil)
    (ss_cons (ss_if (st_cmp (oeq O.toOkb) (sv 1) se_int (nomark _)) (ss_cons (ss_ret (se_tup (sa_cons se_str (sa_cons (se_me O.toOkb PySem.F.plainAttrs_str PySem.F.slot_str_join PySem.F.type_str_join (me_join O.hK) ty_join se_str (sa_cons (se_comp O (si_rng1 O (by rfl) F.b_range (se_call O C.c__law_choice (by rfl) (sa_cons (sv 0) (sa_cons se_int sa_nil)))) (blkOk_by (N := N_245) (sc := defScope st_245) (own := [("_law_nth", 3)]) (by decide +kernel)) rfl (fun _ _ _ _ _ => (tv 3 (Okx.blk O).toOkb)) (fun _ _ _ _ _ => sts_nil) (fun _ _ _ _ _ => (se_ix (Okx.blk O).toOkb se_str (se_call (Okx.blk O) C.c__law_choice (by rfl) (sa_cons (sv 0) (sa_cons se_int sa_nil)))))) sa_nil)) sa_nil))))
    ss_nil) ss_nil)
    (ss_cons (ss_if (st_cmp (oeq O.toOkb) (sv 1) se_int (nomark _)) (ss_cons (ss_ret (se_tup (sa_cons se_str (sa_cons (se_ix O.toOkb (se_lst (sa_cons se_int (sa_cons (se_call O C.c__law_choice (by rfl) (sa_cons (sv 0) (sa_cons se_int sa_nil))) (sa_cons (se_bin (opow O.toOkb) se_int se_int) sa_nil)))) (se_call O C.c__law_choice (by rfl) (sa_cons (sv 0) (sa_cons se_int sa_nil)))) (sa_cons (se_call O C.c__law_any (by rfl) (sa_cons (sv 0) sa_nil)) sa_nil)))))
    ss_nil) ss_nil)
    (ss_cons (ss_if (st_cmp (oeq O.toOkb) (sv 1) se_int (nomark _)) (ss_cons (ss_ret (se_tup (sa_cons se_str (sa_cons (se_ix O.toOkb (se_lst (sa_cons se_str (sa_cons se_str (sa_cons (se_call O C.c__law_signs (by rfl) (sa_cons (sv 0) (sa_cons se_int sa_nil))) sa_nil)))) (se_call O C.c__law_choice (by rfl) (sa_cons (sv 0) (sa_cons se_int sa_nil)))) (sa_cons (se_call O C.c__law_choice (by rfl) (sa_cons (sv 0) (sa_cons se_int sa_nil))) sa_nil)))))
    ss_nil) ss_nil)
    (ss_cons (ss_ret (se_tup (sa_cons se_str (sa_cons (se_ix O.toOkb (se_lst (sa_cons se_str (sa_cons se_str (sa_cons (se_call O C.c__law_signs (by rfl) (sa_cons (sv 0) (sa_cons se_int sa_nil))) sa_nil)))) (se_call O C.c__law_choice (by rfl) (sa_cons (sv 0) (sa_cons se_int sa_nil)))) sa_nil))))
    ss_nil))))))
abbrev X_246 (P : Program) (w : World) (W : Wl) (mg : Str → Option Value) (base : Heap) (cdv : Value) (A : Around) (out : List PySem.Env) (s : Shared) (H : Hp) (E : XK) : Cx := cxB P w W.K mg base N_246 "_law_fraction_text" (defScope st_246) (W.fad 246) cdv A out s H E
theorem s_246 {P : Program} {w : World} {W : Wl} {mg : Str → Option Value} {base : Heap} {G : Glo} (F : Fx W w mg) (hdc : ∀ n, G.dct n = Pg.dct n) (cdv : Value) (A : Around) (out : List PySem.Env) (s : Shared) (H : Hp) (E : XK) (C : CalsF W P w mg base (X_246 P w W mg base cdv A out s H E).A G) (O : Okx W (fun c d _ H => E c d H) (X_246 P w W mg base cdv A out s H E)) (hp : PassesOwn (model P w) (X_246 P w W mg base cdv A out s H E).A (X_246 P w W mg base cdv A out s H E).env (X_246 P w W mg base cdv A out s H E).xe) :
    SSs W (fun c d _ H => E c d H) (X_246 P w W mg base cdv A out s H E) G (defBody st_246) b_l_fraction_text :=
  (ss_cons (ss_ret (se_bin (oadd O.toOkb) (se_bty cb_str (by rfl) F.b_str (by decide +kernel) (sa_cons (se_ix O.toOkb (sv 0) se_int) sa_nil)) (se_bin (omul O.toOkb) (se_bin (oadd O.toOkb) se_str (se_bty cb_str (by rfl) F.b_str (by decide +kernel) (sa_cons (se_ix O.toOkb (sv 0) se_int) sa_nil))) (se_bty cb_int (by rfl) F.b_int (by decide +kernel) (sa_cons (se_cmp (ogt O.toOkb) (se_ix O.toOkb (sv 0) se_int) se_int (nomark _)) sa_nil)))))
    ss_nil)
abbrev X_247 (P : Program) (w : World) (W : Wl) (mg : Str → Option Value) (base : Heap) (cdv : Value) (A : Around) (out : List PySem.Env) (s : Shared) (H : Hp) (E : XK) : Cx := cxB P w W.K mg base N_247 "_law_form_text" (defScope st_247) (W.fad 247) cdv A out s H E
theorem s_247 {P : Program} {w : World} {W : Wl} {mg : Str → Option Value} {base : Heap} {G : Glo} (F : Fx W w mg) (hdc : ∀ n, G.dct n = Pg.dct n) (cdv : Value) (A : Around) (out : List PySem.Env) (s : Shared) (H : Hp) (E : XK) (C : CalsF W P w mg base (X_247 P w W mg base cdv A out s H E).A G) (O : Okx W (fun c d _ H => E c d H) (X_247 P w W mg base cdv A out s H E)) (hp : PassesOwn (model P w) (X_247 P w W mg base cdv A out s H E).A (X_247 P w W mg base cdv A out s H E).env (X_247 P w W mg base cdv A out s H E).xe) :
    SSs W (fun c d _ H => E c d H) (X_247 P w W mg base cdv A out s H E) G (defBody st_247) b_l_form_text :=
  (ss_cons (ss_set O.nd (i := 1) rfl (by first | exact .inl rfl | exact .inr rfl) (se_new (sa_cons (se_ix O.toOkb (sv 0) se_int) sa_nil)))
    (ss_cons (ss_for O hp (si_seq O (se_slLo O (sv 0) se_int)) (tv 2 O.toOkb) (ss_cons (ss_if (st_val (se_isi (cb_isT O.hK) (by rfl) F.b_isinstance (by decide +kernel) (by rfl) F.b_tuple (by decide +kernel) (sv 2))) (ss_cons (ss_ex (se_me O.toOkb PySem.F.plainAttrs_list PySem.F.slot_list_append PySem.F.type_list_append me_append ty_append (sv 1) (sa_cons (se_call O C.c__law_fraction_text (by rfl) (sa_cons (sv 2) sa_nil)) sa_nil)))
    ss_nil) (ss_cons (ss_ex (se_me O.toOkb PySem.F.plainAttrs_list PySem.F.slot_list_append PySem.F.type_list_append me_append ty_append (sv 1) (sa_cons (se_ite (st_cmp (oeq O.toOkb) (sv 2) se_str (nomark _)) se_str (se_bty cb_str (by rfl) F.b_str (by decide +kernel) (sa_cons (sv 2) sa_nil))) sa_nil)))
    ss_nil))
    ss_nil))
    (ss_cons (ss_ret (se_me O.toOkb PySem.F.plainAttrs_str PySem.F.slot_str_join PySem.F.type_str_join (me_join O.hK) ty_join se_str (sa_cons (sv 1) sa_nil)))
    ss_nil)))
abbrev X_259 (P : Program) (w : World) (W : Wl) (mg : Str → Option Value) (base : Heap) (cdv : Value) (A : Around) (out : List PySem.Env) (s : Shared) (H : Hp) (E : XK) : Cx := cxB P w W.K mg base N_259 "_law_number_in" (defScope st_259) (W.fad 259) cdv A out s H E
theorem s_259 {P : Program} {w : World} {W : Wl} {mg : Str → Option Value} {base : Heap} {G : Glo} (F : Fx W w mg) (hdc : ∀ n, G.dct n = Pg.dct n) (cdv : Value) (A : Around) (out : List PySem.Env) (s : Shared) (H : Hp) (E : XK) (C : CalsF W P w mg base (X_259 P w W mg base cdv A out s H E).A G) (O : Okx W (fun c d _ H => E c d H) (X_259 P w W mg base cdv A out s H E)) (hp : PassesOwn (model P w) (X_259 P w W mg base cdv A out s H E).A (X_259 P w W mg base cdv A out s H E).env (X_259 P w W mg base cdv A out s H E).xe) :
    SSs W (fun c d _ H => E c d H) (X_259 P w W mg base cdv A out s H E) G (defBody st_259) b_l_number_in :=
  (ss_cons (ss_if (sw_pt (sw_or (st_cmp (oeq O.toOkb) (sv 0) se_str (nomark _)) (sw_or1 (st_cmp (one_ O.toOkb) (se_comp O (si_seq O (sv 0)) (blkOk_by (N := N_259) (sc := defScope st_259) (own := [("_law_sign", 1)]) (by decide +kernel)) rfl (fun _ _ _ _ _ => (tv 1 (Okx.blk O).toOkb)) (fun _ _ _ _ _ => (sts_one (st_cmp (onotin (Okx.blk O).toOkb) (sv 1) se_str (by with_unfolding_all rfl)))) (fun _ _ _ _ _ => (sv 1))) (se_lst sa_nil) (nomark _))))) (ss_cons (ss_ret se_non)
    ss_nil) ss_nil)
    (ss_cons (ss_ret (se_ite (st_cmp (oeq O.toOkb) (se_bty cb_str (by rfl) F.b_str (by decide +kernel) (sa_cons (se_bty cb_int (by rfl) F.b_int (by decide +kernel) (sa_cons (sv 0) sa_nil)) sa_nil)) (sv 0) (nomark _)) (se_bty cb_int (by rfl) F.b_int (by decide +kernel) (sa_cons (sv 0) sa_nil)) se_non))
    ss_nil))
abbrev X_260 (P : Program) (w : World) (W : Wl) (mg : Str → Option Value) (base : Heap) (cdv : Value) (A : Around) (out : List PySem.Env) (s : Shared) (H : Hp) (E : XK) : Cx := cxB P w W.K mg base N_260 "_law_fraction_in" (defScope st_260) (W.fad 260) cdv A out s H E
theorem s_260 {P : Program} {w : World} {W : Wl} {mg : Str → Option Value} {base : Heap} {G : Glo} (F : Fx W w mg) (hdc : ∀ n, G.dct n = Pg.dct n) (cdv : Value) (A : Around) (out : List PySem.Env) (s : Shared) (H : Hp) (E : XK) (C : CalsF W P w mg base (X_260 P w W mg base cdv A out s H E).A G) (O : Okx W (fun c d _ H => E c d H) (X_260 P w W mg base cdv A out s H E)) (hp : PassesOwn (model P w) (X_260 P w W mg base cdv A out s H E).A (X_260 P w W mg base cdv A out s H E).env (X_260 P w W mg base cdv A out s H E).xe) :
    SSs W (fun c d _ H => E c d H) (X_260 P w W mg base cdv A out s H E) G (defBody st_260) b_l_fraction_in :=
  (ss_cons (ss_set O.nd (i := 1) rfl (by first | exact .inl rfl | exact .inr rfl) (se_me O.toOkb PySem.F.plainAttrs_str PySem.F.slot_str_split PySem.F.type_str_split me_split ty_split (sv 0) (sa_cons se_str sa_nil)))
    (ss_cons (ss_set O.nd (i := 2) rfl (by first | exact .inl rfl | exact .inr rfl) (se_ite (st_cmp (oeq O.toOkb) (se_slHi O (sv 0) se_int) se_str (nomark _)) (se_neg se_int) se_int))
    (ss_cons (ss_set O.nd (i := 3) rfl (by first | exact .inl rfl | exact .inr rfl) (se_call O C.c__law_number_in (by rfl) (sa_cons (se_slLo O (se_ix O.toOkb (sv 1) se_int) (se_bty cb_int (by rfl) F.b_int (by decide +kernel) (sa_cons (se_cmp (olt O.toOkb) (sv 2) se_int (nomark _)) sa_nil))) sa_nil)))
    (ss_cons (ss_set O.nd (i := 4) rfl (by first | exact .inl rfl | exact .inr rfl) (se_ite (st_cmp (oeq O.toOkb) (se_bi (cb_len O.hK) (by rfl) F.b_len (boot_len) (sa_cons (sv 1) sa_nil)) se_int (nomark _)) (se_call O C.c__law_number_in (by rfl) (sa_cons (se_ix O.toOkb (sv 1) se_int) sa_nil)) se_int))
    (ss_cons (ss_if (sw_pt (sw_or (st_cmp (ogt O.toOkb) (se_bi (cb_len O.hK) (by rfl) F.b_len (boot_len) (sa_cons (sv 1) sa_nil)) se_int (nomark _)) (sw_or (st_cmp (ois O.toOkb) (sv 3) se_non (nomark _)) (sw_or (st_cmp (ois O.toOkb) (sv 4) se_non (nomark _)) (sw_or (st_cmp (olt O.toOkb) (sv 4) se_int (nomark _)) (sw_or1 (sw_pt (sw_and (st_cmp (oeq O.toOkb) (sv 3) se_int (nomark _)) (sw_and1 (st_cmp (olt O.toOkb) (sv 2) se_int (nomark _))))))))))) (ss_cons (ss_ret se_non)
    ss_nil) ss_nil)
    (ss_cons (ss_if (sw_pt (sw_or (sw_pt (sw_and (st_cmp (oeq O.toOkb) (se_bi (cb_len O.hK) (by rfl) F.b_len (boot_len) (sa_cons (sv 1) sa_nil)) se_int (nomark _)) (sw_and1 (st_cmp (oeq O.toOkb) (sv 4) se_int (nomark _))))) (sw_or1 (st_cmp (one_ O.toOkb) (se_call O C.c__law_low (by rfl) (sa_cons (sv 3) (sa_cons (sv 4) sa_nil))) (se_tup (sa_cons (sv 3) (sa_cons (sv 4) sa_nil))) (nomark _))))) (ss_cons (ss_ret se_non)
    ss_nil) ss_nil)
    (ss_cons (ss_ret (se_tup (sa_cons (se_bin (omul O.toOkb) (sv 2) (sv 3)) (sa_cons (sv 4) sa_nil))))
    ss_nil)))))))
abbrev X_261 (P : Program) (w : World) (W : Wl) (mg : Str → Option Value) (base : Heap) (cdv : Value) (A : Around) (out : List PySem.Env) (s : Shared) (H : Hp) (E : XK) : Cx := cxB P w W.K mg base N_261 "_law_is_small" (defScope st_261) (W.fad 261) cdv A out s H E
theorem s_261 {P : Program} {w : World} {W : Wl} {mg : Str → Option Value} {base : Heap} {G : Glo} (F : Fx W w mg) (hdc : ∀ n, G.dct n = Pg.dct n) (cdv : Value) (A : Around) (out : List PySem.Env) (s : Shared) (H : Hp) (E : XK) (C : CalsF W P w mg base (X_261 P w W mg base cdv A out s H E).A G) (O : Okx W (fun c d _ H => E c d H) (X_261 P w W mg base cdv A out s H E)) (hp : PassesOwn (model P w) (X_261 P w W mg base cdv A out s H E).A (X_261 P w W mg base cdv A out s H E).env (X_261 P w W mg base cdv A out s H E).xe) :
    SSs W (fun c d _ H => E c d H) (X_261 P w W mg base cdv A out s H E) G (defBody st_261) b_l_is_small :=
  (ss_cons (ss_ret (se_and (se_chain (ole O.toOkb) (ole O.toOkb) se_int (se_bi (cb_len O.hK) (by rfl) F.b_len (boot_len) (sa_cons (sv 0) sa_nil)) se_int) (se_one (se_cmp (oeq O.toOkb) (se_comp O (si_seq O (sv 0)) (blkOk_by (N := N_261) (sc := defScope st_261) (own := [("_law_sign", 1)]) (by decide +kernel)) rfl (fun _ _ _ _ _ => (tv 1 (Okx.blk O).toOkb)) (fun _ _ _ _ _ => (sts_one (st_cmp (onotin (Okx.blk O).toOkb) (sv 1) se_str (by with_unfolding_all rfl)))) (fun _ _ _ _ _ => (sv 1))) (se_lst sa_nil) (nomark _)))))
    ss_nil)
abbrev X_262 (P : Program) (w : World) (W : Wl) (mg : Str → Option Value) (base : Heap) (cdv : Value) (A : Around) (out : List PySem.Env) (s : Shared) (H : Hp) (E : XK) : Cx := cxB P w W.K mg base N_262 "_law_thing_in" (defScope st_262) (W.fad 262) cdv A out s H E
theorem s_262 {P : Program} {w : World} {W : Wl} {mg : Str → Option Value} {base : Heap} {G : Glo} (F : Fx W w mg) (hdc : ∀ n, G.dct n = Pg.dct n) (cdv : Value) (A : Around) (out : List PySem.Env) (s : Shared) (H : Hp) (E : XK) (C : CalsF W P w mg base (X_262 P w W mg base cdv A out s H E).A G) (O : Okx W (fun c d _ H => E c d H) (X_262 P w W mg base cdv A out s H E)) (hp : PassesOwn (model P w) (X_262 P w W mg base cdv A out s H E).A (X_262 P w W mg base cdv A out s H E).env (X_262 P w W mg base cdv A out s H E).xe) :
    SSs W (fun c d _ H => E c d H) (X_262 P w W mg base cdv A out s H E) G (defBody st_262) b_l_thing_in :=
  (ss_cons (ss_if (st_cmp (oeq O.toOkb) (sv 0) se_str (nomark _)) (ss_cons (ss_ret (se_call O C.c__law_fraction_in (by rfl) (sa_cons (sv 1) sa_nil)))
    ss_nil) ss_nil)
    (ss_cons (ss_if (st_cmp (oeq O.toOkb) (sv 0) se_str (nomark _)) (ss_cons (ss_ret (se_call O C.c__law_number_in (by rfl) (sa_cons (sv 1) sa_nil)))
    ss_nil) ss_nil)
    (ss_cons (ss_if (st_cmp (oeq O.toOkb) (sv 0) se_str (nomark _)) (ss_cons (ss_ret (se_ite (st_val (se_call O C.c__law_is_small (by rfl) (sa_cons (sv 1) sa_nil))) (sv 1) se_non))
    ss_nil) ss_nil)
    (ss_cons (ss_if (st_cmp (oeq O.toOkb) (sv 1) se_str (nomark _)) (ss_cons (ss_ret se_str)
    ss_nil) ss_nil)
    (ss_cons (ss_ret (se_ite (sw_pt (sw_and (st_chain (ole O.toOkb) (ole O.toOkb) se_int (se_bi (cb_len O.hK) (by rfl) F.b_len (boot_len) (sa_cons (sv 1) sa_nil)) se_int) (sw_and1 (st_cmp (oeq O.toOkb) (se_comp O (si_seq O (sv 1)) (blkOk_by (N := N_262) (sc := defScope st_262) (own := [("_law_sign", 2)]) (by decide +kernel)) rfl (fun _ _ _ _ _ => (tv 2 (Okx.blk O).toOkb)) (fun _ _ _ _ _ => (sts_one (st_cmp (onotin (Okx.blk O).toOkb) (sv 2) se_str (by with_unfolding_all rfl)))) (fun _ _ _ _ _ => (sv 2))) (se_lst sa_nil) (nomark _))))) (sv 1) se_non))
    ss_nil)))))
abbrev X_263 (P : Program) (w : World) (W : Wl) (mg : Str → Option Value) (base : Heap) (cdv : Value) (A : Around) (out : List PySem.Env) (s : Shared) (H : Hp) (E : XK) : Cx := cxB P w W.K mg base N_263 "_law_form_in" (defScope st_263) (W.fad 263) cdv A out s H E
theorem s_263 {P : Program} {w : World} {W : Wl} {mg : Str → Option Value} {base : Heap} {G : Glo} (F : Fx W w mg) (hdc : ∀ n, G.dct n = Pg.dct n) (cdv : Value) (A : Around) (out : List PySem.Env) (s : Shared) (H : Hp) (E : XK) (C : CalsF W P w mg base (X_263 P w W mg base cdv A out s H E).A G) (O : Okx W (fun c d _ H => E c d H) (X_263 P w W mg base cdv A out s H E)) (hp : PassesOwn (model P w) (X_263 P w W mg base cdv A out s H E).A (X_263 P w W mg base cdv A out s H E).env (X_263 P w W mg base cdv A out s H E).xe) :
    SSs W (fun c d _ H => E c d H) (X_263 P w W mg base cdv A out s H E) G (defBody st_263) b_l_form_in :=
  (ss_cons (ss_set O.nd (i := 1) rfl (by first | exact .inl rfl | exact .inr rfl) (se_me O.toOkb PySem.F.plainAttrs_str PySem.F.slot_str_split PySem.F.type_str_split me_split ty_split (sv 0) (sa_cons se_str sa_nil)))
    (ss_cons (ss_set O.nd (i := 2) rfl (by first | exact .inl rfl | exact .inr rfl) (se_get1 O (se_disp (L := [("point", "wff"), ("tile", "c"), ("spot", "nf"), ("address", "wn"), ("region", "w")]) (ks := [[112, 111, 105, 110, 116], [116, 105, 108, 101], [115, 112, 111, 116], [97, 100, 100, 114, 101, 115, 115], [114, 101, 103, 105, 111, 110]]) (vs := [[119, 102, 102], [99], [110, 102], [119, 110], [119]]) (pps_cons pe_str pe_str (pps_cons pe_str pe_str (pps_cons pe_str pe_str (pps_cons pe_str pe_str (pps_cons pe_str pe_str pps_nil)))))) (se_ix O.toOkb (sv 1) se_int)))
    (ss_cons (ss_if (sw_pt (sw_or (st_cmp (ois O.toOkb) (sv 2) se_non (nomark _)) (sw_or1 (st_cmp (one_ O.toOkb) (se_bi (cb_len O.hK) (by rfl) F.b_len (boot_len) (sa_cons (sv 1) sa_nil)) (se_bin (oadd O.toOkb) (se_bi (cb_len O.hK) (by rfl) F.b_len (boot_len) (sa_cons (sv 2) sa_nil)) se_int) (nomark _))))) (ss_cons (ss_ret se_non)
    ss_nil) ss_nil)
    (ss_cons (ss_setLc O (i := 3) rfl rfl (sw_true rfl rfl rfl (by decide +kernel)) (si_zip2 O (by rfl) F.b_zip (sa_cons (sv 2) (sa_cons (se_slLo O (sv 1) se_int) sa_nil))) (blkOk_by (N := N_263) (sc := defScope st_263) (own := [("_law_kind", 4), ("_law_word_here", 5)]) (by decide +kernel)) rfl (fun _ _ _ _ _ => (sg_t (Okx.blk O).hK (Okx.blk O).calm (sgs_cons (tv 4 (Okx.blk O).toOkb) (sgs_cons (tv 5 (Okx.blk O).toOkb) sgs_nil)))) (fun _ _ _ _ _ => sts_nil) (fun _ _ _ _ _ => (se_call (Okx.blk O) C.c__law_thing_in (by rfl) (sa_cons (sv 4) (sa_cons (sv 5) sa_nil)))))
    (ss_cons (ss_ret (se_ite (st_cmp (oin O.toOkb) se_non (sv 3) (by with_unfolding_all rfl)) se_non (se_bin (oadd O.toOkb) (se_tup (sa_cons (se_ix O.toOkb (sv 1) se_int) sa_nil)) (se_bty (cb_tuple O.hK) (by rfl) F.b_tuple (boot_tuple) (sa_cons (sv 3) sa_nil)))))
    ss_nil)))))
abbrev X_264 (P : Program) (w : World) (W : Wl) (mg : Str → Option Value) (base : Heap) (cdv : Value) (A : Around) (out : List PySem.Env) (s : Shared) (H : Hp) (E : XK) : Cx := cxB P w W.K mg base N_264 "_law_torn" (defScope st_264) (W.fad 264) cdv A out s H E
theorem s_264 {P : Program} {w : World} {W : Wl} {mg : Str → Option Value} {base : Heap} {G : Glo} (F : Fx W w mg) (hdc : ∀ n, G.dct n = Pg.dct n) (cdv : Value) (A : Around) (out : List PySem.Env) (s : Shared) (H : Hp) (E : XK) (C : CalsF W P w mg base (X_264 P w W mg base cdv A out s H E).A G) (O : Okx W (fun c d _ H => E c d H) (X_264 P w W mg base cdv A out s H E)) (hp : PassesOwn (model P w) (X_264 P w W mg base cdv A out s H E).A (X_264 P w W mg base cdv A out s H E).env (X_264 P w W mg base cdv A out s H E).xe) :
    SSs W (fun c d _ H => E c d H) (X_264 P w W mg base cdv A out s H E) G (defBody st_264) b_l_torn :=
  (ss_cons (ss_par3 O (i := 5) (j := 6) (l := 7) rfl rfl rfl (by decide) (by decide) (by decide) rfl rfl rfl (sa_cons se_str (sa_cons (se_me O.toOkb PySem.F.plainAttrs_str PySem.F.slot_str_split PySem.F.type_str_split me_split ty_split (sv 1) (sa_cons se_str sa_nil)) (sa_cons (se_call O C.c__law_choice (by rfl) (sa_cons (sv 0) (sa_cons (se_bin (oadd O.toOkb) (se_bi (cb_len O.hK) (by rfl) F.b_len (boot_len) (sa_cons (sv 1) sa_nil)) se_int) sa_nil))) sa_nil))))
    (ss_cons (ss_par3 O (i := 8) (j := 9) (l := 10) rfl rfl rfl (by decide) (by decide) (by decide) rfl rfl rfl (sa_cons (se_ix O.toOkb (sv 5) (se_call O C.c__law_choice (by rfl) (sa_cons (sv 0) (sa_cons se_int sa_nil)))) (sa_cons (se_call O C.c__law_choice (by rfl) (sa_cons (sv 0) (sa_cons se_int sa_nil))) (sa_cons (se_call O C.c__law_choice (by rfl) (sa_cons (sv 0) (sa_cons (se_bi (cb_len O.hK) (by rfl) F.b_len (boot_len) (sa_cons (sv 6) sa_nil)) sa_nil))) sa_nil))))
    (ss_cons (ss_if (st_cmp (olt O.toOkb) (sv 9) se_int (nomark _)) (ss_cons (ss_ret (se_bin (oadd O.toOkb) (se_bin (oadd O.toOkb) (se_slHi O (sv 1) (sv 7)) (sv 8)) (se_slLo O (sv 1) (se_bin (oadd O.toOkb) (sv 7) (sv 9)))))
    ss_nil) ss_nil)
    (ss_cons (ss_if (st_cmp (oeq O.toOkb) (sv 9) se_int (nomark _)) (ss_cons (ss_ret (se_bin (oadd O.toOkb) (se_slHi O (sv 1) (sv 7)) (se_slLo O (sv 1) (se_bin (oadd O.toOkb) (sv 7) se_int))))
    ss_nil) ss_nil)
    (ss_cons (ss_set O.nd (i := 2) rfl (by first | exact .inl rfl | exact .inr rfl) (se_lst (sa_cons se_str (sa_cons se_str (sa_cons se_str (sa_cons se_str (sa_cons se_str (sa_cons se_str (sa_cons se_str (sa_cons se_str (sa_cons se_str (sa_cons se_str (sa_cons se_str (sa_cons se_str (sa_cons se_str sa_nil)))))))))))))))
    (ss_cons (ss_set O.nd (i := 2) rfl (by first | exact .inl rfl | exact .inr rfl) (se_bin (oadd O.toOkb) (sv 2) (se_lst (sa_cons se_str (sa_cons se_str (sa_cons se_str sa_nil))))))
    (ss_cons (ss_set O.nd (i := 3) rfl (by first | exact .inl rfl | exact .inr rfl) (se_ix O.toOkb (sv 2) (se_call O C.c__law_choice (by rfl) (sa_cons (sv 0) (sa_cons se_int sa_nil)))))
    (ss_cons (ss_set O.nd (i := 4) rfl (by first | exact .inl rfl | exact .inr rfl) (se_lst (sa_cons (se_bin (oadd O.toOkb) (se_bin (oadd O.toOkb) (se_slHi O (sv 6) (sv 10)) (se_lst (sa_cons (sv 3) sa_nil))) (se_slLo O (sv 6) (se_bin (oadd O.toOkb) (sv 10) se_int))) (sa_cons (se_bin (oadd O.toOkb) (se_slHi O (sv 6) (sv 10)) (se_slLo O (sv 6) (se_bin (oadd O.toOkb) (sv 10) se_int))) sa_nil))))
    (ss_cons (ss_set O.nd (i := 4) rfl (by first | exact .inl rfl | exact .inr rfl) (se_bin (oadd O.toOkb) (sv 4) (se_lst (sa_cons (se_bin (oadd O.toOkb) (se_bin (oadd O.toOkb) (se_slHi O (sv 6) (sv 10)) (se_lst (sa_cons (sv 3) sa_nil))) (se_slLo O (sv 6) (sv 10))) sa_nil))))
    (ss_cons (ss_ret (se_me O.toOkb PySem.F.plainAttrs_str PySem.F.slot_str_join PySem.F.type_str_join (me_join O.hK) ty_join se_str (sa_cons (se_ix O.toOkb (se_bin (oadd O.toOkb) (sv 4) (se_lst (sa_cons (se_rev O (sv 6)) sa_nil))) (se_bin (osub O.toOkb) (sv 9) se_int)) sa_nil)))
    ss_nil))))))))))
abbrev X_265 (P : Program) (w : World) (W : Wl) (mg : Str → Option Value) (base : Heap) (cdv : Value) (A : Around) (out : List PySem.Env) (s : Shared) (H : Hp) (E : XK) : Cx := cxB P w W.K mg base N_265 "_law_due" (defScope st_265) (W.fad 265) cdv A out s H E
theorem s_265 {P : Program} {w : World} {W : Wl} {mg : Str → Option Value} {base : Heap} {G : Glo} (F : Fx W w mg) (hdc : ∀ n, G.dct n = Pg.dct n) (cdv : Value) (A : Around) (out : List PySem.Env) (s : Shared) (H : Hp) (E : XK) (C : CalsF W P w mg base (X_265 P w W mg base cdv A out s H E).A G) (O : Okx W (fun c d _ H => E c d H) (X_265 P w W mg base cdv A out s H E)) (hp : PassesOwn (model P w) (X_265 P w W mg base cdv A out s H E).A (X_265 P w W mg base cdv A out s H E).env (X_265 P w W mg base cdv A out s H E).xe) :
    SSs W (fun c d _ H => E c d H) (X_265 P w W mg base cdv A out s H E) G (defBody st_265) b_l_due'3 :=
  (ss_cons (ss_ret (se_ite (st_cmp (ois O.toOkb) (sv 0) se_non (nomark _)) se_str (se_lst (sa_cons (sv 0) sa_nil))))
    ss_nil)
abbrev X_266 (P : Program) (w : World) (W : Wl) (mg : Str → Option Value) (base : Heap) (cdv : Value) (A : Around) (out : List PySem.Env) (s : Shared) (H : Hp) (E : XK) : Cx := cxB P w W.K mg base N_266 "_law_right" (defScope st_266) (W.fad 266) cdv A out s H E
theorem s_266 {P : Program} {w : World} {W : Wl} {mg : Str → Option Value} {base : Heap} {G : Glo} (F : Fx W w mg) (hdc : ∀ n, G.dct n = Pg.dct n) (cdv : Value) (A : Around) (out : List PySem.Env) (s : Shared) (H : Hp) (E : XK) (C : CalsF W P w mg base (X_266 P w W mg base cdv A out s H E).A G) (O : Okx W (fun c d _ H => E c d H) (X_266 P w W mg base cdv A out s H E)) (hp : PassesOwn (model P w) (X_266 P w W mg base cdv A out s H E).A (X_266 P w W mg base cdv A out s H E).env (X_266 P w W mg base cdv A out s H E).xe) (CT : CalsT W P w mg base (X_266 P w W mg base cdv A out s H E).A G) (hgd : (X_266 P w W mg base cdv A out s H E).A.guards = some []) (kk : Nat) (hr : Room (kk + 2) (X_266 P w W mg base cdv A out s H E).A) (CL : ∀ A, Room kk A → CalsF W P w mg base A G) (hT : TabC W (X_266 P w W mg base cdv A out s H E)) (SD_243 : Sd_243 P w W mg base G kk) :
    SSs W (fun c d _ H => E c d H) (X_266 P w W mg base cdv A out s H E) G (defBody st_266) b_l_right'2 :=
  (ss_cons (ss_set O.nd (i := 1) rfl (by first | exact .inl rfl | exact .inr rfl) (se_lst (sa_cons se_non (sa_cons se_int (sa_cons se_str (sa_cons se_str (sa_cons se_str (sa_cons se_str (sa_cons se_str (sa_cons se_str (sa_cons se_str (sa_cons se_str (sa_cons se_str (sa_cons se_str (sa_cons se_str (sa_cons se_str (sa_cons se_str sa_nil)))))))))))))))))
    (ss_cons (ss_set O.nd (i := 1) rfl (by first | exact .inl rfl | exact .inr rfl) (se_bin (oadd O.toOkb) (sv 1) (se_lst (sa_cons se_str (sa_cons se_str (sa_cons se_str (sa_cons se_str sa_nil)))))))
    (ss_cons (ss_set O.nd (i := 1) rfl (by first | exact .inl rfl | exact .inr rfl) (se_bin (oadd O.toOkb) (sv 1) (se_lst (sa_cons se_str (sa_cons se_str (sa_cons se_str (sa_cons se_str (sa_cons se_str (sa_cons se_str (sa_cons se_str (sa_cons se_str (sa_cons se_str (sa_cons se_str sa_nil)))))))))))))
    (ss_cons (ss_set O.nd (i := 1) rfl (by first | exact .inl rfl | exact .inr rfl) (se_bin (oadd O.toOkb) (sv 1) (se_lst (sa_cons se_str sa_nil))))
    (ss_cons (ss_set O.nd (i := 1) rfl (by first | exact .inl rfl | exact .inr rfl) (se_bin (oadd O.toOkb) (sv 1) (se_lst (sa_cons se_str (sa_cons se_str (sa_cons se_str (sa_cons se_str sa_nil)))))))
    (ss_cons (ss_set O.nd (i := 1) rfl (by first | exact .inl rfl | exact .inr rfl) (se_bin (oadd O.toOkb) (sv 1) (se_lst (sa_cons se_str (sa_cons se_str sa_nil)))))
    (ss_cons (ss_set O.nd (i := 1) rfl (by first | exact .inl rfl | exact .inr rfl) (se_bin (oadd O.toOkb) (sv 1) (se_lst (sa_cons se_str (sa_cons se_str (sa_cons se_str (sa_cons se_str (sa_cons se_str sa_nil))))))))
    (ss_cons (ss_set O.nd (i := 1) rfl (by first | exact .inl rfl | exact .inr rfl) (se_bin (oadd O.toOkb) (sv 1) (se_lst (sa_cons se_str (sa_cons se_str sa_nil)))))
    (ss_cons (ss_set O.nd (i := 1) rfl (by first | exact .inl rfl | exact .inr rfl) (se_bin (oadd O.toOkb) (sv 1) (se_lst (sa_cons se_str (sa_cons se_str (sa_cons se_str (sa_cons se_str (sa_cons se_str (sa_cons se_str sa_nil)))))))))
    (ss_cons (ss_set O.nd (i := 1) rfl (by first | exact .inl rfl | exact .inr rfl) (se_bin (oadd O.toOkb) (sv 1) (se_lst (sa_cons (se_lst (sa_cons se_str sa_nil)) (sa_cons (se_tup (sa_cons se_str (sa_cons se_str sa_nil))) sa_nil)))))
    (ss_cons (ss_for O hp (si_rng1 O (by rfl) F.b_range se_int) (tv 2 O.toOkb) (ss_cons (ss_set O.nd (i := 3) rfl (by first | exact .inl rfl | exact .inr rfl) (se_call O C.c__law_form_text (by rfl) (sa_cons (se_call O C.c__law_shape (by rfl) (sa_cons (sv 0) sa_nil)) sa_nil)))
    (ss_cons (ss_set O.nd (i := 4) rfl (by first | exact .inl rfl | exact .inr rfl) (se_call O C.c__law_torn (by rfl) (sa_cons (sv 0) (sa_cons (sv 3) sa_nil))))
    (ss_cons (ss_set O.nd (i := 1) rfl (by first | exact .inl rfl | exact .inr rfl) (se_bin (oadd O.toOkb) (sv 1) (se_lst (sa_cons (sv 3) (sa_cons (sv 4) (sa_cons (se_call O C.c__law_torn (by rfl) (sa_cons (sv 0) (sa_cons (sv 4) sa_nil))) sa_nil))))))
    (ss_cons (ss_set O.nd (i := 5) rfl (by first | exact .inl rfl | exact .inr rfl) (se_call O C.c__law_fraction_text (by rfl) (sa_cons (se_call O C.c__law_any (by rfl) (sa_cons (sv 0) sa_nil)) sa_nil)))
    (ss_cons (ss_set O.nd (i := 1) rfl (by first | exact .inl rfl | exact .inr rfl) (se_bin (oadd O.toOkb) (sv 1) (se_lst (sa_cons (sv 5) (sa_cons (se_call O C.c__law_torn (by rfl) (sa_cons (sv 0) (sa_cons (sv 5) sa_nil))) sa_nil)))))
    ss_nil))))))
    (ss_cons (ss_for O hp (si_seq O (sv 1)) (tv 3 O.toOkb) (ss_cons (ss_set O.nd (i := 6) rfl (by first | exact .inl rfl | exact .inr rfl) (se_isi (cb_isS O.hK) (by rfl) F.b_isinstance (by decide +kernel) (by rfl) F.b_str (by decide +kernel) (sv 3)))
    (ss_cons (ss_set O.nd (i := 7) rfl (by first | exact .inl rfl | exact .inr rfl) (se_lst (sa_cons (se_call O C.c__law_due (by rfl) (sa_cons (se_ite (st_val (sv 6)) (se_call O C.c__law_fraction_in (by rfl) (sa_cons (sv 3) sa_nil)) se_non) sa_nil)) (sa_cons (se_call O C.c__law_due (by rfl) (sa_cons (se_ite (st_val (sv 6)) (se_call O C.c__law_form_in (by rfl) (sa_cons (sv 3) sa_nil)) se_non) sa_nil)) sa_nil))))
    (ss_cons (ss_for O hp (si_rng1 O (by rfl) F.b_range se_int) (tv 8 O.toOkb) (ss_cons (ss_set O.nd (i := 9) rfl (by first | exact .inl rfl | exact .inr rfl) (se_new (sa_cons (said_243 F SD_243 O (by rfl) hT hr (LamX.lamS_by (sc := defScope st_266) (by decide +kernel)) (fun A2 out2 s2 H2 E2 f2 c2 hr2 O2 => (se_call O2 (CL _ hr2).c_read_fraction (by rfl) (sa_cons (sv 3) sa_nil)))) sa_nil)))
    (ss_cons (ss_ex (se_me O.toOkb PySem.F.plainAttrs_list PySem.F.slot_list_append PySem.F.type_list_append me_append ty_append (sv 9) (sa_cons (said_243 F SD_243 O (by rfl) hT hr (LamX.lamS_by (sc := defScope st_266) (by decide +kernel)) (fun A2 out2 s2 H2 E2 f2 c2 hr2 O2 => (se_call O2 (CL _ hr2).c_read_form (by rfl) (sa_cons (sv 3) sa_nil)))) sa_nil)))
    (ss_cons (ss_if (st_not (st_val (se_call O CT.c__law_same (by rfl) (sa_cons (sv 9) (sa_cons (sv 7) sa_nil))))) (ss_cons (ss_ret se_bl)
    ss_nil) ss_nil)
    ss_nil))))
    ss_nil))))
    (ss_cons (ss_ret se_bl)
    ss_nil)))))))))))))
abbrev X_267 (P : Program) (w : World) (W : Wl) (mg : Str → Option Value) (base : Heap) (cdv : Value) (A : Around) (out : List PySem.Env) (s : Shared) (H : Hp) (E : XK) : Cx := cxB P w W.K mg base N_267 "law" (defScope st_267) (W.fad 267) cdv A out s H E
theorem s_267 {P : Program} {w : World} {W : Wl} {mg : Str → Option Value} {base : Heap} {G : Glo} (F : Fx W w mg) (hdc : ∀ n, G.dct n = Pg.dct n) (cdv : Value) (A : Around) (out : List PySem.Env) (s : Shared) (H : Hp) (E : XK) (C : CalsF W P w mg base (X_267 P w W mg base cdv A out s H E).A G) (O : Okx W (fun c d _ H => E c d H) (X_267 P w W mg base cdv A out s H E)) (hp : PassesOwn (model P w) (X_267 P w W mg base cdv A out s H E).A (X_267 P w W mg base cdv A out s H E).env (X_267 P w W mg base cdv A out s H E).xe) (CT : CalsT W P w mg base (X_267 P w W mg base cdv A out s H E).A G) (hgd : (X_267 P w W mg base cdv A out s H E).A.guards = some []) :
    SSs W (fun c d _ H => E c d H) (X_267 P w W mg base cdv A out s H E) G (defBody st_267) b_law'9 :=
  (ss_cons (ss_for O hp (si_rng1 O (by rfl) F.b_range (se_bi (cb_max2 O.calm) (by rfl) F.b_max (by decide +kernel) (sa_cons se_int (sa_cons (se_bi (cb_min2 O.calm) (by rfl) F.b_min (by decide +kernel) (sa_cons (se_bi (cb_len O.hK) (by rfl) F.b_len (boot_len) (sa_cons (sv 0) sa_nil)) (sa_cons se_int sa_nil))) sa_nil)))) (tv 1 O.toOkb) (ss_cons (ss_set O.nd (i := 2) rfl (by first | exact .inl rfl | exact .inr rfl) (se_call O C.c__law_state (by rfl) (sa_cons (sv 0) (sa_cons (sv 1) sa_nil))))
    (ss_cons (ss_for O hp (si_rng1 O (by rfl) F.b_range se_int) (tv 3 O.toOkb) (ss_cons (ss_if (st_not (st_val (se_call O CT.c__law_right (by rfl) (sa_cons (sv 2) sa_nil)))) (ss_cons (ss_ret se_bl)
    ss_nil) ss_nil)
    ss_nil))
    ss_nil)))
    (ss_cons (ss_ret se_bl)
    ss_nil))
structure Lev (P : Program) (w : World) (W : Wl) (mg : Str → Option Value) (base : Heap) (k : Nat) : Prop where
  l_0 : ∀ fd, FunD W.K "is_whole" "is_whole" (defArgs st_0) (defBody st_0) (defScope st_0) [] [] (W.fad 0) fd → FnG false P w W.K mg base (3 * k) (W.fad 0) fd ["thing"] (spF W 1 ((glo Pg k).fn 0))
  l_2 : ∀ fd, FunD W.K "is_word" "is_word" (defArgs st_2) (defBody st_2) (defScope st_2) [] [] (W.fad 2) fd → FnG false P w W.K mg base (3 * k) (W.fad 2) fd ["thing"] (spF W 1 ((glo Pg k).fn 2))
  l_5 : ∀ fd, FunD W.K "common_of" "common_of" (defArgs st_5) (defBody st_5) (defScope st_5) [] [] (W.fad 5) fd → FnG false P w W.K mg base (3 * k) (W.fad 5) fd ["one", "other"] (spF W 2 ((glo Pg k).fn 5))
  l_7 : ∀ fd, FunD W.K "is_fraction" "is_fraction" (defArgs st_7) (defBody st_7) (defScope st_7) [] [] (W.fad 7) fd → FnG false P w W.K mg base (3 * k) (W.fad 7) fd ["thing"] (spF W 1 ((glo Pg k).fn 7))
  l_251 : ∀ fd, FunD W.K "is_code" "is_code" (defArgs st_251) (defBody st_251) (defScope st_251) [] [] (W.fad 251) fd → FnG false P w W.K mg base (3 * k) (W.fad 251) fd ["thing"] (spF W 1 ((glo Pg k).fn 251))
  l_252 : ∀ fd, FunD W.K "number_in" "number_in" (defArgs st_252) (defBody st_252) (defScope st_252) [] [] (W.fad 252) fd → FnG false P w W.K mg base (3 * k) (W.fad 252) fd ["word"] (spF W 1 ((glo Pg k).fn 252))
  l_253 : ∀ fd, FunD W.K "whole_in" "whole_in" (defArgs st_253) (defBody st_253) (defScope st_253) [] [] (W.fad 253) fd → FnG false P w W.K mg base (3 * k) (W.fad 253) fd ["word"] (spF W 1 ((glo Pg k).fn 253))
  l_254 : ∀ fd, FunD W.K "fraction_in" "fraction_in" (defArgs st_254) (defBody st_254) (defScope st_254) [] [] (W.fad 254) fd → FnG false P w W.K mg base (3 * k) (W.fad 254) fd ["word"] (spF W 1 ((glo Pg k).fn 254))
  l_255 : ∀ fd, FunD W.K "thing_in" "thing_in" (defArgs st_255) (defBody st_255) (defScope st_255) [] [] (W.fad 255) fd → FnG false P w W.K mg base (3 * k) (W.fad 255) fd ["kind", "word"] (spF W 2 ((glo Pg k).fn 255))
  l_256 : ∀ fd, FunD W.K "form_in" "form_in" (defArgs st_256) (defBody st_256) (defScope st_256) [] [] (W.fad 256) fd → FnG false P w W.K mg base (3 * k) (W.fad 256) fd ["text"] (spF W 1 ((glo Pg k).fn 256))
  l_257 : ∀ fd, FunD W.K "read_fraction" "read_fraction" (defArgs st_257) (defBody st_257) (defScope st_257) [] [] (W.fad 257) fd → FnG false P w W.K mg base (3 * k) (W.fad 257) fd ["text"] (spF W 1 ((glo Pg k).fn 257))
  l_258 : ∀ fd, FunD W.K "read_form" "read_form" (defArgs st_258) (defBody st_258) (defScope st_258) [] [] (W.fad 258) fd → FnG false P w W.K mg base (3 * k) (W.fad 258) fd ["text"] (spF W 1 ((glo Pg k).fn 258))
  l_117 : ∀ fd, FunD W.K "_law_cell_at" "_law_cell_at" (defArgs st_117) (defBody st_117) (defScope st_117) [] [] (W.fad 117) fd → FnG false P w W.K mg base (3 * k) (W.fad 117) fd ["_law_script", "_law_k"] (spF W 2 ((glo Pg k).fn 117))
  l_118 : ∀ fd, FunD W.K "_law_state" "_law_state" (defArgs st_118) (defBody st_118) (defScope st_118) [] [] (W.fad 118) fd → FnG false P w W.K mg base (3 * k) (W.fad 118) fd ["_law_script", "_law_k"] (spF W 2 ((glo Pg k).fn 118))
  l_119 : ∀ fd, FunD W.K "_law_choice" "_law_choice" (defArgs st_119) (defBody st_119) (defScope st_119) [] [] (W.fad 119) fd → FnG false P w W.K mg base (3 * k) (W.fad 119) fd ["_law_state_here", "_law_many"] (spF W 2 ((glo Pg k).fn 119))
  l_120 : ∀ fd, FunD W.K "_law_low" "_law_low" (defArgs st_120) (defBody st_120) (defScope st_120) [] [] (W.fad 120) fd → FnG false P w W.K mg base (3 * k) (W.fad 120) fd ["_law_top", "_law_bottom"] (spF W 2 ((glo Pg k).fn 120))
  l_127 : ∀ fd, FunD W.K "_law_any" "_law_any" (defArgs st_127) (defBody st_127) (defScope st_127) [] [] (W.fad 127) fd → FnG false P w W.K mg base (3 * k) (W.fad 127) fd ["_law_state_here"] (spF W 1 ((glo Pg k).fn 127))
  l_137 : ∀ fd, FunD W.K "_law_same" "_law_same" (defArgs st_137) (defBody st_137) (defScope st_137) [] [] (W.fad 137) fd → FnG true P w W.K mg base (3 * k) (W.fad 137) fd ["_law_found", "_law_due_here"] (spF W 2 ((glo Pg k).fn 137))
  l_244 : ∀ fd, FunD W.K "_law_signs" "_law_signs" (defArgs st_244) (defBody st_244) (defScope st_244) [] [] (W.fad 244) fd → FnG false P w W.K mg base (3 * k) (W.fad 244) fd ["_law_state_here", "_law_many"] (spF W 2 ((glo Pg k).fn 244))
  l_245 : ∀ fd, FunD W.K "_law_shape" "_law_shape" (defArgs st_245) (defBody st_245) (defScope st_245) [] [] (W.fad 245) fd → FnG false P w W.K mg base (3 * k) (W.fad 245) fd ["_law_state_here"] (spF W 1 ((glo Pg k).fn 245))
  l_246 : ∀ fd, FunD W.K "_law_fraction_text" "_law_fraction_text" (defArgs st_246) (defBody st_246) (defScope st_246) [] [] (W.fad 246) fd → FnG false P w W.K mg base (3 * k) (W.fad 246) fd ["_law_one"] (spF W 1 ((glo Pg k).fn 246))
  l_247 : ∀ fd, FunD W.K "_law_form_text" "_law_form_text" (defArgs st_247) (defBody st_247) (defScope st_247) [] [] (W.fad 247) fd → FnG false P w W.K mg base (3 * k) (W.fad 247) fd ["_law_form"] (spF W 1 ((glo Pg k).fn 247))
  l_259 : ∀ fd, FunD W.K "_law_number_in" "_law_number_in" (defArgs st_259) (defBody st_259) (defScope st_259) [] [] (W.fad 259) fd → FnG false P w W.K mg base (3 * k) (W.fad 259) fd ["_law_word_here"] (spF W 1 ((glo Pg k).fn 259))
  l_260 : ∀ fd, FunD W.K "_law_fraction_in" "_law_fraction_in" (defArgs st_260) (defBody st_260) (defScope st_260) [] [] (W.fad 260) fd → FnG false P w W.K mg base (3 * k) (W.fad 260) fd ["_law_word_here"] (spF W 1 ((glo Pg k).fn 260))
  l_261 : ∀ fd, FunD W.K "_law_is_small" "_law_is_small" (defArgs st_261) (defBody st_261) (defScope st_261) [] [] (W.fad 261) fd → FnG false P w W.K mg base (3 * k) (W.fad 261) fd ["_law_word_here"] (spF W 1 ((glo Pg k).fn 261))
  l_262 : ∀ fd, FunD W.K "_law_thing_in" "_law_thing_in" (defArgs st_262) (defBody st_262) (defScope st_262) [] [] (W.fad 262) fd → FnG false P w W.K mg base (3 * k) (W.fad 262) fd ["_law_kind", "_law_word_here"] (spF W 2 ((glo Pg k).fn 262))
  l_263 : ∀ fd, FunD W.K "_law_form_in" "_law_form_in" (defArgs st_263) (defBody st_263) (defScope st_263) [] [] (W.fad 263) fd → FnG false P w W.K mg base (3 * k) (W.fad 263) fd ["_law_text"] (spF W 1 ((glo Pg k).fn 263))
  l_264 : ∀ fd, FunD W.K "_law_torn" "_law_torn" (defArgs st_264) (defBody st_264) (defScope st_264) [] [] (W.fad 264) fd → FnG false P w W.K mg base (3 * k) (W.fad 264) fd ["_law_state_here", "_law_text"] (spF W 2 ((glo Pg k).fn 264))
  l_265 : ∀ fd, FunD W.K "_law_due" "_law_due" (defArgs st_265) (defBody st_265) (defScope st_265) [] [] (W.fad 265) fd → FnG false P w W.K mg base (3 * k) (W.fad 265) fd ["_law_found_one"] (spF W 1 ((glo Pg k).fn 265))
  l_266 : ∀ fd, FunD W.K "_law_right" "_law_right" (defArgs st_266) (defBody st_266) (defScope st_266) [] [] (W.fad 266) fd → FnG true P w W.K mg base (3 * k) (W.fad 266) fd ["_law_state_here"] (spF W 1 ((glo Pg k).fn 266))
  l_267 : ∀ fd, FunD W.K "law" "law" (defArgs st_267) (defBody st_267) (defScope st_267) [] [] (W.fad 267) fd → FnG true P w W.K mg base (3 * k) (W.fad 267) fd ["_law_script"] (spF W 1 ((glo Pg k).fn 267))
  dummy : True
structure LevX (P : Program) (w : World) (W : Wl) (mg : Str → Option Value) (base : Heap) (G : Glo) (k : Nat) : Prop where
  l_241 : ∀ fd, FunD W.K "_law_marks" "_law_marks" (defArgs st_241) (defBody st_241) (defScope st_241) [] [] (W.fad 241) fd → FnX P w W mg base [0, 1, 2, 3, 4, 5, 6, 7, 8, 9, 10, 11, 12, 13, 14, 15, 16, 17, 18, 19, 20, 21, 22, 23, 24, 25, 26, 27, 28, 29, 30, 31] (3 * k) (W.fad 241) fd ["_law_e"] (G.fn 241)
  b_241 : ∀ ds S, ds.length ≠ 1 → G.fn 241 ds S = .bad
  l_242 : ∀ fd, FunD W.K "_law_word" "_law_word" (defArgs st_242) (defBody st_242) (defScope st_242) [] [] (W.fad 242) fd → FnX P w W mg base [0, 1, 2, 3, 4, 5, 6, 7, 8, 9, 10, 11, 12, 13, 14, 15, 16, 17, 18, 19, 20, 21, 22, 23, 24, 25, 26, 27, 28, 29, 30, 31] (3 * k) (W.fad 242) fd ["_law_e"] (G.fn 242)
  b_242 : ∀ ds S, ds.length ≠ 1 → G.fn 242 ds S = .bad
theorem levX0 {P : Program} {w : World} {W : Wl} {mg : Str → Option Value} {base : Heap} {G : Glo} {k : Nat} (h : G.fn = fun _ _ => M.bad) : LevX P w W mg base G k where
  l_241 := fun fd _ => by rw [h]; exact fnX_zero
  b_241 := fun ds S _ => by rw [h]; rfl
  l_242 := fun fd _ => by rw [h]; exact fnX_zero
  b_242 := fun ds S _ => by rw [h]; rfl
theorem calsX {P : Program} {w : World} {W : Wl} {mg : Str → Option Value} {base : Heap} {G : Glo} {k : Nat} {A : Around} (Fd : Fds W mg) (L : LevX P w W mg base G k) (hr : L2H.RoomH (3 * k) A) : CalsX [0, 1, 2, 3, 4, 5, 6, 7, 8, 9, 10, 11, 12, 13, 14, 15, 16, 17, 18, 19, 20, 21, 22, 23, 24, 25, 26, 27, 28, 29, 30, 31] W P w mg base A G where
  h__law_marks := by
    obtain ⟨fd, F⟩ := Fd.f_241
    exact ⟨Fd.m_241, F.kp, 3 * k, fd, _, L.l_241 fd F, hr, F.bindsN fun _ _ _ _ _ _ us hl => match us, hl with | [_], _ => rfl, L.b_241⟩
  h__law_word := by
    obtain ⟨fd, F⟩ := Fd.f_242
    exact ⟨Fd.m_242, F.kp, 3 * k, fd, _, L.l_242 fd F, hr, F.bindsN fun _ _ _ _ _ _ us hl => match us, hl with | [_], _ => rfl, L.b_242⟩
theorem levXS {P : Program} {w : World} {W : Wl} {mg : Str → Option Value} {base : Heap} {k : Nat} (F : Fx W w mg) (Fd : Fds W mg) (L : LevX P w W mg base (glo Pg k) k) : LevX P w W mg base (glo Pg (k + 1)) (k + 1) where
  l_241 := fun fd Q => by
    rw [glo_succ (d := d_l_marks'2) rfl]
    exact bodyX (k := 3 * k + 2) Q sc_241 rfl rfl fun cdv A out s H p c hr O => s_241 F cdv A out s H p c (calsX Fd L (hr.mono (by omega))) O
  b_241 := fun ds S hl => glo_bad (d := d_l_marks'2) rfl hl
  l_242 := fun fd Q => by
    rw [glo_succ (d := d_l_word'3) rfl]
    exact bodyX (k := 3 * k + 2) Q sc_242 rfl rfl fun cdv A out s H p c hr O => s_242 F cdv A out s H p c (calsX Fd L (hr.mono (by omega))) O
  b_242 := fun ds S hl => glo_bad (d := d_l_word'3) rfl hl
theorem levX {P : Program} {w : World} {W : Wl} {mg : Str → Option Value} {base : Heap} (F : Fx W w mg) (Fd : Fds W mg) : ∀ k, LevX P w W mg base (glo Pg k) k
  | 0 => levX0 rfl
  | k + 1 => levXS F Fd (levX F Fd k)
theorem lev0 {P : Program} {w : World} {W : Wl} {mg : Str → Option Value} {base : Heap} : Lev P w W mg base 0 where
  l_0 := fun fd _ => fnG_zero
  l_2 := fun fd _ => fnG_zero
  l_5 := fun fd _ => fnG_zero
  l_7 := fun fd _ => fnG_zero
  l_251 := fun fd _ => fnG_zero
  l_252 := fun fd _ => fnG_zero
  l_253 := fun fd _ => fnG_zero
  l_254 := fun fd _ => fnG_zero
  l_255 := fun fd _ => fnG_zero
  l_256 := fun fd _ => fnG_zero
  l_257 := fun fd _ => fnG_zero
  l_258 := fun fd _ => fnG_zero
  l_117 := fun fd _ => fnG_zero
  l_118 := fun fd _ => fnG_zero
  l_119 := fun fd _ => fnG_zero
  l_120 := fun fd _ => fnG_zero
  l_127 := fun fd _ => fnG_zero
  l_137 := fun fd _ => fnG_zero
  l_244 := fun fd _ => fnG_zero
  l_245 := fun fd _ => fnG_zero
  l_246 := fun fd _ => fnG_zero
  l_247 := fun fd _ => fnG_zero
  l_259 := fun fd _ => fnG_zero
  l_260 := fun fd _ => fnG_zero
  l_261 := fun fd _ => fnG_zero
  l_262 := fun fd _ => fnG_zero
  l_263 := fun fd _ => fnG_zero
  l_264 := fun fd _ => fnG_zero
  l_265 := fun fd _ => fnG_zero
  l_266 := fun fd _ => fnG_zero
  l_267 := fun fd _ => fnG_zero
  dummy := trivial
theorem calsF {P : Program} {w : World} {W : Wl} {mg : Str → Option Value} {base : Heap} {k : Nat} {A : Around} (Fd : Fds W mg) (L : Lev P w W mg base k) (hr : Room (3 * k) A) : CalsF W P w mg base A (glo Pg k) where
  c_is_whole := by
    obtain ⟨fd, F⟩ := Fd.f_0
    exact cal_all Fd.m_0 F.kp (d := d_is_whole) rfl rfl (L.l_0 fd F) hr (fun z => nomatch z) (F.bindsN fun _ _ _ _ _ _ us hl => match us, hl with | [_], _ => rfl)
  c_is_word := by
    obtain ⟨fd, F⟩ := Fd.f_2
    exact cal_all Fd.m_2 F.kp (d := d_is_word) rfl rfl (L.l_2 fd F) hr (fun z => nomatch z) (F.bindsN fun _ _ _ _ _ _ us hl => match us, hl with | [_], _ => rfl)
  c_common_of := by
    obtain ⟨fd, F⟩ := Fd.f_5
    exact cal_all Fd.m_5 F.kp (d := d_common_of) rfl rfl (L.l_5 fd F) hr (fun z => nomatch z) (F.bindsN fun _ _ _ _ _ _ us hl => match us, hl with | [_, _], _ => rfl)
  c_is_fraction := by
    obtain ⟨fd, F⟩ := Fd.f_7
    exact cal_all Fd.m_7 F.kp (d := d_is_fraction) rfl rfl (L.l_7 fd F) hr (fun z => nomatch z) (F.bindsN fun _ _ _ _ _ _ us hl => match us, hl with | [_], _ => rfl)
  c_is_code := by
    obtain ⟨fd, F⟩ := Fd.f_251
    exact cal_all Fd.m_251 F.kp (d := d_is_code'2) rfl rfl (L.l_251 fd F) hr (fun z => nomatch z) (F.bindsN fun _ _ _ _ _ _ us hl => match us, hl with | [_], _ => rfl)
  c_number_in := by
    obtain ⟨fd, F⟩ := Fd.f_252
    exact cal_all Fd.m_252 F.kp (d := d_number_in) rfl rfl (L.l_252 fd F) hr (fun z => nomatch z) (F.bindsN fun _ _ _ _ _ _ us hl => match us, hl with | [_], _ => rfl)
  c_whole_in := by
    obtain ⟨fd, F⟩ := Fd.f_253
    exact cal_all Fd.m_253 F.kp (d := d_whole_in) rfl rfl (L.l_253 fd F) hr (fun z => nomatch z) (F.bindsN fun _ _ _ _ _ _ us hl => match us, hl with | [_], _ => rfl)
  c_fraction_in := by
    obtain ⟨fd, F⟩ := Fd.f_254
    exact cal_all Fd.m_254 F.kp (d := d_fraction_in) rfl rfl (L.l_254 fd F) hr (fun z => nomatch z) (F.bindsN fun _ _ _ _ _ _ us hl => match us, hl with | [_], _ => rfl)
  c_thing_in := by
    obtain ⟨fd, F⟩ := Fd.f_255
    exact cal_all Fd.m_255 F.kp (d := d_thing_in) rfl rfl (L.l_255 fd F) hr (fun z => nomatch z) (F.bindsN fun _ _ _ _ _ _ us hl => match us, hl with | [_, _], _ => rfl)
  c_form_in := by
    obtain ⟨fd, F⟩ := Fd.f_256
    exact cal_all Fd.m_256 F.kp (d := d_form_in) rfl rfl (L.l_256 fd F) hr (fun z => nomatch z) (F.bindsN fun _ _ _ _ _ _ us hl => match us, hl with | [_], _ => rfl)
  c_read_fraction := by
    obtain ⟨fd, F⟩ := Fd.f_257
    exact cal_all Fd.m_257 F.kp (d := d_read_fraction) rfl rfl (L.l_257 fd F) hr (fun z => nomatch z) (F.bindsN fun _ _ _ _ _ _ us hl => match us, hl with | [_], _ => rfl)
  c_read_form := by
    obtain ⟨fd, F⟩ := Fd.f_258
    exact cal_all Fd.m_258 F.kp (d := d_read_form) rfl rfl (L.l_258 fd F) hr (fun z => nomatch z) (F.bindsN fun _ _ _ _ _ _ us hl => match us, hl with | [_], _ => rfl)
  c__law_cell_at := by
    obtain ⟨fd, F⟩ := Fd.f_117
    exact cal_all Fd.m_117 F.kp (d := d_l_cell_at) rfl rfl (L.l_117 fd F) hr (fun z => nomatch z) (F.bindsN fun _ _ _ _ _ _ us hl => match us, hl with | [_, _], _ => rfl)
  c__law_state := by
    obtain ⟨fd, F⟩ := Fd.f_118
    exact cal_all Fd.m_118 F.kp (d := d_l_state) rfl rfl (L.l_118 fd F) hr (fun z => nomatch z) (F.bindsN fun _ _ _ _ _ _ us hl => match us, hl with | [_, _], _ => rfl)
  c__law_choice := by
    obtain ⟨fd, F⟩ := Fd.f_119
    exact cal_all Fd.m_119 F.kp (d := d_l_choice) rfl rfl (L.l_119 fd F) hr (fun z => nomatch z) (F.bindsN fun _ _ _ _ _ _ us hl => match us, hl with | [_, _], _ => rfl)
  c__law_low := by
    obtain ⟨fd, F⟩ := Fd.f_120
    exact cal_all Fd.m_120 F.kp (d := d_l_low) rfl rfl (L.l_120 fd F) hr (fun z => nomatch z) (F.bindsN fun _ _ _ _ _ _ us hl => match us, hl with | [_, _], _ => rfl)
  c__law_any := by
    obtain ⟨fd, F⟩ := Fd.f_127
    exact cal_all Fd.m_127 F.kp (d := d_l_any) rfl rfl (L.l_127 fd F) hr (fun z => nomatch z) (F.bindsN fun _ _ _ _ _ _ us hl => match us, hl with | [_], _ => rfl)
  c__law_signs := by
    obtain ⟨fd, F⟩ := Fd.f_244
    exact cal_all Fd.m_244 F.kp (d := d_l_signs) rfl rfl (L.l_244 fd F) hr (fun z => nomatch z) (F.bindsN fun _ _ _ _ _ _ us hl => match us, hl with | [_, _], _ => rfl)
  c__law_shape := by
    obtain ⟨fd, F⟩ := Fd.f_245
    exact cal_all Fd.m_245 F.kp (d := d_l_shape) rfl rfl (L.l_245 fd F) hr (fun z => nomatch z) (F.bindsN fun _ _ _ _ _ _ us hl => match us, hl with | [_], _ => rfl)
  c__law_fraction_text := by
    obtain ⟨fd, F⟩ := Fd.f_246
    exact cal_all Fd.m_246 F.kp (d := d_l_fraction_text) rfl rfl (L.l_246 fd F) hr (fun z => nomatch z) (F.bindsN fun _ _ _ _ _ _ us hl => match us, hl with | [_], _ => rfl)
  c__law_form_text := by
    obtain ⟨fd, F⟩ := Fd.f_247
    exact cal_all Fd.m_247 F.kp (d := d_l_form_text) rfl rfl (L.l_247 fd F) hr (fun z => nomatch z) (F.bindsN fun _ _ _ _ _ _ us hl => match us, hl with | [_], _ => rfl)
  c__law_number_in := by
    obtain ⟨fd, F⟩ := Fd.f_259
    exact cal_all Fd.m_259 F.kp (d := d_l_number_in) rfl rfl (L.l_259 fd F) hr (fun z => nomatch z) (F.bindsN fun _ _ _ _ _ _ us hl => match us, hl with | [_], _ => rfl)
  c__law_fraction_in := by
    obtain ⟨fd, F⟩ := Fd.f_260
    exact cal_all Fd.m_260 F.kp (d := d_l_fraction_in) rfl rfl (L.l_260 fd F) hr (fun z => nomatch z) (F.bindsN fun _ _ _ _ _ _ us hl => match us, hl with | [_], _ => rfl)
  c__law_is_small := by
    obtain ⟨fd, F⟩ := Fd.f_261
    exact cal_all Fd.m_261 F.kp (d := d_l_is_small) rfl rfl (L.l_261 fd F) hr (fun z => nomatch z) (F.bindsN fun _ _ _ _ _ _ us hl => match us, hl with | [_], _ => rfl)
  c__law_thing_in := by
    obtain ⟨fd, F⟩ := Fd.f_262
    exact cal_all Fd.m_262 F.kp (d := d_l_thing_in) rfl rfl (L.l_262 fd F) hr (fun z => nomatch z) (F.bindsN fun _ _ _ _ _ _ us hl => match us, hl with | [_, _], _ => rfl)
  c__law_form_in := by
    obtain ⟨fd, F⟩ := Fd.f_263
    exact cal_all Fd.m_263 F.kp (d := d_l_form_in) rfl rfl (L.l_263 fd F) hr (fun z => nomatch z) (F.bindsN fun _ _ _ _ _ _ us hl => match us, hl with | [_], _ => rfl)
  c__law_torn := by
    obtain ⟨fd, F⟩ := Fd.f_264
    exact cal_all Fd.m_264 F.kp (d := d_l_torn) rfl rfl (L.l_264 fd F) hr (fun z => nomatch z) (F.bindsN fun _ _ _ _ _ _ us hl => match us, hl with | [_, _], _ => rfl)
  c__law_due := by
    obtain ⟨fd, F⟩ := Fd.f_265
    exact cal_all Fd.m_265 F.kp (d := d_l_due'3) rfl rfl (L.l_265 fd F) hr (fun z => nomatch z) (F.bindsN fun _ _ _ _ _ _ us hl => match us, hl with | [_], _ => rfl)
  dummy := trivial
theorem calsT {P : Program} {w : World} {W : Wl} {mg : Str → Option Value} {base : Heap} {k : Nat} {A : Around} (Fd : Fds W mg) (L : Lev P w W mg base k) (hr : Room (3 * k) A) (hgd : A.guards = some []) : CalsT W P w mg base A (glo Pg k) where
  c__law_same := by
    obtain ⟨fd, F⟩ := Fd.f_137
    exact cal_all Fd.m_137 F.kp (d := d_l_same) rfl rfl (L.l_137 fd F) hr (fun _ => hgd) (F.bindsN fun _ _ _ _ _ _ us hl => match us, hl with | [_, _], _ => rfl)
  c__law_right := by
    obtain ⟨fd, F⟩ := Fd.f_266
    exact cal_all Fd.m_266 F.kp (d := d_l_right'2) rfl rfl (L.l_266 fd F) hr (fun _ => hgd) (F.bindsN fun _ _ _ _ _ _ us hl => match us, hl with | [_], _ => rfl)
  dummy := trivial
theorem sd_243 {P : Program} {w : World} {W : Wl} {mg : Str → Option Value} {base : Heap} {k : Nat} (F : Fx W w mg) (Fd : Fds W mg) : Sd_243 P w W mg base (glo Pg k) (3 * k) := by
  refine ⟨Fd.f_243, Fd.m_243, gloP Pg k, glo_sd (by rfl), ?_⟩
  intro A hr
  cases k with
  | zero => exact (calsX Fd (k := 0) (levX0 rfl) (hr.mono (by omega))).h__law_word
  | succ k => exact (calsX Fd (levX F Fd k) (hr.mono (by omega))).h__law_word
def tf : List He.Defn := [("_law_right", none)]
structure Tbs (W : Wl) (mg : Str → Option Value) (base : Heap) : Prop where
  T : W.T = tabsOf tf W.K
  tb : ∀ p ∈ tf, LamX.TabB base mg (He.cT W.K p).1 (He.cT W.K p).2
  un : ∀ p ∈ tf, ∀ q ∈ tf, (He.cT W.K p).2 = (He.cT W.K q).2 → p = q
structure Fad (W : Wl) : Prop where
  dummy : True
  f_266 : W.fad 266 = He.ga W.K "_law_right"
theorem levS {P : Program} {w : World} {W : Wl} {mg : Str → Option Value} {base : Heap} {k : Nat} (F : Fx W w mg) (Fd : Fds W mg) (Ta : Tbs W mg base) (Fa : Fad W) (L : Lev P w W mg base k) : Lev P w W mg base (k + 1) where
  l_0 := fun fd Q => by
    rw [glo_succ (d := d_is_whole) rfl]
    exact def_sound (k := 3 * k + 2) Q sc_0 rfl rfl fun cdv A out s H E hr O hg hcd hp => s_0 F (fun _ => glo_dct) cdv A out s H E (calsF Fd L (hr.mono (by omega))) O hp
  l_2 := fun fd Q => by
    rw [glo_succ (d := d_is_word) rfl]
    exact def_sound (k := 3 * k + 2) Q sc_2 rfl rfl fun cdv A out s H E hr O hg hcd hp => s_2 F (fun _ => glo_dct) cdv A out s H E (calsF Fd L (hr.mono (by omega))) O hp
  l_5 := fun fd Q => by
    rw [glo_succ (d := d_common_of) rfl]
    exact def_sound (k := 3 * k + 2) Q sc_5 rfl rfl fun cdv A out s H E hr O hg hcd hp => s_5 F (fun _ => glo_dct) cdv A out s H E (calsF Fd L (hr.mono (by omega))) O hp
  l_7 := fun fd Q => by
    rw [glo_succ (d := d_is_fraction) rfl]
    exact def_sound (k := 3 * k + 2) Q sc_7 rfl rfl fun cdv A out s H E hr O hg hcd hp => s_7 F (fun _ => glo_dct) cdv A out s H E (calsF Fd L (hr.mono (by omega))) O hp
  l_251 := fun fd Q => by
    rw [glo_succ (d := d_is_code'2) rfl]
    exact def_sound (k := 3 * k + 2) Q sc_251 rfl rfl fun cdv A out s H E hr O hg hcd hp => s_251 F (fun _ => glo_dct) cdv A out s H E (calsF Fd L (hr.mono (by omega))) O hp
  l_252 := fun fd Q => by
    rw [glo_succ (d := d_number_in) rfl]
    exact def_sound (k := 3 * k + 2) Q sc_252 rfl rfl fun cdv A out s H E hr O hg hcd hp => s_252 F (fun _ => glo_dct) cdv A out s H E (calsF Fd L (hr.mono (by omega))) O hp
  l_253 := fun fd Q => by
    rw [glo_succ (d := d_whole_in) rfl]
    exact def_sound (k := 3 * k + 2) Q sc_253 rfl rfl fun cdv A out s H E hr O hg hcd hp => s_253 F (fun _ => glo_dct) cdv A out s H E (calsF Fd L (hr.mono (by omega))) O hp
  l_254 := fun fd Q => by
    rw [glo_succ (d := d_fraction_in) rfl]
    exact def_sound (k := 3 * k + 2) Q sc_254 rfl rfl fun cdv A out s H E hr O hg hcd hp => s_254 F (fun _ => glo_dct) cdv A out s H E (calsF Fd L (hr.mono (by omega))) O hp
  l_255 := fun fd Q => by
    rw [glo_succ (d := d_thing_in) rfl]
    exact def_sound (k := 3 * k + 2) Q sc_255 rfl rfl fun cdv A out s H E hr O hg hcd hp => s_255 F (fun _ => glo_dct) cdv A out s H E (calsF Fd L (hr.mono (by omega))) O hp
  l_256 := fun fd Q => by
    rw [glo_succ (d := d_form_in) rfl]
    exact def_sound (k := 3 * k + 2) Q sc_256 rfl rfl fun cdv A out s H E hr O hg hcd hp => s_256 F (fun _ => glo_dct) cdv A out s H E (calsF Fd L (hr.mono (by omega))) O hp
  l_257 := fun fd Q => by
    rw [glo_succ (d := d_read_fraction) rfl]
    exact def_sound (k := 3 * k + 2) Q sc_257 rfl rfl fun cdv A out s H E hr O hg hcd hp => s_257 F (fun _ => glo_dct) cdv A out s H E (calsF Fd L (hr.mono (by omega))) O hp
  l_258 := fun fd Q => by
    rw [glo_succ (d := d_read_form) rfl]
    exact def_sound (k := 3 * k + 2) Q sc_258 rfl rfl fun cdv A out s H E hr O hg hcd hp => s_258 F (fun _ => glo_dct) cdv A out s H E (calsF Fd L (hr.mono (by omega))) O hp
  l_117 := fun fd Q => by
    rw [glo_succ (d := d_l_cell_at) rfl]
    exact def_sound (k := 3 * k + 2) Q sc_117 rfl rfl fun cdv A out s H E hr O hg hcd hp => s_117 F (fun _ => glo_dct) cdv A out s H E (calsF Fd L (hr.mono (by omega))) O hp
  l_118 := fun fd Q => by
    rw [glo_succ (d := d_l_state) rfl]
    exact def_sound (k := 3 * k + 2) Q sc_118 rfl rfl fun cdv A out s H E hr O hg hcd hp => s_118 F (fun _ => glo_dct) cdv A out s H E (calsF Fd L (hr.mono (by omega))) O hp
  l_119 := fun fd Q => by
    rw [glo_succ (d := d_l_choice) rfl]
    exact def_sound (k := 3 * k + 2) Q sc_119 rfl rfl fun cdv A out s H E hr O hg hcd hp => s_119 F (fun _ => glo_dct) cdv A out s H E (calsF Fd L (hr.mono (by omega))) O hp
  l_120 := fun fd Q => by
    rw [glo_succ (d := d_l_low) rfl]
    exact def_sound (k := 3 * k + 2) Q sc_120 rfl rfl fun cdv A out s H E hr O hg hcd hp => s_120 F (fun _ => glo_dct) cdv A out s H E (calsF Fd L (hr.mono (by omega))) O hp
  l_127 := fun fd Q => by
    rw [glo_succ (d := d_l_any) rfl]
    exact def_sound (k := 3 * k + 2) Q sc_127 rfl rfl fun cdv A out s H E hr O hg hcd hp => s_127 F (fun _ => glo_dct) cdv A out s H E (calsF Fd L (hr.mono (by omega))) O hp
  l_137 := fun fd Q => by
    rw [glo_succ (d := d_l_same) rfl]
    exact def_sound (k := 3 * k + 2) Q sc_137 rfl rfl fun cdv A out s H E hr O hg hcd hp => s_137 F (fun _ => glo_dct) cdv A out s H E (calsF Fd L (hr.mono (by omega))) O hp (calsT Fd L (hr.mono (by omega)) (hg rfl)) (hg rfl)
  l_244 := fun fd Q => by
    rw [glo_succ (d := d_l_signs) rfl]
    exact def_sound (k := 3 * k + 2) Q sc_244 rfl rfl fun cdv A out s H E hr O hg hcd hp => s_244 F (fun _ => glo_dct) cdv A out s H E (calsF Fd L (hr.mono (by omega))) O hp
  l_245 := fun fd Q => by
    rw [glo_succ (d := d_l_shape) rfl]
    exact def_sound (k := 3 * k + 2) Q sc_245 rfl rfl fun cdv A out s H E hr O hg hcd hp => s_245 F (fun _ => glo_dct) cdv A out s H E (calsF Fd L (hr.mono (by omega))) O hp
  l_246 := fun fd Q => by
    rw [glo_succ (d := d_l_fraction_text) rfl]
    exact def_sound (k := 3 * k + 2) Q sc_246 rfl rfl fun cdv A out s H E hr O hg hcd hp => s_246 F (fun _ => glo_dct) cdv A out s H E (calsF Fd L (hr.mono (by omega))) O hp
  l_247 := fun fd Q => by
    rw [glo_succ (d := d_l_form_text) rfl]
    exact def_sound (k := 3 * k + 2) Q sc_247 rfl rfl fun cdv A out s H E hr O hg hcd hp => s_247 F (fun _ => glo_dct) cdv A out s H E (calsF Fd L (hr.mono (by omega))) O hp
  l_259 := fun fd Q => by
    rw [glo_succ (d := d_l_number_in) rfl]
    exact def_sound (k := 3 * k + 2) Q sc_259 rfl rfl fun cdv A out s H E hr O hg hcd hp => s_259 F (fun _ => glo_dct) cdv A out s H E (calsF Fd L (hr.mono (by omega))) O hp
  l_260 := fun fd Q => by
    rw [glo_succ (d := d_l_fraction_in) rfl]
    exact def_sound (k := 3 * k + 2) Q sc_260 rfl rfl fun cdv A out s H E hr O hg hcd hp => s_260 F (fun _ => glo_dct) cdv A out s H E (calsF Fd L (hr.mono (by omega))) O hp
  l_261 := fun fd Q => by
    rw [glo_succ (d := d_l_is_small) rfl]
    exact def_sound (k := 3 * k + 2) Q sc_261 rfl rfl fun cdv A out s H E hr O hg hcd hp => s_261 F (fun _ => glo_dct) cdv A out s H E (calsF Fd L (hr.mono (by omega))) O hp
  l_262 := fun fd Q => by
    rw [glo_succ (d := d_l_thing_in) rfl]
    exact def_sound (k := 3 * k + 2) Q sc_262 rfl rfl fun cdv A out s H E hr O hg hcd hp => s_262 F (fun _ => glo_dct) cdv A out s H E (calsF Fd L (hr.mono (by omega))) O hp
  l_263 := fun fd Q => by
    rw [glo_succ (d := d_l_form_in) rfl]
    exact def_sound (k := 3 * k + 2) Q sc_263 rfl rfl fun cdv A out s H E hr O hg hcd hp => s_263 F (fun _ => glo_dct) cdv A out s H E (calsF Fd L (hr.mono (by omega))) O hp
  l_264 := fun fd Q => by
    rw [glo_succ (d := d_l_torn) rfl]
    exact def_sound (k := 3 * k + 2) Q sc_264 rfl rfl fun cdv A out s H E hr O hg hcd hp => s_264 F (fun _ => glo_dct) cdv A out s H E (calsF Fd L (hr.mono (by omega))) O hp
  l_265 := fun fd Q => by
    rw [glo_succ (d := d_l_due'3) rfl]
    exact def_sound (k := 3 * k + 2) Q sc_265 rfl rfl fun cdv A out s H E hr O hg hcd hp => s_265 F (fun _ => glo_dct) cdv A out s H E (calsF Fd L (hr.mono (by omega))) O hp
  l_266 := fun fd Q => by
    rw [glo_succ (d := d_l_right'2) rfl]
    exact def_sound (k := 3 * k + 2) Q sc_266 rfl rfl fun cdv A out s H E hr O hg hcd hp => s_266 F (fun _ => glo_dct) cdv A out s H E (calsF Fd L (hr.mono (by omega))) O hp (calsT Fd L (hr.mono (by omega)) (hg rfl)) (hg rfl) (3 * k) hr (fun A h => calsF Fd L h) (tabC Ta.T (x := "_law_right") (by decide +kernel) Fa.f_266 hcd Ta.tb Ta.un) (sd_243 F Fd)
  l_267 := fun fd Q => by
    rw [glo_succ (d := d_law'9) rfl]
    exact def_sound (k := 3 * k + 2) Q sc_267 rfl rfl fun cdv A out s H E hr O hg hcd hp => s_267 F (fun _ => glo_dct) cdv A out s H E (calsF Fd L (hr.mono (by omega))) O hp (calsT Fd L (hr.mono (by omega)) (hg rfl)) (hg rfl)
  dummy := trivial
theorem lev {P : Program} {w : World} {W : Wl} {mg : Str → Option Value} {base : Heap} (F : Fx W w mg) (Fd : Fds W mg) (Ta : Tbs W mg base) (Fa : Fad W) : ∀ k, Lev P w W mg base k
  | 0 => lev0
  | k + 1 => levS F Fd Ta Fa (lev F Fd Ta Fa k)
end PZ
end
section
set_option linter.all false
set_option maxRecDepth 100000
set_option maxHeartbeats 0
set_option Elab.async false
namespace PZ
open PySem PySem.Spec PyProof.Rows L2
abbrev Rw : PySem.W.OpenRow := PySem.W.OpenLaw.row PySem.Challenge.rw_onewhere_k75_texts_read
def fn0 : List He.DefD := [⟨("is_whole", none), "is_whole", "is_whole", defArgs (top 35), defBody (top 35), defScope (top 35), [], []⟩, ⟨("is_word", none), "is_word", "is_word", defArgs (top 36), defBody (top 36), defScope (top 36), [], []⟩, ⟨("common_of", none), "common_of", "common_of", defArgs (top 37), defBody (top 37), defScope (top 37), [], []⟩, ⟨("is_fraction", none), "is_fraction", "is_fraction", defArgs (top 38), defBody (top 38), defScope (top 38), [], []⟩, ⟨("is_code", none), "is_code", "is_code", defArgs (top 42), defBody (top 42), defScope (top 42), [], []⟩, ⟨("number_in", none), "number_in", "number_in", defArgs (top 48), defBody (top 48), defScope (top 48), [], []⟩, ⟨("whole_in", none), "whole_in", "whole_in", defArgs (top 49), defBody (top 49), defScope (top 49), [], []⟩, ⟨("fraction_in", none), "fraction_in", "fraction_in", defArgs (top 50), defBody (top 50), defScope (top 50), [], []⟩, ⟨("thing_in", none), "thing_in", "thing_in", defArgs (top 51), defBody (top 51), defScope (top 51), [], []⟩, ⟨("form_in", none), "form_in", "form_in", defArgs (top 52), defBody (top 52), defScope (top 52), [], []⟩, ⟨("read_fraction", none), "read_fraction", "read_fraction", defArgs (top 53), defBody (top 53), defScope (top 53), [], []⟩, ⟨("read_form", none), "read_form", "read_form", defArgs (top 54), defBody (top 54), defScope (top 54), [], []⟩, ⟨("_law_cell_at", none), "_law_cell_at", "_law_cell_at", defArgs (top 56), defBody (top 56), defScope (top 56), [], []⟩, ⟨("_law_state", none), "_law_state", "_law_state", defArgs (top 57), defBody (top 57), defScope (top 57), [], []⟩, ⟨("_law_choice", none), "_law_choice", "_law_choice", defArgs (top 58), defBody (top 58), defScope (top 58), [], []⟩, ⟨("_law_low", none), "_law_low", "_law_low", defArgs (top 59), defBody (top 59), defScope (top 59), [], []⟩, ⟨("_law_any", none), "_law_any", "_law_any", defArgs (top 60), defBody (top 60), defScope (top 60), [], []⟩, ⟨("_law_same", none), "_law_same", "_law_same", defArgs (top 61), defBody (top 61), defScope (top 61), [], []⟩, ⟨("_law_marks", none), "_law_marks", "_law_marks", defArgs (top 62), defBody (top 62), defScope (top 62), [], []⟩, ⟨("_law_word", none), "_law_word", "_law_word", defArgs (top 63), defBody (top 63), defScope (top 63), [], []⟩, ⟨("_law_said", none), "_law_said", "_law_said", defArgs (top 64), defBody (top 64), defScope (top 64), [], []⟩, ⟨("_law_signs", none), "_law_signs", "_law_signs", defArgs (top 65), defBody (top 65), defScope (top 65), [], []⟩, ⟨("_law_shape", none), "_law_shape", "_law_shape", defArgs (top 66), defBody (top 66), defScope (top 66), [], []⟩, ⟨("_law_fraction_text", none), "_law_fraction_text", "_law_fraction_text", defArgs (top 67), defBody (top 67), defScope (top 67), [], []⟩, ⟨("_law_form_text", none), "_law_form_text", "_law_form_text", defArgs (top 68), defBody (top 68), defScope (top 68), [], []⟩, ⟨("_law_number_in", none), "_law_number_in", "_law_number_in", defArgs (top 69), defBody (top 69), defScope (top 69), [], []⟩, ⟨("_law_fraction_in", none), "_law_fraction_in", "_law_fraction_in", defArgs (top 70), defBody (top 70), defScope (top 70), [], []⟩, ⟨("_law_is_small", none), "_law_is_small", "_law_is_small", defArgs (top 71), defBody (top 71), defScope (top 71), [], []⟩, ⟨("_law_thing_in", none), "_law_thing_in", "_law_thing_in", defArgs (top 72), defBody (top 72), defScope (top 72), [], []⟩, ⟨("_law_form_in", none), "_law_form_in", "_law_form_in", defArgs (top 73), defBody (top 73), defScope (top 73), [], []⟩]
def fn1 : List He.DefD := [⟨("_law_torn", none), "_law_torn", "_law_torn", defArgs (top 74), defBody (top 74), defScope (top 74), [], []⟩, ⟨("_law_due", none), "_law_due", "_law_due", defArgs (top 75), defBody (top 75), defScope (top 75), [], []⟩, ⟨("_law_right", none), "_law_right", "_law_right", defArgs (top 76), defBody (top 76), defScope (top 76), [], []⟩, ⟨("law", none), "law", "law", defArgs (top 77), defBody (top 77), defScope (top 77), [], []⟩]
def fn : List He.DefD := fn0 ++ fn1
def fa0 : List He.Fa := [.glo "is_whole", .glo "is_word", .glo "common_of", .glo "is_fraction", .glo "is_code", .glo "number_in", .glo "whole_in", .glo "fraction_in", .glo "thing_in", .glo "form_in", .glo "read_fraction", .glo "read_form", .glo "_law_cell_at", .glo "_law_state", .glo "_law_choice", .glo "_law_low", .glo "_law_any", .glo "_law_same", .glo "_law_marks", .glo "_law_word", .glo "_law_said", .glo "_law_signs", .glo "_law_shape", .glo "_law_fraction_text", .glo "_law_form_text", .glo "_law_number_in", .glo "_law_fraction_in", .glo "_law_is_small", .glo "_law_thing_in", .glo "_law_form_in"]
def fa1 : List He.Fa := [.glo "_law_torn", .glo "_law_due", .glo "_law_right", .glo "law", .exc "NoText", .glo "NoText", .glo "NoAtlas", .glo "NoChain", .glo "NoClosed", .glo "NoDay", .glo "NoDeed", .glo "NoDepth", .glo "NoForm", .glo "NoFrame", .glo "NoFrames", .glo "NoInstant", .glo "NoKind", .glo "NoLine", .glo "NoMap", .glo "NoMoves", .glo "NoName", .glo "NoNumber", .glo "NoPoint", .glo "NoPoints", .glo "NoRegion", .glo "NoRing", .glo "NoRoad", .glo "NoRows", .glo "NoSpot", .glo "NoStreet"]
def fa2 : List He.Fa := [.glo "NoTelling", .glo "NoTile", .glo "NoTiles", .glo "NoWeb", .glo "NoZones", .glo "NotThere", .glo "WhereError", .free "ValueError", .free "abs", .free "all", .free "bool", .free "int", .free "isinstance", .free "len", .free "max", .free "min", .free "range", .free "repr", .free "str", .free "tuple", .free "zip", .str "BAR" "/", .str "BARE" "-", .str "FIGURES_texts" "0123456789", .str "FIGURES_tiles" "0123", .int "MOST_DEPTH" 9, .str "SMALL" "abcdefghijklmnopqrstuvwxyz", .glo "SHAPES"]
def fa : List He.Fa := fa0 ++ fa1 ++ fa2
def tu0 : List (Str × List He.Dv) := []
def tu : List (Str × List He.Dv) := tu0
def dc : Dcs := [("SHAPES", [("point", .str "wff"), ("tile", .str "c"), ("spot", .str "nf"), ("address", .str "wn"), ("region", .str "w")])]
def clsN0 : List Str := ["WhereError", "NoPoint", "NoMap", "NoFrames", "NoFrame", "NoRing", "NoPoints", "NoTile", "NoDepth", "NoTiles", "NotThere", "NoWeb", "NoRoad", "NoSpot", "NoClosed", "NoRows", "NoStreet", "NoNumber", "NoDay", "NoMoves", "NoRegion", "NoInstant", "NoZones", "NoTelling", "NoAtlas", "NoForm", "NoKind", "NoChain", "NoName", "NoDeed"]
def clsN1 : List Str := ["NoText", "NoLine", "Book", "Desk"]
def clsN : List Str := clsN0 ++ clsN1
abbrev hk : PySem.W.Hook := He.hookX 4 fa fn (tsOf dc) tf (exB clsN [0, 1, 2, 3, 4, 5, 6, 7, 8, 9, 10, 11, 12, 13, 14, 15, 16, 17, 18, 19, 20, 21, 22, 23, 24, 25, 26, 27, 28, 29, 30, 31] tu dc tf)
def ob (s : PySem.W.SharedT) : He.AlX := He.obsX 4 fa fn (tsOf dc) tf (exB clsN [0, 1, 2, 3, 4, 5, 6, 7, 8, 9, 10, 11, 12, 13, 14, 15, 16, 17, 18, 19, 20, 21, 22, 23, 24, 25, 26, 27, 28, 29, 30, 31] tu dc tf) (HandSHeadRun.getT s)
theorem ob_eq (s : PySem.W.SharedT) : ob s = hk.obs s.abs := He.obsX_eq (HandSHeadRun.getT_eq s)
def lo0 : List Str := ["WhereError", "NoPoint", "NoMap", "NoFrames", "NoFrame", "NoRing", "NoPoints", "NoTile", "NoDepth", "NoTiles", "NotThere", "NoWeb", "NoRoad", "NoSpot", "NoClosed", "NoRows", "NoStreet", "NoNumber", "NoDay", "NoMoves", "NoRegion", "NoInstant", "NoZones", "NoTelling", "NoAtlas", "NoForm", "NoKind", "NoChain", "NoName", "NoDeed"]
def lo1 : List Str := ["NoText", "NoLine", "SMALL", "is_whole", "is_word", "common_of", "is_fraction", "FIGURES_tiles", "MOST_DEPTH", "is_code", "FIGURES_texts", "BAR", "BARE", "SHAPES", "number_in", "whole_in", "fraction_in", "thing_in", "form_in", "read_fraction", "read_form", "_law_cell_at", "_law_state", "_law_choice", "_law_low", "_law_any", "_law_same", "_law_marks", "_law_word", "_law_said"]
def lo2 : List Str := ["_law_signs", "_law_shape", "_law_fraction_text", "_law_form_text", "_law_number_in", "_law_fraction_in", "_law_is_small", "_law_thing_in", "_law_form_in", "_law_torn", "_law_due", "_law_right"]
def lo : List Str := lo0 ++ lo1 ++ lo2
theorem runF (w : World) : HandSHeadRun.RunEq Rw (PySem.W.view Rw.prog [77]) hk ob 20000 lo (w.withFollow "special-get-raises" false) := by intro os; kernel_rfl
theorem runT (w : World) : HandSHeadRun.RunEq Rw (PySem.W.view Rw.prog [77]) hk ob 20000 lo (w.withFollow "special-get-raises" true) := by intro os; kernel_rfl
theorem run (w : World) : HandSHeadRun.RunEq Rw (PySem.W.view Rw.prog [77]) hk ob 20000 lo w := PySem.W.byRow2 "special-get-raises" (P := fun w => HandSHeadRun.RunEq Rw (PySem.W.view Rw.prog [77]) hk ob 20000 lo w) runF runT w
def fnL : List (List Str) := [["is_whole", "", "is_word", "", "", "common_of", "", "is_fraction", "", "", "", "", "", "", "", "", "", "", "", ""], ["", "", "", "", "", "", "", "", "", "", "", "", "", "", "", "", "", "", "", ""], ["", "", "", "", "", "", "", "", "", "", "", "", "", "", "", "", "", "", "", ""], ["", "", "", "", "", "", "", "", "", "", "", "", "", "", "", "", "", "", "", ""], ["", "", "", "", "", "", "", "", "", "", "", "", "", "", "", "", "", "", "", ""], ["", "", "", "", "", "", "", "", "", "", "", "", "", "", "", "", "", "_law_cell_at", "_law_state", "_law_choice"], ["_law_low", "", "", "", "", "", "", "_law_any", "", "", "", "", "", "", "", "", "", "_law_same", "", ""], ["", "", "", "", "", "", "", "", "", "", "", "", "", "", "", "", "", "", "", ""], ["", "", "", "", "", "", "", "", "", "", "", "", "", "", "", "", "", "", "", ""], ["", "", "", "", "", "", "", "", "", "", "", "", "", "", "", "", "", "", "", ""], ["", "", "", "", "", "", "", "", "", "", "", "", "", "", "", "", "", "", "", ""], ["", "", "", "", "", "", "", "", "", "", "", "", "", "", "", "", "", "", "", ""], ["", "_law_marks", "_law_word", "_law_said", "_law_signs", "_law_shape", "_law_fraction_text", "_law_form_text", "", "", "", "is_code", "number_in", "whole_in", "fraction_in", "thing_in", "form_in", "read_fraction", "read_form", "_law_number_in"], ["_law_fraction_in", "_law_is_small", "_law_thing_in", "_law_form_in", "_law_torn", "_law_due", "_law_right", "law", "", "", "", "", "", "", "", "", "", "", "", ""]]
def fnN (i : Nat) : Str := (fnL.getD (i / 20) []).getD (i % 20) ""
def wl (K : PySem.W.Frag) : Wl := ⟨K, fun i => He.ga K (fnN i), fun i => He.ga K (clsN.getD i ""), fun _ => "", tabsOf tf K, none⟩
theorem fx {K : PySem.W.Frag} {h : Heap} {w : World} {mg : Str → Option Value} (c : He.SaysX fa fn (tsOf dc) tf (exB clsN [0, 1, 2, 3, 4, 5, 6, 7, 8, 9, 10, 11, 12, 13, 14, 15, 16, 17, 18, 19, 20, 21, 22, 23, 24, 25, 26, 27, 28, 29, 30, 31] tu dc tf) w h K) (I : K.In h) (G : h.Ns mainGlobals mg) : Fx (wl K) w mg where
  b_ValueError := He.free_ok I G (He.SaysD.fact (sx_d c) 67)
  b_abs := He.free_ok I G (He.SaysD.fact (sx_d c) 68)
  b_all := He.free_ok I G (He.SaysD.fact (sx_d c) 69)
  b_bool := He.free_ok I G (He.SaysD.fact (sx_d c) 70)
  b_int := He.free_ok I G (He.SaysD.fact (sx_d c) 71)
  b_isinstance := He.free_ok I G (He.SaysD.fact (sx_d c) 72)
  b_len := He.free_ok I G (He.SaysD.fact (sx_d c) 73)
  b_max := He.free_ok I G (He.SaysD.fact (sx_d c) 74)
  b_min := He.free_ok I G (He.SaysD.fact (sx_d c) 75)
  b_range := He.free_ok I G (He.SaysD.fact (sx_d c) 76)
  b_repr := He.free_ok I G (He.SaysD.fact (sx_d c) 77)
  b_str := He.free_ok I G (He.SaysD.fact (sx_d c) 78)
  b_tuple := He.free_ok I G (He.SaysD.fact (sx_d c) 79)
  b_zip := He.free_ok I G (He.SaysD.fact (sx_d c) 80)
  g_BAR := gc_str (He.str_ok I G (He.SaysD.fact (sx_d c) 81)) (by decide +kernel) (by decide +kernel)
  g_BARE := gc_str (He.str_ok I G (He.SaysD.fact (sx_d c) 82)) (by decide +kernel) (by decide +kernel)
  g_FIGURES_texts := gc_str (He.str_ok I G (He.SaysD.fact (sx_d c) 83)) (by decide +kernel) (by decide +kernel)
  g_FIGURES_tiles := gc_str (He.str_ok I G (He.SaysD.fact (sx_d c) 84)) (by decide +kernel) (by decide +kernel)
  g_MOST_DEPTH := gc_int (He.int_ok I G (He.SaysD.fact (sx_d c) 85))
  g_SMALL := gc_str (He.str_ok I G (He.SaysD.fact (sx_d c) 86)) (by decide +kernel) (by decide +kernel)
  x_NoText := let z := He.exc_ok (He.SaysD.fact (sx_d c) 34); ⟨⟨_, _, _, _, PySem.F.excBase_ValueError, z.1⟩, He.glo_ok I G (He.SaysD.fact (sx_d c) 35), z.2.1, z.2.2.1, z.2.2.2⟩
  d_SHAPES := gd_at (W := wl K) (L := [("point", .str "wff", .str [119, 102, 102]), ("tile", .str "c", .str [99]), ("spot", .str "nf", .str [110, 102]), ("address", .str "wn", .str [119, 110]), ("region", .str "w", .str [119])]) (He.glo_ok I G (He.SaysD.fact (sx_d c) 87)) (sx_dic c 0 (t := ("SHAPES", [("point", .str "wff"), ("tile", .str "c"), ("spot", .str "nf"), ("address", .str "wn"), ("region", .str "w")]))) (sx_val c 0 (t := ("SHAPES", [("point", .str "wff"), ("tile", .str "c"), ("spot", .str "nf"), ("address", .str "wn"), ("region", .str "w")]))) (by
      intro t ht
      rcases List.mem_cons.mp ht with rfl | ht
      · intro _ _; exact .str rfl (by decide +kernel)
      rcases List.mem_cons.mp ht with rfl | ht
      · intro _ _; exact .str rfl (by decide +kernel)
      rcases List.mem_cons.mp ht with rfl | ht
      · intro _ _; exact .str rfl (by decide +kernel)
      rcases List.mem_cons.mp ht with rfl | ht
      · intro _ _; exact .str rfl (by decide +kernel)
      rcases List.mem_cons.mp ht with rfl | ht
      · intro _ _; exact .str rfl (by decide +kernel)
      cases ht)
  k_NoAtlas := He.glo_ok I G (He.SaysD.fact (sx_d c) 36)
  k_NoChain := He.glo_ok I G (He.SaysD.fact (sx_d c) 37)
  k_NoClosed := He.glo_ok I G (He.SaysD.fact (sx_d c) 38)
  k_NoDay := He.glo_ok I G (He.SaysD.fact (sx_d c) 39)
  k_NoDeed := He.glo_ok I G (He.SaysD.fact (sx_d c) 40)
  k_NoDepth := He.glo_ok I G (He.SaysD.fact (sx_d c) 41)
  k_NoForm := He.glo_ok I G (He.SaysD.fact (sx_d c) 42)
  k_NoFrame := He.glo_ok I G (He.SaysD.fact (sx_d c) 43)
  k_NoFrames := He.glo_ok I G (He.SaysD.fact (sx_d c) 44)
  k_NoInstant := He.glo_ok I G (He.SaysD.fact (sx_d c) 45)
  k_NoKind := He.glo_ok I G (He.SaysD.fact (sx_d c) 46)
  k_NoLine := He.glo_ok I G (He.SaysD.fact (sx_d c) 47)
  k_NoMap := He.glo_ok I G (He.SaysD.fact (sx_d c) 48)
  k_NoMoves := He.glo_ok I G (He.SaysD.fact (sx_d c) 49)
  k_NoName := He.glo_ok I G (He.SaysD.fact (sx_d c) 50)
  k_NoNumber := He.glo_ok I G (He.SaysD.fact (sx_d c) 51)
  k_NoPoint := He.glo_ok I G (He.SaysD.fact (sx_d c) 52)
  k_NoPoints := He.glo_ok I G (He.SaysD.fact (sx_d c) 53)
  k_NoRegion := He.glo_ok I G (He.SaysD.fact (sx_d c) 54)
  k_NoRing := He.glo_ok I G (He.SaysD.fact (sx_d c) 55)
  k_NoRoad := He.glo_ok I G (He.SaysD.fact (sx_d c) 56)
  k_NoRows := He.glo_ok I G (He.SaysD.fact (sx_d c) 57)
  k_NoSpot := He.glo_ok I G (He.SaysD.fact (sx_d c) 58)
  k_NoStreet := He.glo_ok I G (He.SaysD.fact (sx_d c) 59)
  k_NoTelling := He.glo_ok I G (He.SaysD.fact (sx_d c) 60)
  k_NoText := He.glo_ok I G (He.SaysD.fact (sx_d c) 35)
  k_NoTile := He.glo_ok I G (He.SaysD.fact (sx_d c) 61)
  k_NoTiles := He.glo_ok I G (He.SaysD.fact (sx_d c) 62)
  k_NoWeb := He.glo_ok I G (He.SaysD.fact (sx_d c) 63)
  k_NoZones := He.glo_ok I G (He.SaysD.fact (sx_d c) 64)
  k_NotThere := He.glo_ok I G (He.SaysD.fact (sx_d c) 65)
  k_WhereError := He.glo_ok I G (He.SaysD.fact (sx_d c) 66)
  xcl := xcl_of (fun _ => rfl) (sx_cls c)
  dummy := trivial
theorem fds {K : PySem.W.Frag} {h : Heap} {w : World} {mg : Str → Option Value} (c : He.SaysX fa fn (tsOf dc) tf (exB clsN [0, 1, 2, 3, 4, 5, 6, 7, 8, 9, 10, 11, 12, 13, 14, 15, 16, 17, 18, 19, 20, 21, 22, 23, 24, 25, 26, 27, 28, 29, 30, 31] tu dc tf) w h K) (I : K.In h) (G : h.Ns mainGlobals mg) : Fds (wl K) mg where
  f_0 := (sx_d c).def_ 0 (d := ⟨("is_whole", none), "is_whole", "is_whole", defArgs (top 35), defBody (top 35), defScope (top 35), [], []⟩) rfl
  m_0 := He.glo_ok I G (He.SaysD.fact (sx_d c) 0)
  f_2 := (sx_d c).def_ 1 (d := ⟨("is_word", none), "is_word", "is_word", defArgs (top 36), defBody (top 36), defScope (top 36), [], []⟩) rfl
  m_2 := He.glo_ok I G (He.SaysD.fact (sx_d c) 1)
  f_5 := (sx_d c).def_ 2 (d := ⟨("common_of", none), "common_of", "common_of", defArgs (top 37), defBody (top 37), defScope (top 37), [], []⟩) rfl
  m_5 := He.glo_ok I G (He.SaysD.fact (sx_d c) 2)
  f_7 := (sx_d c).def_ 3 (d := ⟨("is_fraction", none), "is_fraction", "is_fraction", defArgs (top 38), defBody (top 38), defScope (top 38), [], []⟩) rfl
  m_7 := He.glo_ok I G (He.SaysD.fact (sx_d c) 3)
  f_251 := (sx_d c).def_ 4 (d := ⟨("is_code", none), "is_code", "is_code", defArgs (top 42), defBody (top 42), defScope (top 42), [], []⟩) rfl
  m_251 := He.glo_ok I G (He.SaysD.fact (sx_d c) 4)
  f_252 := (sx_d c).def_ 5 (d := ⟨("number_in", none), "number_in", "number_in", defArgs (top 48), defBody (top 48), defScope (top 48), [], []⟩) rfl
  m_252 := He.glo_ok I G (He.SaysD.fact (sx_d c) 5)
  f_253 := (sx_d c).def_ 6 (d := ⟨("whole_in", none), "whole_in", "whole_in", defArgs (top 49), defBody (top 49), defScope (top 49), [], []⟩) rfl
  m_253 := He.glo_ok I G (He.SaysD.fact (sx_d c) 6)
  f_254 := (sx_d c).def_ 7 (d := ⟨("fraction_in", none), "fraction_in", "fraction_in", defArgs (top 50), defBody (top 50), defScope (top 50), [], []⟩) rfl
  m_254 := He.glo_ok I G (He.SaysD.fact (sx_d c) 7)
  f_255 := (sx_d c).def_ 8 (d := ⟨("thing_in", none), "thing_in", "thing_in", defArgs (top 51), defBody (top 51), defScope (top 51), [], []⟩) rfl
  m_255 := He.glo_ok I G (He.SaysD.fact (sx_d c) 8)
  f_256 := (sx_d c).def_ 9 (d := ⟨("form_in", none), "form_in", "form_in", defArgs (top 52), defBody (top 52), defScope (top 52), [], []⟩) rfl
  m_256 := He.glo_ok I G (He.SaysD.fact (sx_d c) 9)
  f_257 := (sx_d c).def_ 10 (d := ⟨("read_fraction", none), "read_fraction", "read_fraction", defArgs (top 53), defBody (top 53), defScope (top 53), [], []⟩) rfl
  m_257 := He.glo_ok I G (He.SaysD.fact (sx_d c) 10)
  f_258 := (sx_d c).def_ 11 (d := ⟨("read_form", none), "read_form", "read_form", defArgs (top 54), defBody (top 54), defScope (top 54), [], []⟩) rfl
  m_258 := He.glo_ok I G (He.SaysD.fact (sx_d c) 11)
  f_117 := (sx_d c).def_ 12 (d := ⟨("_law_cell_at", none), "_law_cell_at", "_law_cell_at", defArgs (top 56), defBody (top 56), defScope (top 56), [], []⟩) rfl
  m_117 := He.glo_ok I G (He.SaysD.fact (sx_d c) 12)
  f_118 := (sx_d c).def_ 13 (d := ⟨("_law_state", none), "_law_state", "_law_state", defArgs (top 57), defBody (top 57), defScope (top 57), [], []⟩) rfl
  m_118 := He.glo_ok I G (He.SaysD.fact (sx_d c) 13)
  f_119 := (sx_d c).def_ 14 (d := ⟨("_law_choice", none), "_law_choice", "_law_choice", defArgs (top 58), defBody (top 58), defScope (top 58), [], []⟩) rfl
  m_119 := He.glo_ok I G (He.SaysD.fact (sx_d c) 14)
  f_120 := (sx_d c).def_ 15 (d := ⟨("_law_low", none), "_law_low", "_law_low", defArgs (top 59), defBody (top 59), defScope (top 59), [], []⟩) rfl
  m_120 := He.glo_ok I G (He.SaysD.fact (sx_d c) 15)
  f_127 := (sx_d c).def_ 16 (d := ⟨("_law_any", none), "_law_any", "_law_any", defArgs (top 60), defBody (top 60), defScope (top 60), [], []⟩) rfl
  m_127 := He.glo_ok I G (He.SaysD.fact (sx_d c) 16)
  f_137 := (sx_d c).def_ 17 (d := ⟨("_law_same", none), "_law_same", "_law_same", defArgs (top 61), defBody (top 61), defScope (top 61), [], []⟩) rfl
  m_137 := He.glo_ok I G (He.SaysD.fact (sx_d c) 17)
  f_241 := (sx_d c).def_ 18 (d := ⟨("_law_marks", none), "_law_marks", "_law_marks", defArgs (top 62), defBody (top 62), defScope (top 62), [], []⟩) rfl
  m_241 := He.glo_ok I G (He.SaysD.fact (sx_d c) 18)
  f_242 := (sx_d c).def_ 19 (d := ⟨("_law_word", none), "_law_word", "_law_word", defArgs (top 63), defBody (top 63), defScope (top 63), [], []⟩) rfl
  m_242 := He.glo_ok I G (He.SaysD.fact (sx_d c) 19)
  f_243 := (sx_d c).def_ 20 (d := ⟨("_law_said", none), "_law_said", "_law_said", defArgs (top 64), defBody (top 64), defScope (top 64), [], []⟩) rfl
  m_243 := He.glo_ok I G (He.SaysD.fact (sx_d c) 20)
  f_244 := (sx_d c).def_ 21 (d := ⟨("_law_signs", none), "_law_signs", "_law_signs", defArgs (top 65), defBody (top 65), defScope (top 65), [], []⟩) rfl
  m_244 := He.glo_ok I G (He.SaysD.fact (sx_d c) 21)
  f_245 := (sx_d c).def_ 22 (d := ⟨("_law_shape", none), "_law_shape", "_law_shape", defArgs (top 66), defBody (top 66), defScope (top 66), [], []⟩) rfl
  m_245 := He.glo_ok I G (He.SaysD.fact (sx_d c) 22)
  f_246 := (sx_d c).def_ 23 (d := ⟨("_law_fraction_text", none), "_law_fraction_text", "_law_fraction_text", defArgs (top 67), defBody (top 67), defScope (top 67), [], []⟩) rfl
  m_246 := He.glo_ok I G (He.SaysD.fact (sx_d c) 23)
  f_247 := (sx_d c).def_ 24 (d := ⟨("_law_form_text", none), "_law_form_text", "_law_form_text", defArgs (top 68), defBody (top 68), defScope (top 68), [], []⟩) rfl
  m_247 := He.glo_ok I G (He.SaysD.fact (sx_d c) 24)
  f_259 := (sx_d c).def_ 25 (d := ⟨("_law_number_in", none), "_law_number_in", "_law_number_in", defArgs (top 69), defBody (top 69), defScope (top 69), [], []⟩) rfl
  m_259 := He.glo_ok I G (He.SaysD.fact (sx_d c) 25)
  f_260 := (sx_d c).def_ 26 (d := ⟨("_law_fraction_in", none), "_law_fraction_in", "_law_fraction_in", defArgs (top 70), defBody (top 70), defScope (top 70), [], []⟩) rfl
  m_260 := He.glo_ok I G (He.SaysD.fact (sx_d c) 26)
  f_261 := (sx_d c).def_ 27 (d := ⟨("_law_is_small", none), "_law_is_small", "_law_is_small", defArgs (top 71), defBody (top 71), defScope (top 71), [], []⟩) rfl
  m_261 := He.glo_ok I G (He.SaysD.fact (sx_d c) 27)
  f_262 := (sx_d c).def_ 28 (d := ⟨("_law_thing_in", none), "_law_thing_in", "_law_thing_in", defArgs (top 72), defBody (top 72), defScope (top 72), [], []⟩) rfl
  m_262 := He.glo_ok I G (He.SaysD.fact (sx_d c) 28)
  f_263 := (sx_d c).def_ 29 (d := ⟨("_law_form_in", none), "_law_form_in", "_law_form_in", defArgs (top 73), defBody (top 73), defScope (top 73), [], []⟩) rfl
  m_263 := He.glo_ok I G (He.SaysD.fact (sx_d c) 29)
  f_264 := (sx_d c).def_ 30 (d := ⟨("_law_torn", none), "_law_torn", "_law_torn", defArgs (top 74), defBody (top 74), defScope (top 74), [], []⟩) rfl
  m_264 := He.glo_ok I G (He.SaysD.fact (sx_d c) 30)
  f_265 := (sx_d c).def_ 31 (d := ⟨("_law_due", none), "_law_due", "_law_due", defArgs (top 75), defBody (top 75), defScope (top 75), [], []⟩) rfl
  m_265 := He.glo_ok I G (He.SaysD.fact (sx_d c) 31)
  f_266 := (sx_d c).def_ 32 (d := ⟨("_law_right", none), "_law_right", "_law_right", defArgs (top 76), defBody (top 76), defScope (top 76), [], []⟩) rfl
  m_266 := He.glo_ok I G (He.SaysD.fact (sx_d c) 32)
  f_267 := (sx_d c).def_ 33 (d := ⟨("law", none), "law", "law", defArgs (top 77), defBody (top 77), defScope (top 77), [], []⟩) rfl
  m_267 := He.glo_ok I G (He.SaysD.fact (sx_d c) 33)
theorem fads {K : PySem.W.Frag} : Fad (wl K) where
  dummy := trivial
  f_266 := rfl
def lawF : List D → M D := (glo Pg 40).fn 267
abbrev q0 : Program := PySem.W.view Rw.prog [77]
theorem ht1 : PySem.W.opening Rw.prog = PySem.W.plainProg Rw.prog.main.scope.names := by kernel_rfl
open PySem.W PySem.Calls in
theorem ht2 : ∀ s, fenceModules? Rw.prog s = some s := fun s => by kernel_rfl
def d0 : DefRec := HandSHeadRun.topDef Rw.prog 77
theorem ht3 : PySem.W.defOf q0 Rw.name = some (d0, []) := by kernel_rfl
theorem ht4 : Rw.prog.theDef Rw.name = some (d0.params, d0.body, d0.scope) := by kernel_rfl
open PySem.W PySem.Calls in
theorem ht5 : kwWritten? d0.params.kwonlyargs d0.params.kw_defaults = some [] := by kernel_rfl
theorem ht6 : (!Rw.writes || Rw.records.isEmpty) = true := by rfl
theorem ht7 : Rw.wellSaid = true := by decide +kernel
theorem ht8 : (PySem.W.chainsOk q0 && PySem.W.opensWell Rw.prog && (PySem.W.frees Rw.toRowW && Rw.within.isEmpty)) = true := by decide +kernel
theorem ht9 : Rw.prog.bare := ⟨rfl, rfl, rfl, rfl, rfl, by decide +kernel⟩
open PySem.W PySem.Calls in
theorem ht10 : Rw.toRowW.promised := by w_witness2
theorem ht11 : d0.name = ("law" : Str) := by kernel_rfl
theorem ht12 : d0.params.defaults = [] := by kernel_rfl
theorem says_law {P : Program} {w : World} {W : Wl} {mg : Str → Option Value} {base : Heap} {fd : FuncData} (L : Lev P w W mg base 40) (Q : FunD W.K "law" "law" (defArgs st_267) (defBody st_267) (defScope st_267) [] [] (W.fad 267) fd) : FnG true P w W.K mg base 120 (W.fad 267) fd ["_law_script"] (spF W 1 lawF) := fnG_any (L.l_267 fd Q)
theorem hcall (hsay : ∀ ns : List Int, ns.length ≤ 63 → (∀ z ∈ ns, Builtin.Int.intBits z ≤ 1048576) → ∃ S', lawF [.scr ns] [] = .ok (.bl true) S') : PySem.W.WalkO q0 lo (PySem.W.XL q0 []) hk.says Rw.toRowW d0 [] fun f vs => PySem.call f vs := by
  refine walkX (l := PySem.Challenge.rw_onewhere_k75_texts_read) (n := 63) (lv := 120) (x := "_law_script") rfl (by decide) ht12 ⟨rfl, by decide, by decide⟩ fun w mg fa h Y G hm0 => ?_
  obtain ⟨K, KX, c⟩ := Y
  have hmg : mg ("law" : PySem.Str) = some (.ref fa) := by rw [← ht11]; exact hm0
  have Fd := fds c KX G
  obtain ⟨fd, FD⟩ := Fd.f_267
  have e : fa = (wl K).fad 267 := Value.ref.inj (Option.some.inj (hmg.symm.trans Fd.m_267))
  refine ⟨wl K, fd, lawF, tf.map (He.cT K), KX, fun p hp => ?_, fun p hp => ?_, fun p hp => ?_, fun t ht => ?_, fun s u => FD.bindsA (ps := ["_law_script"]) (fun _ _ _ _ _ _ us hl => match us, hl with | [_], _ => rfl) s [u] rfl, hsay, fun base kb nb tb => ?_⟩
  · obtain ⟨q, hq, rfl⟩ := List.mem_map.mp hp
    exact c.empty q hq
  · obtain ⟨q, hq, rfl⟩ := List.mem_map.mp hp
    exact c.out q hq
  · obtain ⟨q, hq, rfl⟩ := List.mem_map.mp hp
    exact PySem.W.codeHd_of_K KX (c.hd q hq)
  · obtain ⟨q, hq, rfl⟩ := List.mem_map.mp ht
    rw [List.map_map]
    exact List.mem_map.mpr ⟨q, hq, rfl⟩
  · have L := lev (P := (PySem.Challenge.rw_onewhere_k75_texts_read).prog) (w := w) (base := base) (fx c KX G) Fd ⟨rfl, fun p hp => tb _ (List.mem_map.mpr ⟨p, hp, rfl⟩), sx_uni c⟩ fads 40
    rw [e]
    exact says_law L FD
open PySem.W PySem.Calls in
theorem holds_of (hsay : ∀ ns : List Int, ns.length ≤ 63 → (∀ z ∈ ns, Builtin.Int.intBits z ≤ 1048576) → ∃ S', lawF [.scr ns] [] = .ok (.bl true) S') : PySem.W.OpenRow.Holds Rw := HandSHeadRun.head_any (H := hk) (ob := ob) ob_eq ht1 ht2 run ht3 ht4 ht5 ht6 ht7 ht8 ht9 ht10 (hcall hsay)
open PySem.W PySem.Calls in
theorem law_holds (hsay : ∀ ns : List Int, ns.length ≤ 63 → (∀ z ∈ ns, Builtin.Int.intBits z ≤ 1048576) → ∃ S', lawF [.scr ns] [] = .ok (.bl true) S') : PySem.Challenge.rw_onewhere_k75_texts_read.Holds := by
  w_on; o_law
  exact holds_of hsay
end PZ
end
section
/-! Wp: what holds behind a run of the evaluator. -/
set_option linter.all false
set_option maxRecDepth 100000
set_option Elab.async false
namespace PZ
/-- behind a result: Q of a value, E of an exception -/
def W {α : Type} (r : R α) (Q : α → Sto → Prop) (E : Nat → Sto → Prop) : Prop := match r with
  | .ok a s => Q a s
  | .exc c s => E c s
  | .bad => False
abbrev noE : Nat → Sto → Prop := fun _ _ => False
section
variable {α β : Type} {G : Glo} {ρ : Env} {s : Sto} {E : Nat → Sto → Prop}
@[simp] theorem W_ok {a : α} {Q : α → Sto → Prop} : W (.ok a s) Q E ↔ Q a s := Iff.rfl
@[simp] theorem W_exc {c : Nat} {Q : α → Sto → Prop} : W (.exc c s) Q E ↔ E c s := Iff.rfl
@[simp] theorem W_bad {Q : α → Sto → Prop} : W (.bad) Q E ↔ False := Iff.rfl
@[simp] theorem W_bind {r : R α} {k : α → M β} {Q : β → Sto → Prop} : W (r.bind k) Q E ↔ W r (fun a s => W (k a s) Q E) E := by cases r <;> rfl
@[simp] theorem W_mbind {m : M α} {k : α → M β} {Q : β → Sto → Prop} : W ((m.bind k) s) Q E ↔ W (m s) (fun a s => W (k a s) Q E) E := W_bind
@[simp] theorem W_ret {a : α} {Q : α → Sto → Prop} : W ((M.ret a : M α) s) Q E ↔ Q a s := Iff.rfl
@[simp] theorem W_mbad {Q : α → Sto → Prop} : W ((M.bad : M α) s) Q E ↔ False := Iff.rfl
@[simp] theorem W_some {a : α} {Q : α → Sto → Prop} : W (M.opt (some a) s) Q E ↔ Q a s := Iff.rfl
@[simp] theorem W_none {Q : α → Sto → Prop} : W (M.opt (none : Option α) s) Q E ↔ False := Iff.rfl
theorem W.mono {r : R α} {Q Q' : α → Sto → Prop} {E E' : Nat → Sto → Prop} (h : W r Q E) (f : ∀ a s, Q a s → Q' a s) (g : ∀ c s, E c s → E' c s) : W r Q' E' := by
  cases r with
  | ok a s => exact f a s h
  | exc c s => exact g c s h
  | bad => exact h
theorem W.imp {r : R α} {Q Q' : α → Sto → Prop} (h : W r Q E) (f : ∀ a s, Q a s → Q' a s) : W r Q' E := h.mono f fun _ _ z => z
theorem W.of {r : R α} {Q Q' : α → Sto → Prop} (h : W r Q noE) (f : ∀ a s, Q a s → Q' a s) : W r Q' E := h.mono f fun _ _ z => z.elim
theorem W.eq {r : R α} {Q : α → Sto → Prop} (h : W r Q noE) : ∃ a s, r = .ok a s ∧ Q a s := by
  cases r with
  | ok a s => exact ⟨a, s, rfl, h⟩
  | exc c s => exact h.elim
  | bad => exact h.elim
@[simp] theorem W_bl {m : M D} {Q : Bool → Sto → Prop} : W (m.bl s) Q E ↔ W (m s) (fun d s => ∃ b, d = .bl b ∧ Q b s) E := by
  show W ((m s).bind fun d => M.opt (isBl d)) Q E ↔ _
  rw [W_bind]
  constructor
  · refine fun h => h.imp fun d s z => ?_
    cases d <;> first | exact (show False from z).elim | exact ⟨_, rfl, z⟩
  · refine fun h => h.imp fun d s z => ?_
    obtain ⟨b, rfl, z⟩ := z
    exact z
@[simp] theorem W_calm {r : R α} {Q : α → Sto → Prop} : W r.calm Q E ↔ W r Q noE := by cases r <;> rfl
/-! ### expressions -/
variable {Q : D → Sto → Prop} {a b c e o : CE} {es : CEs}
@[simp] theorem W_c {d : D} : W (ev G (.c d) ρ s) Q E ↔ Q d s := Iff.rfl
@[simp] theorem W_v {i : Nat} : W (ev G (.v i) ρ s) Q E ↔ W (M.opt (ρ[i]?).join s) Q E := Iff.rfl
@[simp] theorem W_op {q : Op} : W (ev G (.op q a b) ρ s) Q E ↔ W (ev G a ρ s) (fun x s => W (ev G b ρ s) (fun y s => W (opM q x y s) Q E) E) E := by
  show W ((ev G a ρ s).bind fun x => (ev G b ρ).bind fun y => opM q x y) Q E ↔ _
  simp only [W_bind, W_mbind]
@[simp] theorem W_neg : W (ev G (.neg a) ρ s) Q E ↔ W (ev G a ρ s) (fun x s => W (M.opt ((intD x).map fun i => .int (-i)) s) Q E) E := by
  show W ((ev G a ρ s).bind fun x => M.opt ((intD x).map fun i => .int (-i))) Q E ↔ _
  simp only [W_bind]
@[simp] theorem W_not : W (ev G (.not a) ρ s) Q E ↔ W (ev G a ρ s) (fun x s => ∃ b, x = .bl b ∧ Q (.bl !b) s) E := by
  show W (((ev G a ρ).bl s).bind fun b => M.ret (.bl !b)) Q E ↔ _
  simp only [W_bind, W_bl, W_ret]
@[simp] theorem W_and : W (ev G (.and a b) ρ s) Q E ↔ W (ev G a ρ s) (fun x s => ∃ k, x = .bl k ∧ (k = true → W (ev G b ρ s) Q E) ∧ (k = false → Q (.bl false) s)) E := by
  show W (((ev G a ρ).bl s).bind fun k => match k with | true => ev G b ρ | false => M.ret (.bl false)) Q E ↔ _
  rw [W_bind, W_bl]
  constructor
  · refine fun h => h.imp fun d s z => ?_
    obtain ⟨k, rfl, z⟩ := z
    cases k
    · exact ⟨_, rfl, (fun q => nomatch q), fun _ => z⟩
    · exact ⟨_, rfl, (fun _ => z), fun q => nomatch q⟩
  · refine fun h => h.imp fun d s z => ?_
    obtain ⟨k, rfl, z1, z2⟩ := z
    cases k
    · exact ⟨_, rfl, z2 rfl⟩
    · exact ⟨_, rfl, z1 rfl⟩
@[simp] theorem W_or : W (ev G (.or a b) ρ s) Q E ↔ W (ev G a ρ s) (fun x s => ∃ k, x = .bl k ∧ (k = true → Q (.bl true) s) ∧ (k = false → W (ev G b ρ s) Q E)) E := by
  show W (((ev G a ρ).bl s).bind fun k => match k with | true => M.ret (.bl true) | false => ev G b ρ) Q E ↔ _
  rw [W_bind, W_bl]
  constructor
  · refine fun h => h.imp fun d s z => ?_
    obtain ⟨k, rfl, z⟩ := z
    cases k
    · exact ⟨_, rfl, (fun q => nomatch q), fun _ => z⟩
    · exact ⟨_, rfl, (fun _ => z), fun q => nomatch q⟩
  · refine fun h => h.imp fun d s z => ?_
    obtain ⟨k, rfl, z1, z2⟩ := z
    cases k
    · exact ⟨_, rfl, z2 rfl⟩
    · exact ⟨_, rfl, z1 rfl⟩
@[simp] theorem W_ite : W (ev G (.ite c a b) ρ s) Q E ↔ W (ev G c ρ s) (fun x s => ∃ k, x = .bl k ∧ (k = true → W (ev G a ρ s) Q E) ∧ (k = false → W (ev G b ρ s) Q E)) E := by
  show W (((ev G c ρ).bl s).bind fun k => match k with | true => ev G a ρ | false => ev G b ρ) Q E ↔ _
  rw [W_bind, W_bl]
  constructor
  · refine fun h => h.imp fun d s z => ?_
    obtain ⟨k, rfl, z⟩ := z
    cases k
    · exact ⟨_, rfl, (fun q => nomatch q), fun _ => z⟩
    · exact ⟨_, rfl, (fun _ => z), fun q => nomatch q⟩
  · refine fun h => h.imp fun d s z => ?_
    obtain ⟨k, rfl, z1, z2⟩ := z
    cases k
    · exact ⟨_, rfl, z2 rfl⟩
    · exact ⟨_, rfl, z1 rfl⟩
@[simp] theorem W_ch {q q2 : Op} : W (ev G (.ch q q2 a b c) ρ s) Q E ↔ W (ev G a ρ s) (fun x s => W (ev G b ρ s) (fun y s => W (opM q x y s) (fun z s => ∃ k, z = .bl k ∧ (k = true → W (ev G c ρ s) (fun z s => W (opM q2 y z s) Q E) E) ∧ (k = false → Q (.bl false) s)) E) E) E := by
  show W ((ev G a ρ s).bind fun x => (ev G b ρ).bind fun y => (opM q x y).bl.bind fun k => match k with | true => (ev G c ρ).bind fun z => opM q2 y z | false => M.ret (.bl false)) Q E ↔ _
  simp only [W_bind, W_mbind, W_bl]
  constructor
  · refine fun h => h.imp fun x s h => h.imp fun y s h => h.imp fun d s z => ?_
    obtain ⟨k, rfl, z⟩ := z
    cases k
    · exact ⟨_, rfl, (fun q => nomatch q), fun _ => z⟩
    · exact ⟨_, rfl, (fun _ => W_mbind.mp z), fun q => nomatch q⟩
  · refine fun h => h.imp fun x s h => h.imp fun y s h => h.imp fun d s z => ?_
    obtain ⟨k, rfl, z1, z2⟩ := z
    cases k
    · exact ⟨_, rfl, z2 rfl⟩
    · exact ⟨_, rfl, W_mbind.mpr (z1 rfl)⟩
@[simp] theorem W_tup : W (ev G (.tup es) ρ s) Q E ↔ W (evs G es ρ s) (fun xs s => Q (.tup xs) s) E := by
  show W ((evs G es ρ s).bind fun xs => M.ret (.tup xs)) Q E ↔ _
  simp only [W_bind, W_ret]
@[simp] theorem W_lst : W (ev G (.lst es) ρ s) Q E ↔ W (evs G es ρ s) (fun xs s => Q (.lst xs) s) E := by
  show W ((evs G es ρ s).bind fun xs => M.ret (.lst xs)) Q E ↔ _
  simp only [W_bind, W_ret]
@[simp] theorem W_ktup : W (ev G (.ktup es) ρ s) Q E ↔ W (evs G es ρ s) (fun xs s => Q (.kt xs) s) E := by
  show W ((evs G es ρ s).bind fun xs => M.ret (.kt xs)) Q E ↔ _
  simp only [W_bind, W_ret]
@[simp] theorem W_new : W (ev G (.new e) ρ s) Q E ↔ W (ev G e ρ s) (fun x s => ∃ l, x = .lst l ∧ Q (.ref s.length) (s ++ [.lst l])) E := by
  show W ((ev G e ρ s).bind fun x => match x with | .lst l => fun s => .ok (.ref s.length) (s ++ [.lst l]) | _ => M.bad) Q E ↔ _
  rw [W_bind]
  constructor
  · refine fun h => h.imp fun d s z => ?_
    cases d <;> first | exact (show False from z).elim | exact ⟨_, rfl, z⟩
  · refine fun h => h.imp fun d s z => ?_
    obtain ⟨l, rfl, z⟩ := z
    exact z
@[simp] theorem W_bi {q : Bi} : W (ev G (.bi q es) ρ s) Q E ↔ W (evs G es ρ s) (fun xs s => W (biM q xs s) Q E) E := by
  show W ((evs G es ρ s).bind fun xs => biM q xs) Q E ↔ _
  simp only [W_bind]
@[simp] theorem W_me {q : Me} : W (ev G (.me q o es) ρ s) Q E ↔ W (ev G o ρ s) (fun x s => W (meTy q x s) (fun _ s => W (evs G es ρ s) (fun xs s => W (meM q x xs s) Q E) E) E) E := by
  show W ((ev G o ρ s).bind fun x => (meTy q x).bind fun _ => (evs G es ρ).bind fun xs => meM q x xs) Q E ↔ _
  simp only [W_bind, W_mbind]
@[simp] theorem W_sl : W (ev G (.sl e a b) ρ s) Q E ↔ W (ev G e ρ s) (fun x s => W (ev G a ρ s) (fun i s => W (M.opt (intD i) s) (fun i s => W (ev G b ρ s) (fun j s => W (M.opt (intD j) s) (fun j s => W (M.opt (sliceD (rd s x) (some i) (some j)) s) Q E) E) E) E) E) E := by
  show W ((ev G e ρ s).bind fun x => (ev G a ρ).bind fun i => (M.opt (intD i)).bind fun i => (ev G b ρ).bind fun j => (M.opt (intD j)).bind fun j => fun s => M.opt (sliceD (rd s x) (some i) (some j)) s) Q E ↔ _
  simp only [W_bind, W_mbind]
@[simp] theorem W_slLo : W (ev G (.slLo e a) ρ s) Q E ↔ W (ev G e ρ s) (fun x s => W (ev G a ρ s) (fun i s => W (M.opt (intD i) s) (fun i s => W (M.opt (sliceD (rd s x) (some i) none) s) Q E) E) E) E := by
  show W ((ev G e ρ s).bind fun x => (ev G a ρ).bind fun i => (M.opt (intD i)).bind fun i => fun s => M.opt (sliceD (rd s x) (some i) none) s) Q E ↔ _
  simp only [W_bind, W_mbind]
@[simp] theorem W_slHi : W (ev G (.slHi e a) ρ s) Q E ↔ W (ev G e ρ s) (fun x s => W (ev G a ρ s) (fun i s => W (M.opt (intD i) s) (fun i s => W (M.opt (sliceD (rd s x) none (some i)) s) Q E) E) E) E := by
  show W ((ev G e ρ s).bind fun x => (ev G a ρ).bind fun i => (M.opt (intD i)).bind fun i => fun s => M.opt (sliceD (rd s x) none (some i)) s) Q E ↔ _
  simp only [W_bind, W_mbind]
@[simp] theorem W_rev : W (ev G (.rev e) ρ s) Q E ↔ W (ev G e ρ s) (fun x s => W (M.opt (revD (rd s x)) s) Q E) E := by
  show W ((ev G e ρ s).bind fun x => fun s => M.opt (revD (rd s x)) s) Q E ↔ _
  simp only [W_bind]
@[simp] theorem W_fstr : W (ev G (.fstr es) ρ s) Q E ↔ W (evj G es [] ρ s) (fun t s => Q (.str t) s) E := by
  show W ((evj G es [] ρ s).bind fun t => M.ret (.str t)) Q E ↔ _
  simp only [W_bind, W_ret]
@[simp] theorem W_call {f : Nat} : W (ev G (.call f es) ρ s) Q E ↔ W (evs G es ρ s) (fun xs s => W (G.fn f xs s) Q E) E := by
  show W ((evs G es ρ s).bind fun xs => G.fn f xs) Q E ↔ _
  simp only [W_bind]
@[simp] theorem W_gin {neg : Bool} {n : Nat} : W (ev G (.gin neg n e) ρ s) Q E ↔ W (ev G e ρ s) (fun x s => W (M.opt ((txD x).map fun t => .bl (if neg then !((G.dct n).lookup t).isSome else ((G.dct n).lookup t).isSome)) s) Q E) E := by
  show W ((ev G e ρ s).bind fun x => M.opt ((txD x).map fun t => .bl (if neg then !((G.dct n).lookup t).isSome else ((G.dct n).lookup t).isSome))) Q E ↔ _
  simp only [W_bind]
@[simp] theorem W_gget {n : Nat} : W (ev G (.gget n e) ρ s) Q E ↔ W (ev G e ρ s) (fun x s => W (M.opt ((txD x).bind fun t => (G.dct n).lookup t) s) Q E) E := by
  show W ((ev G e ρ s).bind fun x => M.opt ((txD x).bind fun t => (G.dct n).lookup t)) Q E ↔ _
  simp only [W_bind]
@[simp] theorem W_isx {k : Option Nat} : W (ev G (.isx k e) ρ s) Q E ↔ W (ev G e ρ s) (fun x s => ∃ c, x = .exv c ∧ Q (.bl (isxB k c)) s) E := by
  show W ((ev G e ρ s).bind fun x => match x with | .exv c => M.ret (.bl (isxB k c)) | _ => M.bad) Q E ↔ _
  rw [W_bind]
  constructor
  · refine fun h => h.imp fun d s z => ?_
    cases d <;> first | exact (show False from z).elim | exact ⟨_, rfl, z⟩
  · refine fun h => h.imp fun d s z => ?_
    obtain ⟨l, rfl, z⟩ := z
    exact z
@[simp] theorem W_said {f : Nat} : W (ev G (.said f e) ρ s) Q E ↔ W (G.sd f (ev G e ρ) s) Q E := Iff.rfl
@[simp] theorem W_nil {Q : List D → Sto → Prop} : W (evs G .nil ρ s) Q E ↔ Q [] s := Iff.rfl
@[simp] theorem W_cons {Q : List D → Sto → Prop} : W (evs G (.cons e es) ρ s) Q E ↔ W (ev G e ρ s) (fun x s => W (evs G es ρ s) (fun xs s => Q (x :: xs) s) E) E := by
  show W ((ev G e ρ s).bind fun x => (evs G es ρ).bind fun xs => M.ret (x :: xs)) Q E ↔ _
  simp only [W_bind, W_mbind, W_ret]
@[simp] theorem W_jnil {Q : Tx → Sto → Prop} {acc : Tx} : W (evj G .nil acc ρ s) Q E ↔ Q acc s := Iff.rfl
@[simp] theorem W_jcons {Q : Tx → Sto → Prop} {acc : Tx} : W (evj G (.cons e es) acc ρ s) Q E ↔ W (ev G e ρ s) (fun x s => ∃ t, pieceT x = some t ∧ acc.length + t.length ≤ line ∧ W (evj G es (acc ++ t) ρ s) Q E) E := by
  show W ((ev G e ρ s).bind fun x => (M.opt (pieceT x)).bind fun t => if acc.length + t.length ≤ line then evj G es (acc ++ t) ρ else M.bad) Q E ↔ _
  rw [W_bind]
  constructor
  · refine fun h => h.imp fun d s z => ?_
    rw [W_mbind] at z
    cases q : pieceT d with
    | none => rw [q] at z; exact z.elim
    | some t =>
      rw [q] at z
      refine ⟨t, rfl, ?_⟩
      rw [W_some] at z
      split at z
      · exact ⟨‹_›, z⟩
      · exact z.elim
  · refine fun h => h.imp fun d s z => ?_
    obtain ⟨t, q, hl, z⟩ := z
    rw [W_mbind, q, W_some, if_pos hl]
    exact z
/-! ### walks -/
@[simp] theorem W_seq {Q : Wk → Sto → Prop} : W (evi G (.seq e) ρ s) Q E ↔ W (ev G e ρ s) (fun x s => W ((match x with
      | .ref n => match s[n]? with
        | some (.lst l) => .ok ⟨l, [(n, l)], none⟩ s
        | _ => .bad
      | x => M.opt ((seqOf x).map fun l => ⟨l, [], none⟩) s) : R Wk) Q E) E := by
  show W ((ev G e ρ s).bind fun x => fun s => match x with
      | .ref n => match s[n]? with
        | some (.lst l) => .ok ⟨l, [(n, l)], none⟩ s
        | _ => .bad
      | x => M.opt ((seqOf x).map fun l => ⟨l, [], none⟩) s) Q E ↔ _
  simp only [W_bind]
@[simp] theorem W_rng1 {Q : Wk → Sto → Prop} : W (evi G (.rng1 a) ρ s) Q E ↔ W (ev G a ρ s) (fun x s => ∃ j, x = .int j ∧ small62 j = true ∧ Q ⟨rngL 0 j.toNat, [], none⟩ s) E := by
  show W ((ev G a ρ s).bind fun x => M.opt (match x with | .int j => if small62 j then some ⟨rngL 0 j.toNat, [], none⟩ else none | _ => none)) Q E ↔ _
  rw [W_bind]
  constructor
  · refine fun h => h.imp fun d s z => ?_
    cases d <;> try (exact (show False from z).elim)
    rename_i j
    refine ⟨j, rfl, ?_⟩
    by_cases hj : small62 j = true
    · simp only [hj, if_true] at z; exact ⟨hj, z⟩
    · simp only [hj] at z; exact (show False from z).elim
  · refine fun h => h.imp fun d s z => ?_
    obtain ⟨j, rfl, hj, z⟩ := z
    simp only [hj, if_true]; exact z
@[simp] theorem W_rng2 {Q : Wk → Sto → Prop} : W (evi G (.rng2 a b) ρ s) Q E ↔ W (ev G a ρ s) (fun x s => W (ev G b ρ s) (fun y s => ∃ i j, x = .int i ∧ y = .int j ∧ small62 i = true ∧ small62 j = true ∧ Q ⟨rngL i (j - i).toNat, [], none⟩ s) E) E := by
  show W ((ev G a ρ s).bind fun x => (ev G b ρ).bind fun y => M.opt (match x, y with | .int i, .int j => if small62 i && small62 j then some ⟨rngL i (j - i).toNat, [], none⟩ else none | _, _ => none)) Q E ↔ _
  simp only [W_bind, W_mbind]
  constructor
  · refine fun h => h.imp fun d s h => h.imp fun d2 s z => ?_
    cases d <;> try (exact (show False from z).elim)
    cases d2 <;> try (exact (show False from z).elim)
    rename_i i j
    refine ⟨i, j, rfl, rfl, ?_⟩
    by_cases hj : (small62 i && small62 j) = true
    · simp only [hj, if_true] at z; simp only [Bool.and_eq_true] at hj; exact ⟨hj.1, hj.2, z⟩
    · simp only [hj] at z; exact (show False from z).elim
  · refine fun h => h.imp fun d s h => h.imp fun d2 s z => ?_
    obtain ⟨i, j, rfl, rfl, h1, h2, z⟩ := z
    simp only [h1, h2, Bool.and_self, if_true]; exact z
@[simp] theorem W_zip {Q : Wk → Sto → Prop} : W (evi G (.zip es) ρ s) Q E ↔ W (evs G es ρ s) (fun xs s => W (M.opt ((seqsOf xs).bind fun ls => (zipL ls).map fun l => (⟨l, [], none⟩ : Wk)) s) Q E) E := by
  show W ((evs G es ρ s).bind fun xs => M.opt ((seqsOf xs).bind fun ls => (zipL ls).map fun l => ⟨l, [], none⟩)) Q E ↔ _
  simp only [W_bind]
@[simp] theorem W_enum {Q : Wk → Sto → Prop} : W (evi G (.enum e) ρ s) Q E ↔ W (ev G e ρ s) (fun x s => W (M.opt ((seqOf x).map fun l => (⟨enumL l 0, [], none⟩ : Wk)) s) Q E) E := by
  show W ((ev G e ρ s).bind fun x => M.opt ((seqOf x).map fun l => ⟨enumL l 0, [], none⟩)) Q E ↔ _
  simp only [W_bind]
/-! ### comprehensions -/
def cF (G : Glo) (e : CE) (tg : Tg) (cnd : CE) (ρ : Env) (x : D) : M (Option D) := fun s => match bindT tg x (wipeE ρ tg.slots) with
  | some ρ' => ((ev G cnd ρ').bl.bind fun k => match k with
    | true => (ev G e ρ').bind fun y => M.ret (some y)
    | false => M.ret none) s
  | none => .bad
@[simp] theorem W_comp {tg : Tg} {it : IT} : W (ev G (.comp e tg it c) ρ s) Q E ↔ W (evi G it ρ s) (fun w s => w.lk = none ∧ W (compL (cF G e tg c ρ) w w.its [] s) (fun l s => Q (.lst l) s) E) E := by
  show W ((evi G it ρ s).bind fun w => M.nolk w ((compL (cF G e tg c ρ) w w.its []).bind fun l => M.ret (.lst l))) Q E ↔ _
  rw [W_bind]
  constructor
  · refine fun h => h.imp fun w s z => ?_
    unfold M.nolk at z
    split at z
    · exact ⟨‹_›, W_mbind.mp z⟩
    · exact z.elim
  · refine fun h => h.imp fun w s z => ?_
    unfold M.nolk
    rw [if_pos z.1]
    exact W_mbind.mpr z.2
theorem W_cF {tg : Tg} {x : D} {ρ' : Env} {Q : Option D → Sto → Prop} (h : bindT tg x (wipeE ρ tg.slots) = some ρ') : W (cF G e tg c ρ x s) Q E ↔ W (ev G c ρ' s) (fun k s => ∃ b, k = .bl b ∧ (b = true → W (ev G e ρ' s) (fun y s => Q (some y) s) E) ∧ (b = false → Q none s)) E := by
  unfold cF
  rw [h]
  show W (((ev G c ρ').bl.bind fun k => match k with | true => (ev G e ρ').bind fun y => M.ret (some y) | false => M.ret none) s) Q E ↔ _
  rw [W_mbind, W_bl]
  constructor
  · refine fun h => h.imp fun d s z => ?_
    obtain ⟨k, rfl, z⟩ := z
    cases k
    · exact ⟨_, rfl, (fun q => nomatch q), fun _ => z⟩
    · exact ⟨_, rfl, (fun _ => W_mbind.mp z), fun q => nomatch q⟩
  · refine fun h => h.imp fun d s z => ?_
    obtain ⟨k, rfl, z1, z2⟩ := z
    cases k
    · exact ⟨_, rfl, z2 rfl⟩
    · exact ⟨_, rfl, W_mbind.mpr (z1 rfl)⟩
/-- a loop of a comprehension: with an invariant of what is there -/
theorem compL_inv {f : D → M (Option D)} {w : Wk} {Q : List D → Sto → Prop} (I : Nat → List D → Sto → Prop) : ∀ (l : List D) (i : Nat) (acc : List D) (s : Sto), I i acc s → (∀ j acc s, I j acc s → w.ok s = true) →
    (∀ j x acc s, l[j]? = some x → I (i + j) acc s → W (f x s) (fun o s' => match o with | some y => acc.length < line ∧ I (i + j + 1) (acc ++ [y]) s' | none => I (i + j + 1) acc s') noE) → (∀ acc s, I (i + l.length) acc s → Q acc s) → W (compL f w l acc s) Q E
  | [], i, acc, s, h, hw, _, fin => by
    show W (if w.ok s then .ok acc s else .bad) Q E
    rw [if_pos (hw _ _ _ h)]
    exact fin _ _ h
  | x :: l, i, acc, s, h, hw, st, fin => by
    show W (if w.ok s then (f x s).calm.bind (fun o => match o with
      | some y => if acc.length < line then compL f w l (acc ++ [y]) else M.bad
      | none => compL f w l acc) else .bad) Q E
    rw [if_pos (hw _ _ _ h), W_bind, W_calm]
    refine (st 0 x acc s rfl h).mono (fun o s' z => ?_) fun _ _ z => z.elim
    have rec_ : ∀ acc', I (i + 1) acc' s' → W (compL f w l acc' s') Q E := fun acc' h' => by
      refine compL_inv I l (i + 1) acc' s' h' hw (fun j x acc s e q => ?_) fun acc s q => fin acc s ?_
      · have e2 : i + 1 + j = i + (j + 1) := by omega
        rw [e2] at q ⊢
        exact st (j + 1) x acc s (by simpa using e) q
      · have e2 : i + 1 + l.length = i + (x :: l).length := by simp; omega
        rwa [e2] at q
    cases o with
    | none => exact rec_ acc z
    | some y =>
      show W ((if acc.length < line then compL f w l (acc ++ [y]) else M.bad) s') Q E
      rw [if_pos z.1]
      exact rec_ _ z.2
/-- .. whose turns leave the store -/
theorem compL_map {f : D → M (Option D)} {w : Wk} {Q : List D → Sto → Prop} {g : D → Option D} {l : List D} {s : Sto} (hw : w.ok s = true) (hl : l.length ≤ line) (h : ∀ x ∈ l, W (f x s) (fun o s' => s' = s ∧ o = g x) noE) (fin : Q (l.filterMap g) s) : W (compL f w l [] s) Q E := by
  refine compL_inv (fun i acc s' => s' = s ∧ acc = (l.take i).filterMap g) l 0 [] s ⟨rfl, by simp⟩ (fun _ _ _ z => z.1 ▸ hw) (fun j x acc s' e z => ?_) fun acc s' z => ?_
  · obtain ⟨rfl, rfl⟩ := z
    rw [Nat.zero_add]
    have hlt : j < l.length := (List.getElem?_eq_some_iff.mp e).1
    have et : l.take (j + 1) = l.take j ++ [x] := by rw [List.take_add_one, e]; rfl
    refine (h x (List.mem_of_getElem? e)).imp fun o s2 z => ?_
    obtain ⟨rfl, rfl⟩ := z
    cases hg : g x with
    | none => exact ⟨rfl, by rw [et, List.filterMap_append]; simp [hg]⟩
    | some y =>
      refine ⟨?_, rfl, by rw [et, List.filterMap_append]; simp [hg]⟩
      have := List.length_filterMap_le g (l.take j)
      rw [List.length_take] at this
      omega
  · obtain ⟨rfl, rfl⟩ := z
    rw [Nat.zero_add, List.take_length]
    exact fin
end
/-! ### statements -/
structure Ps where
  nx : Env → Sto → Prop
  rt : D → Sto → Prop
  ex : Nat → Sto → Prop
  ct : Env → Sto → Prop
def WS (r : RS) (P : Ps) : Prop := match r with
  | .nx ρ s => P.nx ρ s
  | .rt d s => P.rt d s
  | .exc c _ s => P.ex c s
  | .ct ρ s => P.ct ρ s
  | .bad => False
section
variable {α : Type} {G : Glo} {ρ : Env} {s : Sto} {P : Ps} {e c o i : CE} {cs ds : CSs} {st : CS}
@[simp] theorem WS_nx : WS (.nx ρ s) P ↔ P.nx ρ s := Iff.rfl
@[simp] theorem WS_rt {d : D} : WS (.rt d s) P ↔ P.rt d s := Iff.rfl
@[simp] theorem WS_ct : WS (.ct ρ s) P ↔ P.ct ρ s := Iff.rfl
@[simp] theorem WS_exc {c : Nat} : WS (.exc c ρ s) P ↔ P.ex c s := Iff.rfl
@[simp] theorem WS_bad : WS .bad P ↔ False := Iff.rfl
theorem WS.mono {r : RS} {P P' : Ps} (h : WS r P) (h1 : ∀ ρ s, P.nx ρ s → P'.nx ρ s) (h2 : ∀ d s, P.rt d s → P'.rt d s) (h3 : ∀ c s, P.ex c s → P'.ex c s) (h4 : ∀ ρ s, P.ct ρ s → P'.ct ρ s) : WS r P' := by
  cases r with
  | nx ρ s => exact h1 _ _ h
  | rt d s => exact h2 _ _ h
  | exc c ρ s => exact h3 _ _ h
  | ct ρ s => exact h4 _ _ h
  | bad => exact h
@[simp] theorem WS_of {r : R α} {k : α → Sto → RS} : WS (RS.of r ρ k) P ↔ W r (fun a s => WS (k a s) P) P.ex := by cases r <;> rfl
@[simp] theorem WS_then {r : RS} {k : Env → Sto → RS} : WS (r.then k) P ↔ WS r { P with nx := fun ρ s => WS (k ρ s) P } := by cases r <;> rfl
@[simp] theorem WS_turn {r : RS} {k : Env → Sto → RS} : WS (r.turn k) P ↔ WS r { P with nx := fun ρ s => WS (k ρ s) P, ct := fun ρ s => WS (k ρ s) P } := by cases r <;> rfl
@[simp] theorem WS_nil : WS (evSs G .nil ρ s) P ↔ P.nx ρ s := Iff.rfl
@[simp] theorem WS_cons : WS (evSs G (.cons st cs) ρ s) P ↔ WS (evS G st ρ s) { P with nx := fun ρ s => WS (evSs G cs ρ s) P } := WS_then
@[simp] theorem WS_asg {tg : Tg} : WS (evS G (.asg tg e) ρ s) P ↔ W (ev G e ρ s) (fun x s => ∃ ρ', bindT tg x ρ = some ρ' ∧ P.nx ρ' s) P.ex := by
  show WS (RS.of (ev G e ρ s) ρ fun x s => match bindT tg x ρ with | some ρ' => .nx ρ' s | none => .bad) P ↔ _
  rw [WS_of]
  constructor
  · refine fun h => h.imp fun d s z => ?_
    cases q : bindT tg d ρ with
    | none => rw [q] at z; exact z.elim
    | some ρ' => rw [q] at z; exact ⟨ρ', rfl, z⟩
  · refine fun h => h.imp fun d s z => ?_
    obtain ⟨ρ', q, z⟩ := z
    rw [q]; exact z
@[simp] theorem WS_ex : WS (evS G (.ex e) ρ s) P ↔ W (ev G e ρ s) (fun _ s => P.nx ρ s) P.ex := WS_of
@[simp] theorem WS_ret : WS (evS G (.ret e) ρ s) P ↔ W (ev G e ρ s) (fun x s => P.rt x s) P.ex := WS_of
@[simp] theorem WS_retN : WS (evS G .retN ρ s) P ↔ P.rt .non s := Iff.rfl
@[simp] theorem WS_pass : WS (evS G .pass ρ s) P ↔ P.nx ρ s := Iff.rfl
@[simp] theorem WS_cont : WS (evS G .cont ρ s) P ↔ P.ct ρ s := Iff.rfl
@[simp] theorem WS_rse {c : Nat} : WS (evS G (.rse c) ρ s) P ↔ P.ex c s := Iff.rfl
@[simp] theorem WS_ite : WS (evS G (.ite c cs ds) ρ s) P ↔ W (ev G c ρ s) (fun x s => ∃ k, x = .bl k ∧ (k = true → WS (evSs G cs ρ s) P) ∧ (k = false → WS (evSs G ds ρ s) P)) P.ex := by
  show WS (RS.of ((ev G c ρ).bl s) ρ fun k s => match k with | true => evSs G cs ρ s | false => evSs G ds ρ s) P ↔ _
  rw [WS_of, W_bl]
  constructor
  · refine fun h => h.imp fun d s z => ?_
    obtain ⟨k, rfl, z⟩ := z
    cases k
    · exact ⟨_, rfl, (fun q => nomatch q), fun _ => z⟩
    · exact ⟨_, rfl, (fun _ => z), fun q => nomatch q⟩
  · refine fun h => h.imp fun d s z => ?_
    obtain ⟨k, rfl, z1, z2⟩ := z
    cases k
    · exact ⟨_, rfl, z2 rfl⟩
    · exact ⟨_, rfl, z1 rfl⟩
@[simp] theorem WS_setL : WS (evS G (.setL o i e) ρ s) P ↔ W (ev G e ρ s) (fun x s => W (ev G o ρ s) (fun y s => W (ev G i ρ s) (fun z s => W (setLM y z x s) (fun _ s => P.nx ρ s) P.ex) P.ex) P.ex) P.ex := by
  show WS (RS.of (((ev G e ρ).bind fun x => (ev G o ρ).bind fun y => (ev G i ρ).bind fun z => setLM y z x) s) ρ fun _ s => .nx ρ s) P ↔ _
  simp only [WS_of, W_mbind, WS_nx]
@[simp] theorem WS_setD : WS (evS G (.setD o i e) ρ s) P ↔ W (ev G e ρ s) (fun x s => W (ev G o ρ s) (fun y s => W (ev G i ρ s) (fun z s => W (setDM y z x s) (fun _ s => P.nx ρ s) P.ex) P.ex) P.ex) P.ex := by
  show WS (RS.of (((ev G e ρ).bind fun x => (ev G o ρ).bind fun y => (ev G i ρ).bind fun z => setDM y z x) s) ρ fun _ s => .nx ρ s) P ↔ _
  simp only [WS_of, W_mbind, WS_nx]
def lF (G : Glo) (tg : Tg) (cs : CSs) (x : D) (ρ : Env) (s : Sto) : RS := match bindT tg x ρ with
  | some ρ' => evSs G cs ρ' s
  | none => .bad
@[simp] theorem WS_loop {tg : Tg} {it : IT} : WS (evS G (.loop tg it cs) ρ s) P ↔ W (evi G it ρ s) (fun w s => w.lk = none ∧ WS (forL (lF G tg cs) w w.its ρ s) P) P.ex := by
  show WS (RS.of (evi G it ρ s) ρ fun w s => if w.lk = none then forL (lF G tg cs) w w.its ρ s else .bad) P ↔ _
  rw [WS_of]
  constructor
  · refine fun h => h.imp fun w s z => ?_
    split at z
    · exact ⟨‹_›, z⟩
    · exact z.elim
  · refine fun h => h.imp fun w s z => ?_
    rw [if_pos z.1]; exact z.2
@[simp] theorem WS_whl : WS (evS G (.whl c cs) ρ s) P ↔ WS (whlL (fun ρ => (ev G c ρ).bl) (fun ρ s => evSs G cs ρ s) turns ρ s) P := Iff.rfl
/-- for, by an invariant -/
theorem forL_inv {f : D → Env → Sto → RS} {w : Wk} (I : Nat → Env → Sto → Prop) : ∀ (l : List D) (i : Nat) (ρ : Env) (s : Sto), I i ρ s → (∀ j ρ s, I j ρ s → w.ok s = true) →
    (∀ j x ρ s, l[j]? = some x → I (i + j) ρ s → WS (f x ρ s) { P with nx := I (i + j + 1), ct := I (i + j + 1) }) → (∀ ρ s, I (i + l.length) ρ s → P.nx ρ s) → WS (forL f w l ρ s) P
  | [], i, ρ, s, h, hw, _, fin => by
    show WS (if w.ok s then .nx ρ s else .bad) P
    rw [if_pos (hw _ _ _ h)]
    exact fin _ _ h
  | x :: l, i, ρ, s, h, hw, st, fin => by
    show WS (if w.ok s then (f x ρ s).turn (forL f w l) else .bad) P
    rw [if_pos (hw _ _ _ h), WS_turn]
    have rec_ : ∀ ρ' s', I (i + 1) ρ' s' → WS (forL f w l ρ' s') P := fun ρ' s' h' => by
      refine forL_inv I l (i + 1) ρ' s' h' hw (fun j x ρ s e q => ?_) fun ρ s q => fin ρ s ?_
      · have e2 : i + 1 + j = i + (j + 1) := by omega
        rw [e2] at q ⊢
        exact st (j + 1) x ρ s (by simpa using e) q
      · have e2 : i + 1 + l.length = i + (x :: l).length := by simp; omega
        rwa [e2] at q
    exact (st 0 x ρ s rfl h).mono (fun ρ s z => rec_ ρ s z) (fun _ _ z => z) (fun _ _ z => z) (fun ρ s z => rec_ ρ s z)
/-- while, by a measure -/
theorem whlL_inv {c : Env → M Bool} {b : Env → Sto → RS} (I : Env → Sto → Prop) (m : Env → Sto → Nat) : ∀ (n : Nat) (ρ : Env) (s : Sto), I ρ s → m ρ s < n →
    (∀ ρ s, I ρ s → W (c ρ s) (fun k s' => (k = true → WS (b ρ s') { P with nx := fun ρ' s2 => I ρ' s2 ∧ m ρ' s2 < m ρ s, ct := fun ρ' s2 => I ρ' s2 ∧ m ρ' s2 < m ρ s }) ∧ (k = false → P.nx ρ s')) P.ex) → WS (whlL c b n ρ s) P
  | 0, _, _, _, hm, _ => absurd hm (Nat.not_lt_zero _)
  | n + 1, ρ, s, h, hm, st => by
    show WS (RS.of (c ρ s) ρ fun k s => match k with
      | true => (b ρ s).turn (whlL c b n)
      | false => .nx ρ s) P
    rw [WS_of]
    refine (st ρ s h).imp fun k s' z => ?_
    cases k with
    | false => exact z.2 rfl
    | true =>
      show WS ((b ρ s').turn (whlL c b n)) P
      rw [WS_turn]
      exact (z.1 rfl).mono (fun ρ2 s2 q => whlL_inv I m n ρ2 s2 q.1 (by omega) st) (fun _ _ q => q) (fun _ _ q => q) (fun ρ2 s2 q => whlL_inv I m n ρ2 s2 q.1 (by omega) st)
end
/-! ### calls -/
theorem fn_eq {k i : Nat} {d : Def} {ds : List D} {s : Sto} (h : Pg.defs i = some d) (hl : ds.length = d.np) : (glo Pg (k + 1)).fn i ds s = finS d.keep s.length (evSs (glo Pg k) d.body (env0 d.nn ds) s) := by
  show (match Pg.defs i with | some d => evDef (glo Pg k) d ds | none => M.bad) s = _
  rw [h]
  show (if ds.length = d.np then _ else _) = _
  rw [if_pos hl]
theorem trunc_same {n : Nat} {d : D} {s : Sto} (h : s.length = n) : trunc n d s = .ok d s := if_pos h
theorem truncE_same {n c : Nat} {s : Sto} (h : s.length = n) : truncE n c s = .exc c s := if_pos h
/-- a def that leaves the store as long as it was -/
theorem W_fn {k i : Nat} {d : Def} {ds : List D} {s : Sto} {Q : D → Sto → Prop} {E : Nat → Sto → Prop} (h : Pg.defs i = some d) (hl : ds.length = d.np) (hk : d.keep = false)
    (hb : WS (evSs (glo Pg k) d.body (env0 d.nn ds) s) ⟨fun _ s' => s'.length = s.length ∧ Q .non s', fun x s' => s'.length = s.length ∧ Q x s', fun c s' => s'.length = s.length ∧ E c s', fun _ _ => False⟩) : W ((glo Pg (k + 1)).fn i ds s) Q E := by
  rw [fn_eq h hl, hk]
  revert hb
  cases evSs (glo Pg k) d.body (env0 d.nn ds) s with
  | nx ρ s' => exact fun z => by show W (trunc s.length .non s') Q E; rw [trunc_same z.1]; exact z.2
  | rt x s' => exact fun z => by show W (trunc s.length x s') Q E; rw [trunc_same z.1]; exact z.2
  | exc c ρ s' => exact fun z => by show W (truncE s.length c s') Q E; rw [truncE_same z.1]; exact z.2
  | ct ρ s' => exact fun z => z.elim
  | bad => exact fun z => z.elim
/-- a def that leaves objects of its own behind: they are forgotten -/
theorem W_fnT {k i : Nat} {d : Def} {ds : List D} {s : Sto} {Q : D → Sto → Prop} {E : Nat → Sto → Prop} (h : Pg.defs i = some d) (hl : ds.length = d.np) (hk : d.keep = false)
    (hb : WS (evSs (glo Pg k) d.body (env0 d.nn ds) s) ⟨fun _ s' => W (trunc s.length .non s') Q E, fun x s' => W (trunc s.length x s') Q E, fun c s' => W (truncE s.length c s') Q E, fun _ _ => False⟩) : W ((glo Pg (k + 1)).fn i ds s) Q E := by
  rw [fn_eq h hl, hk]
  revert hb
  cases evSs (glo Pg k) d.body (env0 d.nn ds) s with
  | nx ρ s' => exact fun z => z
  | rt x s' => exact fun z => z
  | exc c ρ s' => exact fun z => z
  | ct ρ s' => exact fun z => z.elim
  | bad => exact fun z => z.elim
end PZ
end
section
/-! Wo: operators and built-ins on data whose shape is known. -/
set_option linter.all false
set_option maxRecDepth 100000
set_option Elab.async false
namespace PZ
section
variable {α β : Type} {G : Glo} {ρ : Env} {s : Sto} {E : Nat → Sto → Prop} {a b d : D} {i j : Int}
@[simp] theorem W_optif {p : Prop} [Decidable p] {x : α} {Q : α → Sto → Prop} : W (M.opt (if p then some x else none) s) Q E ↔ p ∧ Q x s := by
  split
  · exact ⟨fun h => ⟨‹_›, h⟩, fun h => h.2⟩
  · exact ⟨fun h => h.elim, fun h => absurd h.1 ‹_›⟩
@[simp] theorem W_optmap {f : β → α} {o : Option β} {Q : α → Sto → Prop} : W (M.opt (o.map f) s) Q E ↔ ∃ x, o = some x ∧ Q (f x) s := by
  cases o with
  | none => exact ⟨fun h => h.elim, fun ⟨_, h, _⟩ => nomatch h⟩
  | some x => exact ⟨fun h => ⟨x, rfl, h⟩, fun ⟨_, h, z⟩ => by cases h; exact z⟩
@[simp] theorem W_optbind {f : β → Option α} {o : Option β} {Q : α → Sto → Prop} : W (M.opt (o.bind f) s) Q E ↔ ∃ x, o = some x ∧ W (M.opt (f x) s) Q E := by
  cases o with
  | none => exact ⟨fun h => h.elim, fun ⟨_, h, _⟩ => nomatch h⟩
  | some x => exact ⟨fun h => ⟨x, rfl, h⟩, fun ⟨_, h, z⟩ => by cases h; exact z⟩
theorem ok_of {r : R α} {x : α} (h : W r (fun a s' => a = x ∧ s' = s) noE) : r = .ok x s := by
  obtain ⟨a, s', e, rfl, rfl⟩ := h.eq
  exact e
theorem exc_of {r : R α} {c : Nat} (h : W r (fun _ _ => False) (fun c' s' => c' = c ∧ s' = s)) : r = .exc c s := by
  cases r with
  | ok a s => exact h.elim
  | exc c' s' => obtain ⟨rfl, rfl⟩ := h; rfl
  | bad => exact h.elim
@[simp] theorem pure_non : D.pure .non = true := Eq.trans rfl rfl
@[simp] theorem pure_bl {b : Bool} : D.pure (.bl b) = true := Eq.trans rfl rfl
@[simp] theorem pure_int : D.pure (.int i) = true := Eq.trans rfl rfl
@[simp] theorem pure_str {t : Tx} : D.pure (.str t) = true := Eq.trans rfl rfl
@[simp] theorem pure_tup {l : List D} : D.pure (.tup l) = D.pures l := Eq.trans rfl rfl
@[simp] theorem pure_lst {l : List D} : D.pure (.lst l) = D.pures l := Eq.trans rfl rfl
@[simp] theorem pure_kt {l : List D} : D.pure (.kt l) = D.pures l := Eq.trans rfl rfl
@[simp] theorem pure_ref {n : Nat} : D.pure (.ref n) = false := Eq.trans rfl rfl
@[simp] theorem pures_nil : D.pures [] = true := Eq.trans rfl rfl
@[simp] theorem pures_cons {l : List D} : D.pures (d :: l) = (D.pure d && D.pures l) := Eq.trans rfl rfl
theorem pures_iff {l : List D} : D.pures l = true ↔ ∀ d ∈ l, D.pure d = true := by
  induction l with
  | nil => simp
  | cons x l ih => simp [ih]
theorem rd_pure (h : d.pure = true) : rd s d = d := by cases d <;> first | rfl | cases h
@[simp] theorem rd_int : rd s (.int i) = .int i := rfl
@[simp] theorem rd_str {t : Tx} : rd s (.str t) = .str t := rfl
@[simp] theorem rd_tup {l : List D} : rd s (.tup l) = .tup l := rfl
@[simp] theorem rd_lst {l : List D} : rd s (.lst l) = .lst l := rfl
@[simp] theorem rd_bl {b : Bool} : rd s (.bl b) = .bl b := rfl
@[simp] theorem rd_non : rd s .non = .non := rfl
theorem rd_ref {n : Nat} {l : List D} (h : s[n]? = some (.lst l)) : rd s (.ref n) = .lst l := by unfold rd; simp only [h]
/-- of no object of the store -/
def D.here : D → Bool
  | .ref _ => false
  | _ => true
@[simp] theorem here_int : D.here (.int i) = true := Eq.trans rfl rfl
@[simp] theorem here_str {t : Tx} : D.here (.str t) = true := Eq.trans rfl rfl
@[simp] theorem here_tup {l : List D} : D.here (.tup l) = true := Eq.trans rfl rfl
@[simp] theorem here_lst {l : List D} : D.here (.lst l) = true := Eq.trans rfl rfl
@[simp] theorem here_kt {l : List D} : D.here (.kt l) = true := Eq.trans rfl rfl
@[simp] theorem here_bl {b : Bool} : D.here (.bl b) = true := Eq.trans rfl rfl
@[simp] theorem here_non : D.here .non = true := Eq.trans rfl rfl
@[simp] theorem here_scr {l : List Int} : D.here (.scr l) = true := Eq.trans rfl rfl
@[simp] theorem here_exv {c : Nat} : D.here (.exv c) = true := Eq.trans rfl rfl
theorem pure_here (h : d.pure = true) : d.here = true := by cases d <;> first | rfl | cases h
theorem rd_here (h : d.here = true) : rd s d = d := by cases d <;> first | rfl | cases h
theorem biM_here {q : Bi} (h : d.here = true) : biM q [d] s = M.opt (biD q [d]) s := by
  cases d <;> first | rfl | cases h
@[simp] theorem biM_int {q : Bi} : biM q [.int i] s = M.opt (biD q [.int i]) s := rfl
@[simp] theorem biM_str {q : Bi} {t : Tx} : biM q [.str t] s = M.opt (biD q [.str t]) s := rfl
@[simp] theorem biM_tup {q : Bi} {l : List D} : biM q [.tup l] s = M.opt (biD q [.tup l]) s := rfl
@[simp] theorem biM_lst {q : Bi} {l : List D} : biM q [.lst l] s = M.opt (biD q [.lst l]) s := rfl
@[simp] theorem biM_bl {q : Bi} {b : Bool} : biM q [.bl b] s = M.opt (biD q [.bl b]) s := rfl
@[simp] theorem biM_non {q : Bi} : biM q [.non] s = M.opt (biD q [.non]) s := rfl
@[simp] theorem biM_scr {q : Bi} {l : List Int} : biM q [.scr l] s = M.opt (biD q [.scr l]) s := rfl
@[simp] theorem biM_two {q : Bi} : biM q [a, b] s = M.opt (biD q [rd s a, rd s b]) s := rfl
theorem opM_here {q : Op} (ha : a.here = true) (hb : b.here = true) : opM q a b s = M.opt (opD q a b) s := by
  cases a <;> try (cases ha; done)
  all_goals cases b <;> try (cases hb; done)
  all_goals cases q <;> rfl
@[simp] theorem opM_here' {q : Op} (ha : a.here = true) (hb : b.here = true) : opM q a b s = M.opt (opD q a b) s := opM_here ha hb
theorem opM_ixr {n : Nat} {l : List D} (h : s[n]? = some (.lst l)) : opM .ix (.ref n) (.int i) s = M.opt (atI l i) s := by
  show (match s[n]? with
    | some (.dic t _ kvs) => if keyOk t (.int i) then M.opt (kget kvs (.int i)) s else .bad
    | some (.lst l) => M.opt (opD .ix (.lst l) (.int i)) s
    | _ => .bad) = _
  rw [h]; rfl
@[simp] theorem opD_addI : opD .add (.int i) (.int j) = some (.int (i + j)) := rfl
@[simp] theorem opD_subI : opD .sub (.int i) (.int j) = some (.int (i - j)) := rfl
@[simp] theorem opD_mulI : opD .mul (.int i) (.int j) = if mulOk i j then some (.int (i * j)) else none := rfl
@[simp] theorem opD_fdivI : opD .fdiv (.int i) (.int j) = if divOk j then some (.int (i.fdiv j)) else none := rfl
@[simp] theorem opD_modI : opD .mod (.int i) (.int j) = if j ≠ 0 then some (.int (i.fmod j)) else none := rfl
@[simp] theorem opD_powI : opD .pow (.int i) (.int j) = if powOk i j then some (.int (i ^ j.toNat)) else none := rfl
@[simp] theorem opD_shlI : opD .shl (.int i) (.int j) = if shlOk i j then some (.int (i * 2 ^ j.toNat)) else none := rfl
@[simp] theorem opD_shrI : opD .shr (.int i) (.int j) = if 0 ≤ j then some (.int (i / 2 ^ j.toNat)) else none := rfl
@[simp] theorem opD_bandI : opD .band (.int i) (.int j) = if 0 ≤ i ∧ j = 1 then some (.int (i % 2)) else none := rfl
@[simp] theorem opD_ltI : opD .lt (.int i) (.int j) = some (.bl (decide (i < j))) := rfl
@[simp] theorem opD_leI : opD .le (.int i) (.int j) = some (.bl (decide (i ≤ j))) := rfl
@[simp] theorem opD_gtI : opD .gt (.int i) (.int j) = some (.bl (decide (j < i))) := rfl
@[simp] theorem opD_geI : opD .ge (.int i) (.int j) = some (.bl (decide (j ≤ i))) := rfl
@[simp] theorem opD_ltS {x y : Tx} : opD .lt (.str x) (.str y) = some (.bl (strLt x y)) := rfl
@[simp] theorem opD_eq : opD .eq a b = if shallow a b then some (.bl (eqD a b)) else none := by cases a <;> cases b <;> rfl
@[simp] theorem opD_ne : opD .ne a b = if shallow a b then some (.bl (!eqD a b)) else none := by cases a <;> cases b <;> rfl
@[simp] theorem opD_isin : opD .isin a b = (inD a b).map .bl := by cases a <;> cases b <;> rfl
@[simp] theorem opD_notin : opD .notin a b = (inD a b).map fun k => .bl (!k) := by cases a <;> cases b <;> rfl
@[simp] theorem opD_isN : opD .isN a .non = some (.bl (decide (a = .non))) := by cases a <;> rfl
@[simp] theorem opD_isNN : opD .isNN a .non = some (.bl (!decide (a = .non))) := by cases a <;> rfl
@[simp] theorem opD_isB {x y : Bool} : opD .isN (.bl x) (.bl y) = some (.bl (decide (x = y))) := rfl
@[simp] theorem opD_isNB {x y : Bool} : opD .isNN (.bl x) (.bl y) = some (.bl (!decide (x = y))) := rfl
@[simp] theorem opD_ixT {l : List D} : opD .ix (.tup l) (.int i) = atI l i := rfl
@[simp] theorem opD_ixL {l : List D} : opD .ix (.lst l) (.int i) = atI l i := rfl
@[simp] theorem opD_ixR {l : List Int} : opD .ix (.scr l) (.int i) = (atI l i).map .int := rfl
@[simp] theorem opD_ixS {l : Tx} : opD .ix (.str l) (.int i) = if l.length ≤ line then (atI l i).map fun c => .str [c] else none := rfl
@[simp] theorem opD_addS {x y : Tx} : opD .add (.str x) (.str y) = if x.length + y.length ≤ line then some (.str (x ++ y)) else none := rfl
@[simp] theorem opD_addT {x y : List D} : opD .add (.tup x) (.tup y) = if x.length + y.length ≤ line then some (.tup (x ++ y)) else none := rfl
@[simp] theorem opD_addL {x y : List D} : opD .add (.lst x) (.lst y) = if x.length + y.length ≤ line then some (.lst (x ++ y)) else none := rfl
@[simp] theorem opD_mulS {x : Tx} : opD .mul (.str x) (.int j) = if -1000 ≤ j ∧ j ≤ 1000 ∧ x.length ≤ 1000 then some (.str (List.replicate j.toNat x).flatten) else none := rfl
@[simp] theorem opD_mulL {x : List D} : opD .mul (.lst x) (.int j) = if -1000 ≤ j ∧ j ≤ 1000 ∧ x.length ≤ 1000 then some (.lst (List.replicate j.toNat x).flatten) else none := rfl
@[simp] theorem biD_lenT {l : List D} : biD .len [.tup l] = some (.int l.length) := rfl
@[simp] theorem biD_lenL {l : List D} : biD .len [.lst l] = some (.int l.length) := rfl
@[simp] theorem biD_lenR {l : List Int} : biD .len [.scr l] = some (.int l.length) := rfl
@[simp] theorem biD_lenS {l : Tx} : biD .len [.str l] = if l.length ≤ line then some (.int l.length) else none := rfl
@[simp] theorem biD_abs : biD .abs [.int i] = some (.int (if i < 0 then -i else i)) := rfl
@[simp] theorem biD_max : biD .max2 [.int i, .int j] = some (.int (if j > i then j else i)) := rfl
@[simp] theorem biD_min : biD .min2 [.int i, .int j] = some (.int (if j < i then j else i)) := rfl
@[simp] theorem biD_all {l : List D} : biD .all [.lst l] = (blsOf l).map fun bs => .bl (bs.all id) := rfl
@[simp] theorem biD_any {l : List D} : biD .any [.lst l] = (blsOf l).map fun bs => .bl (bs.any id) := rfl
@[simp] theorem biD_strS {x : Tx} : biD .str [.str x] = some (.str x) := rfl
@[simp] theorem biD_strI : biD .str [.int i] = if i.natAbs.log2 < 1000 then some (.str (intT i)) else none := rfl
@[simp] theorem biD_intB {x : Bool} : biD .int [.bl x] = some (.int (b2i x)) := rfl
@[simp] theorem biD_list {l : List D} : biD .list [.lst l] = some (.lst l) := rfl
@[simp] theorem biD_listT {l : List D} : biD .list [.tup l] = some (.lst l) := rfl
@[simp] theorem biD_tuple {l : List D} : biD .tuple [.lst l] = some (.tup l) := rfl
@[simp] theorem biD_tupleT {l : List D} : biD .tuple [.tup l] = some (.tup l) := rfl
@[simp] theorem biD_sorted {l : List D} : biD .sorted [.lst l] = if sortable l then some (.lst (sortD l)) else none := rfl
@[simp] theorem biD_divmod : biD .divmod [.int i, .int j] = if 0 < j ∧ j < 1073741824 then some (.tup [.int (i / j), .int (i % j)]) else none := rfl
theorem biD_repr : biD .repr [d] = if shallow d d && d.toP.showable && decide ((reprT d).length ≤ line) && (reprT d).all (· < 0x110000) then some (.str (reprT d)) else none := by cases d <;> rfl
/-! ### kinds -/
def isIntD : D → Bool
  | .int _ | .bl _ => true
  | _ => false
def isBlD : D → Bool
  | .bl _ => true
  | _ => false
def isStrD : D → Bool
  | .str _ => true
  | _ => false
def isTupD : D → Bool
  | .tup _ | .kt _ => true
  | _ => false
@[simp] theorem isIntD_non : isIntD (.non) = false := Eq.trans rfl rfl
@[simp] theorem isIntD_bl {x : Bool} : isIntD (.bl x) = true := Eq.trans rfl rfl
@[simp] theorem isIntD_int {x : Int} : isIntD (.int x) = true := Eq.trans rfl rfl
@[simp] theorem isIntD_str {x : Tx} : isIntD (.str x) = false := Eq.trans rfl rfl
@[simp] theorem isIntD_tup {x : List D} : isIntD (.tup x) = false := Eq.trans rfl rfl
@[simp] theorem isIntD_lst {x : List D} : isIntD (.lst x) = false := Eq.trans rfl rfl
@[simp] theorem isIntD_kt {x : List D} : isIntD (.kt x) = false := Eq.trans rfl rfl
@[simp] theorem isBlD_non : isBlD (.non) = false := Eq.trans rfl rfl
@[simp] theorem isBlD_bl {x : Bool} : isBlD (.bl x) = true := Eq.trans rfl rfl
@[simp] theorem isBlD_int {x : Int} : isBlD (.int x) = false := Eq.trans rfl rfl
@[simp] theorem isBlD_str {x : Tx} : isBlD (.str x) = false := Eq.trans rfl rfl
@[simp] theorem isBlD_tup {x : List D} : isBlD (.tup x) = false := Eq.trans rfl rfl
@[simp] theorem isBlD_lst {x : List D} : isBlD (.lst x) = false := Eq.trans rfl rfl
@[simp] theorem isBlD_kt {x : List D} : isBlD (.kt x) = false := Eq.trans rfl rfl
@[simp] theorem isStrD_non : isStrD (.non) = false := Eq.trans rfl rfl
@[simp] theorem isStrD_bl {x : Bool} : isStrD (.bl x) = false := Eq.trans rfl rfl
@[simp] theorem isStrD_int {x : Int} : isStrD (.int x) = false := Eq.trans rfl rfl
@[simp] theorem isStrD_str {x : Tx} : isStrD (.str x) = true := Eq.trans rfl rfl
@[simp] theorem isStrD_tup {x : List D} : isStrD (.tup x) = false := Eq.trans rfl rfl
@[simp] theorem isStrD_lst {x : List D} : isStrD (.lst x) = false := Eq.trans rfl rfl
@[simp] theorem isStrD_kt {x : List D} : isStrD (.kt x) = false := Eq.trans rfl rfl
@[simp] theorem isTupD_non : isTupD (.non) = false := Eq.trans rfl rfl
@[simp] theorem isTupD_bl {x : Bool} : isTupD (.bl x) = false := Eq.trans rfl rfl
@[simp] theorem isTupD_int {x : Int} : isTupD (.int x) = false := Eq.trans rfl rfl
@[simp] theorem isTupD_str {x : Tx} : isTupD (.str x) = false := Eq.trans rfl rfl
@[simp] theorem isTupD_tup {x : List D} : isTupD (.tup x) = true := Eq.trans rfl rfl
@[simp] theorem isTupD_lst {x : List D} : isTupD (.lst x) = false := Eq.trans rfl rfl
@[simp] theorem isTupD_kt {x : List D} : isTupD (.kt x) = true := Eq.trans rfl rfl
@[simp] theorem isIntD_scr {x : List Int} : isIntD (.scr x) = false := Eq.trans rfl rfl
@[simp] theorem isIntD_ref {x : Nat} : isIntD (.ref x) = false := Eq.trans rfl rfl
@[simp] theorem isIntD_fn {x : Nat} : isIntD (.fn x) = false := Eq.trans rfl rfl
@[simp] theorem isIntD_exv {x : Nat} : isIntD (.exv x) = false := Eq.trans rfl rfl
@[simp] theorem isBlD_scr {x : List Int} : isBlD (.scr x) = false := Eq.trans rfl rfl
@[simp] theorem isBlD_ref {x : Nat} : isBlD (.ref x) = false := Eq.trans rfl rfl
@[simp] theorem isBlD_fn {x : Nat} : isBlD (.fn x) = false := Eq.trans rfl rfl
@[simp] theorem isBlD_exv {x : Nat} : isBlD (.exv x) = false := Eq.trans rfl rfl
@[simp] theorem isStrD_scr {x : List Int} : isStrD (.scr x) = false := Eq.trans rfl rfl
@[simp] theorem isStrD_ref {x : Nat} : isStrD (.ref x) = false := Eq.trans rfl rfl
@[simp] theorem isStrD_fn {x : Nat} : isStrD (.fn x) = false := Eq.trans rfl rfl
@[simp] theorem isStrD_exv {x : Nat} : isStrD (.exv x) = false := Eq.trans rfl rfl
@[simp] theorem isTupD_scr {x : List Int} : isTupD (.scr x) = false := Eq.trans rfl rfl
@[simp] theorem isTupD_ref {x : Nat} : isTupD (.ref x) = false := Eq.trans rfl rfl
@[simp] theorem isTupD_fn {x : Nat} : isTupD (.fn x) = false := Eq.trans rfl rfl
@[simp] theorem isTupD_exv {x : Nat} : isTupD (.exv x) = false := Eq.trans rfl rfl
@[simp] theorem biD_isI (h : d.pure = true) : biD .isI [d] = some (.bl (isIntD d)) := by cases d <;> first | rfl | cases h
@[simp] theorem biD_isB (h : d.pure = true) : biD .isB [d] = some (.bl (isBlD d)) := by cases d <;> first | rfl | cases h
@[simp] theorem biD_isS (h : d.pure = true) : biD .isS [d] = some (.bl (isStrD d)) := by cases d <;> first | rfl | cases h
@[simp] theorem biD_isT (h : d.pure = true) : biD .isT [d] = some (.bl (isTupD d)) := by cases d <;> first | rfl | cases h
@[simp] theorem biM_isI (h : d.pure = true) : biM .isI [d] s = .ok (.bl (isIntD d)) s := by cases d <;> first | rfl | cases h
@[simp] theorem biM_isB (h : d.pure = true) : biM .isB [d] s = .ok (.bl (isBlD d)) s := by cases d <;> first | rfl | cases h
@[simp] theorem biM_isS (h : d.pure = true) : biM .isS [d] s = .ok (.bl (isStrD d)) s := by cases d <;> first | rfl | cases h
@[simp] theorem biM_isT (h : d.pure = true) : biM .isT [d] s = .ok (.bl (isTupD d)) s := by cases d <;> first | rfl | cases h
/-! ### lists of truths -/
@[simp] theorem blsOf_map {l : List α} {f : α → Bool} : blsOf (l.map fun x => .bl (f x)) = some (l.map f) := by
  induction l with
  | nil => rfl
  | cons x l ih => simp only [List.map_cons, blsOf, ih, Option.map_some]
@[simp] theorem strsOf_map {l : List α} {f : α → Tx} : strsOf (l.map fun x => .str (f x)) = some (l.map f) := by
  induction l with
  | nil => rfl
  | cons x l ih => simp only [List.map_cons, strsOf, ih, Option.map_some]
theorem filterMap_some {f : D → D} {l : List D} : l.filterMap (fun x => some (f x)) = l.map f := by
  induction l with
  | nil => rfl
  | cons x l ih => simp [ih]
/-- a comprehension whose turns leave the store and give something each -/
theorem comp_all {f : D → M (Option D)} {w : Wk} {Q : List D → Sto → Prop} {g : D → D} {l : List D} (hw : w.ok s = true) (hl : l.length ≤ line) (h : ∀ x ∈ l, W (f x s) (fun o s' => s' = s ∧ o = some (g x)) noE) (fin : Q (l.map g) s) : W (compL f w l [] s) Q E :=
  compL_map (g := fun x => some (g x)) hw hl h (by rw [filterMap_some]; exact fin)
@[simp] theorem wk_ok0 {l : List D} : (⟨l, [], none⟩ : Wk).ok s = true := Eq.trans rfl rfl
theorem dep_one {l : List D} (h : ∀ d ∈ l, d.dep = 0) : D.deps l = 0 := by
  induction l with
  | nil => rfl
  | cons x l ih =>
    show max x.dep (D.deps l) = 0
    rw [h x List.mem_cons_self, ih fun d hd => h d (List.mem_cons_of_mem _ hd)]; rfl
@[simp] theorem dep_int : D.dep (.int i) = 0 := Eq.trans rfl rfl
@[simp] theorem dep_str {t : Tx} : D.dep (.str t) = 0 := Eq.trans rfl rfl
@[simp] theorem dep_bl {b : Bool} : D.dep (.bl b) = 0 := Eq.trans rfl rfl
@[simp] theorem dep_non : D.dep .non = 0 := Eq.trans rfl rfl
@[simp] theorem dep_tup {l : List D} : D.dep (.tup l) = D.deps l + 1 := Eq.trans rfl rfl
@[simp] theorem dep_lst {l : List D} : D.dep (.lst l) = D.deps l + 1 := Eq.trans rfl rfl
@[simp] theorem dep_kt {l : List D} : D.dep (.kt l) = D.deps l + 1 := Eq.trans rfl rfl
@[simp] theorem deps_nil : D.deps [] = 0 := Eq.trans rfl rfl
@[simp] theorem deps_cons {l : List D} : D.deps (d :: l) = max d.dep (D.deps l) := Eq.trans rfl rfl
@[simp] theorem shallow_iff : shallow a b = true ↔ (a.pure = true ∧ b.pure = true) ∧ a.dep ≤ 60 ∧ b.dep ≤ 60 := by
  unfold shallow; simp
@[simp] theorem eqD_int : eqD (.int i) (.int j) = (i == j) := Eq.trans rfl rfl
@[simp] theorem eqD_str {x y : Tx} : eqD (.str x) (.str y) = (x == y) := Eq.trans rfl rfl
@[simp] theorem eqD_tup {x y : List D} : eqD (.tup x) (.tup y) = eqDs x y := Eq.trans rfl rfl
@[simp] theorem eqD_lst {x y : List D} : eqD (.lst x) (.lst y) = eqDs x y := Eq.trans rfl rfl
@[simp] theorem eqDs_cons {x y : List D} : eqDs (a :: x) (b :: y) = (eqD a b && eqDs x y) := Eq.trans rfl rfl
@[simp] theorem eqDs_nil : eqDs [] [] = true := Eq.trans rfl rfl
@[simp] theorem eqDs_nc {y : List D} : eqDs [] (b :: y) = false := Eq.trans rfl rfl
@[simp] theorem eqDs_cn {y : List D} : eqDs (b :: y) [] = false := Eq.trans rfl rfl
theorem atI_nat {l : List α} {n : Nat} (h : n < l.length) : atI l (n : Int) = l[n]? := by
  unfold atI ixN
  have h1 : (0 : Int) ≤ (n : Int) := Int.natCast_nonneg n
  have h2 : (n : Int) < (l.length : Int) := by omega
  rw [if_pos h1, if_pos h2]
  rfl
@[simp] theorem atI_0 {l : List α} {x : α} : atI (x :: l) 0 = some x := atI_nat (n := 0) (by simp)
@[simp] theorem atI_1 {l : List α} {x y : α} : atI (x :: y :: l) 1 = some y := atI_nat (n := 1) (by simp)
@[simp] theorem atI_2 {l : List α} {x y z : α} : atI (x :: y :: z :: l) 2 = some z := atI_nat (n := 2) (by simp)
@[simp] theorem atI_3 {l : List α} {x y z u : α} : atI (x :: y :: z :: u :: l) 3 = some u := atI_nat (n := 3) (by simp)
@[simp] theorem meTy_join {z : Tx} : meTy .join (.str z) s = .ok () s := Eq.trans rfl rfl
@[simp] theorem meTy_split {z : Tx} : meTy .split (.str z) s = .ok () s := Eq.trans rfl rfl
@[simp] theorem meTy_part {z : Tx} : meTy .partition (.str z) s = .ok () s := Eq.trans rfl rfl
@[simp] theorem meTy_sw {z : Tx} : meTy .startswith (.str z) s = .ok () s := Eq.trans rfl rfl
@[simp] theorem meTy_ixL {l : List D} : meTy .index (.lst l) s = .ok () s := Eq.trans rfl rfl
@[simp] theorem meTy_ctL {l : List D} : meTy .count (.lst l) s = .ok () s := Eq.trans rfl rfl
theorem meTy_app {n : Nat} {l : List D} (h : s[n]? = some (.lst l)) : meTy .append (.ref n) s = .ok () s := by
  show (match s[n]? with | some (.lst _) => R.ok () s | _ => R.bad) = _
  rw [h]
theorem meM_app {n : Nat} {l : List D} {x : D} (h : s[n]? = some (.lst l)) (hl : l.length < line) : meM .append (.ref n) [x] s = .ok .non (s.set n (.lst (l ++ [x]))) := by
  show (match s[n]? with
    | some (.lst l) => if l.length < line then R.ok D.non (s.set n (.lst (l ++ [x]))) else .bad
    | _ => .bad) = _
  rw [h]
  show (if l.length < line then _ else _) = _
  rw [if_pos hl]
theorem meM_join {z : Tx} {l : List D} {ts : List Tx} (h : strsOf l = some ts) (hl : (ts.map List.length).sum + ts.length * z.length ≤ line) : meM .join (.str z) [.lst l] s = .ok (.str (joinT z ts)) s := by
  show (match strsOf l with
    | some ts => if (ts.map List.length).sum + ts.length * z.length ≤ line then R.ok (D.str (joinT z ts)) s else .bad
    | none => .bad) = _
  rw [h]
  show (if _ then _ else _) = _
  rw [if_pos hl]
/-! ### targets -/
@[simp] theorem bindT_tup {l : Tgs} {ds : List D} : bindT (.t l) (.tup ds) ρ = bindTs l ds ρ := Eq.trans rfl rfl
@[simp] theorem bindT_lst {l : Tgs} {ds : List D} : bindT (.t l) (.lst ds) ρ = bindTs l ds ρ := Eq.trans rfl rfl
@[simp] theorem bindT_kt {l : Tgs} {ds : List D} : bindT (.t l) (.kt ds) ρ = bindTs l ds ρ := Eq.trans rfl rfl
@[simp] theorem bindTs_nil : bindTs .nil [] ρ = some ρ := Eq.trans rfl rfl
@[simp] theorem bindTs_cons {t : Tg} {r : Tgs} {ds : List D} : bindTs (.cons t r) (d :: ds) ρ = match bindT t d ρ with
  | some ρ' => bindTs r ds ρ'
  | none => none := Eq.trans rfl rfl
theorem bindT_v {n : Nat} : bindT (.v n) d ρ = if n < ρ.length then some (ρ.set n (some d)) else none := rfl
end
end PZ
end
section
/-! Ma: whole numbers, words, fractions. -/
set_option linter.all false
set_option maxRecDepth 100000
set_option Elab.async false
namespace PZ
section
variable {k : Nat} {s : Sto} {d : D} {i j : Int} {G : Glo} {ρ : Env} {E : Nat → Sto → Prop}
/-! ### is_whole -/
def wholeB : D → Bool
  | .int _ => true
  | _ => false
theorem c_is_whole (h : d.pure = true) : (glo Pg (k + 1)).fn i_is_whole [d] s = .ok (.bl (wholeB d)) s := by
  refine ok_of (W_fn (d := d_is_whole) rfl rfl rfl ?_)
  simp [d_is_whole, b_is_whole, env0, h]
  cases d <;> simp [isIntD, isBlD, wholeB]
/-- each sign of a text is one of these -/
theorem comp_signs {v : Nat} {z t : Tx} {Q : List D → Sto → Prop} (hv : v < ρ.length) (hl : t.length ≤ line) (fin : Q (t.map fun c => D.bl (decide (c ∈ z))) s) :
    W (compL (cF G (.op .isin (.v v) (.c (.str z))) (.v v) (.c (.bl true)) ρ) ⟨t.map (fun c => D.str [c]), [], none⟩ (t.map fun c => D.str [c]) [] s) Q E := by
  refine comp_all (g := fun x => match x with | .str [c] => D.bl (decide (c ∈ z)) | _ => D.non) rfl (by simpa using hl) (fun x hx => ?_) ?_
  · obtain ⟨c, hc, rfl⟩ := List.mem_map.mp hx
    have hb : bindT (.v v) (.str [c]) (wipeE ρ (Tg.v v).slots) = some ((wipeE ρ [v]).set v (some (.str [c]))) := by
      show (if v < (wipeE ρ [v]).length then _ else _) = _
      rw [if_pos (by simp [wipeE]; exact hv)]; rfl
    rw [W_cF hb]
    refine ⟨true, rfl, fun _ => ?_, fun q => nomatch q⟩
    have hg : (((wipeE ρ [v]).set v (some (.str [c])))[v]?).join = some (.str [c]) := by
      rw [List.getElem?_set_self (by simp [wipeE]; exact hv)]; rfl
    rw [W_op, W_v, hg, W_some, W_c, opM_here rfl rfl, opD_isin]
    show W (M.opt ((some (decide (c ∈ z))).map D.bl) s) _ _
    exact ⟨rfl, rfl⟩
  · rw [List.map_map]
    exact fin
/-! ### is_word -/
def smallT : Tx := [97, 98, 99, 100, 101, 102, 103, 104, 105, 106, 107, 108, 109, 110, 111, 112, 113, 114, 115, 116, 117, 118, 119, 120, 121, 122]
def wordT (t : Tx) : Bool := decide (1 ≤ t.length) && (decide (t.length ≤ 8) && t.all fun c => decide (c ∈ smallT))
def wordB : D → Bool
  | .str t => wordT t
  | _ => false
/-- a text not too long -/
def D.fine : D → Bool
  | .str t => decide (t.length ≤ line)
  | _ => true
theorem c_is_word (h : d.pure = true) (hl : d.fine = true) : (glo Pg (k + 1)).fn i_is_word [d] s = .ok (.bl (wordB d)) s := by
  refine ok_of (W_fn (d := d_is_word) rfl rfl rfl ?_)
  simp only [d_is_word, b_is_word, env0]
  cases d with
  | str t =>
    have ht : t.length ≤ line := of_decide_eq_true hl
    by_cases h1 : 1 ≤ t.length
    · have f1 : (1 : Int) ≤ (t.length : Int) := by omega
      by_cases h8 : t.length ≤ 8
      · have f8 : (t.length : Int) ≤ 8 := by omega
        simp [isStrD, ht, f1, f8]
        refine ⟨_, rfl, comp_signs (by simp) ht ⟨_, blsOf_map, ?_⟩⟩
        simp [wordB, wordT, h1, h8, List.all_map, smallT, Function.comp_def]
      · have f8 : ¬ (t.length : Int) ≤ 8 := by omega
        simp [isStrD, ht, f1, f8, wordB, wordT, h8]
    · have f1 : ¬ (1 : Int) ≤ (t.length : Int) := by omega
      simp [isStrD, ht, f1, wordB, wordT, h1]
  | _ => simp [isStrD, wordB, h]
/-! ### is_code -/
def figT : Tx := [48, 49, 50, 51]
def codeT (t : Tx) : Bool := decide (t.length ≤ 9) && t.all fun c => decide (c ∈ figT)
def codeB : D → Bool
  | .str t => codeT t
  | _ => false
theorem c_is_code (h : d.pure = true) (hl : d.fine = true) : (glo Pg (k + 1)).fn i_is_code [d] s = .ok (.bl (codeB d)) s := by
  refine ok_of (W_fn (d := d_is_code) rfl rfl rfl ?_)
  simp only [d_is_code, b_is_code, env0]
  cases d with
  | str t =>
    have ht : t.length ≤ line := of_decide_eq_true hl
    by_cases h9 : t.length ≤ 9
    · have f9 : (t.length : Int) ≤ 9 := by omega
      simp [isStrD, ht, f9]
      refine ⟨_, rfl, comp_signs (by simp) ht ⟨_, blsOf_map, ?_⟩⟩
      simp [codeB, codeT, h9, List.all_map, figT, Function.comp_def]
    · have f9 : ¬ (t.length : Int) ≤ 9 := by omega
      simp [isStrD, ht, f9, codeB, codeT, h9]
  | _ => simp [isStrD, codeB, h]
/-! ### is_day -/
def dayB : D → Bool
  | .int i => decide (0 ≤ i)
  | _ => false
theorem c_is_day (h : d.pure = true) : (glo Pg (k + 2)).fn i_is_day [d] s = .ok (.bl (dayB d)) s := by
  refine ok_of (W_fn (d := d_is_day) rfl rfl rfl ?_)
  have e := c_is_whole (k := k) (s := s) h
  simp [d_is_day, b_is_day, env0, e]
  cases d <;> simp [wholeB, dayB]
/-! ### common_of -/
/-- small enough that a gcd is reached -/
def Sm (i : Int) : Prop := i.natAbs < 2 ^ 4000
theorem fmod_nat (a b : Nat) : Int.fmod (a : Int) (b : Int) = ((a % b : Nat) : Int) := by
  rw [Int.fmod_eq_emod_of_nonneg _ (Int.natCast_nonneg b)]; rfl
theorem log2_mono {a b : Nat} (h : a ≤ b) : a.log2 ≤ b.log2 := by
  by_cases ha : a = 0
  · subst ha; simp
  · exact (Nat.le_log2 (by omega)).mpr (Nat.le_trans (Nat.log2_self_le ha) h)
/-- Euclid's steps -/
def eM (a b : Nat) : Nat := if b = 0 then 0 else (a * b).log2 + (if a < b then 2 else 1)
theorem eM_lt {a b : Nat} (hb : b ≠ 0) : eM b (a % b) < eM a b := by
  have hlt : a % b < b := Nat.mod_lt _ (Nat.pos_of_ne_zero hb)
  unfold eM
  rw [if_neg hb]
  by_cases hr : a % b = 0
  · rw [if_pos hr]; split <;> omega
  · rw [if_neg hr, if_neg (Nat.not_lt.mpr (Nat.le_of_lt hlt))]
    by_cases hab : a < b
    · rw [if_pos hab, Nat.mod_eq_of_lt hab, Nat.mul_comm b a]; omega
    · rw [if_neg hab]
      have h2 : 2 * (a % b) ≤ a := by
        have h3 := Nat.div_add_mod a b
        have h4 : 1 ≤ a / b := (Nat.le_div_iff_mul_le (Nat.pos_of_ne_zero hb)).mpr (by omega)
        have h5 : b ≤ b * (a / b) := Nat.le_mul_of_pos_right _ h4
        omega
      have h6 : b * (a % b) ≠ 0 := Nat.mul_ne_zero hb hr
      have h7 : (2 * (b * (a % b))).log2 = (b * (a % b)).log2 + 1 := Nat.log2_two_mul h6
      have h8 : 2 * (b * (a % b)) ≤ a * b := by
        have := Nat.mul_le_mul_left b h2
        rw [Nat.mul_comm a b, Nat.mul_left_comm]
        exact this
      have := log2_mono h8
      omega
theorem eM_le {a b : Nat} (ha : a < 2 ^ 4000) (hb : b < 2 ^ 4000) : eM a b < turns := by
  have h : (a * b).log2 ≤ 8000 := by
    by_cases z : a * b = 0
    · rw [z]; simp
    · have : (a * b).log2 < 8001 := (Nat.log2_lt z).mpr (by
        have h1 : a * b < 2 ^ 4000 * 2 ^ 4000 := Nat.mul_lt_mul'' ha hb
        have h2 : (2 : Nat) ^ 4000 * 2 ^ 4000 = 2 ^ 8000 := by rw [← Nat.pow_add]
        have h3 : (2 : Nat) ^ 8000 ≤ 2 ^ 8001 := Nat.pow_le_pow_right (by decide) (by decide)
        omega)
      omega
  unfold eM turns
  split
  · omega
  · split <;> omega
/-- a loop that takes two numbers to their greatest common one -/
theorem euclid {c : CE} {b : CSs} {P : Ps} {u v : Nat} (x y : Nat) (hx : x < 2 ^ 4000) (hy : y < 2 ^ 4000) (hρ : ρ[u]? = some (some (.int x)) ∧ ρ[v]? = some (some (.int y)))
    (hc : ∀ (ρ : Env) (x y : Nat), ρ[u]? = some (some (.int x)) → ρ[v]? = some (some (.int y)) → (ev G c ρ).bl s = .ok (decide (y ≠ 0)) s)
    (hb : ∀ (ρ : Env) (x y : Nat), ρ[u]? = some (some (.int x)) → ρ[v]? = some (some (.int y)) → y ≠ 0 → WS (evSs G b ρ s) { P with nx := fun ρ' s' => s' = s ∧ ρ' = (ρ.set u (some (.int y))).set v (some (.int ((x % y : Nat)))), ct := fun _ _ => False })
    (huv : u ≠ v) (fin : ∀ ρ' : Env, ρ' = (ρ.set u (some (.int (Nat.gcd x y : Nat)))).set v (some (.int 0)) → P.nx ρ' s) : WS (evS G (.whl c b) ρ s) P := by
  obtain ⟨h1, h2⟩ := hρ
  have lu : u < ρ.length := (List.getElem?_eq_some_iff.mp h1).1
  have lv : v < ρ.length := (List.getElem?_eq_some_iff.mp h2).1
  rw [WS_whl]
  refine whlL_inv (fun ρ' s' => s' = s ∧ ∃ a b : Nat, ρ' = (ρ.set u (some (.int a))).set v (some (.int b)) ∧ Nat.gcd a b = Nat.gcd x y ∧ a < 2 ^ 4000 ∧ b < 2 ^ 4000)
    (fun ρ' _ => match ρ'[u]?, ρ'[v]? with | some (some (.int a)), some (some (.int b)) => eM a.toNat b.toNat | _, _ => 0) _ ρ s ⟨rfl, x, y, ?_, rfl, hx, hy⟩ ?_ fun ρ' s' hI => ?_
  · apply List.ext_getElem?
    intro n
    by_cases e2 : n = v
    · subst e2; rw [List.getElem?_set_self (by simpa using lv), h2]
    · rw [List.getElem?_set_ne (Ne.symm e2)]
      by_cases e1 : n = u
      · subst e1; rw [List.getElem?_set_self lu, h1]
      · rw [List.getElem?_set_ne (Ne.symm e1)]
  · simp only [h1, h2]
    exact eM_le hx hy
  · obtain ⟨rfl, a, b', rfl, hg, ha, hb'⟩ := hI
    have g1 : ((ρ.set u (some (.int (a : Int)))).set v (some (.int (b' : Int))))[u]? = some (some (.int (a : Int))) := by
      rw [List.getElem?_set_ne (Ne.symm huv), List.getElem?_set_self lu]
    have g2 : ((ρ.set u (some (.int (a : Int)))).set v (some (.int (b' : Int))))[v]? = some (some (.int (b' : Int))) := by
      rw [List.getElem?_set_self (by simpa using lv)]
    rw [hc _ a b' g1 g2]
    refine ⟨fun q => ?_, fun q => ?_⟩
    · have hne : b' ≠ 0 := by simpa using q
      refine (hb _ a b' g1 g2 hne).mono (fun ρ2 s2 z => ?_) (fun _ _ z => z) (fun _ _ z => z) (fun _ _ z => z.elim)
      obtain ⟨rfl, rfl⟩ := z
      have e3 : ((((ρ.set u (some (.int (a : Int)))).set v (some (.int (b' : Int)))).set u (some (.int (b' : Int)))).set v (some (.int ((a % b' : Nat) : Int)))) = (ρ.set u (some (.int (b' : Int)))).set v (some (.int ((a % b' : Nat) : Int))) := by
        apply List.ext_getElem?
        intro n
        by_cases e2 : n = v
        · subst e2; rw [List.getElem?_set_self (by simpa using lv), List.getElem?_set_self (by simpa using lv)]
        · rw [List.getElem?_set_ne (Ne.symm e2), List.getElem?_set_ne (Ne.symm e2)]
          by_cases e1 : n = u
          · subst e1; rw [List.getElem?_set_self (by simpa using lu), List.getElem?_set_self lu]
          · rw [List.getElem?_set_ne (Ne.symm e1), List.getElem?_set_ne (Ne.symm e1), List.getElem?_set_ne (Ne.symm e2), List.getElem?_set_ne (Ne.symm e1)]
      rw [e3]
      refine ⟨⟨rfl, b', a % b', rfl, ?_, hb', Nat.lt_of_le_of_lt (Nat.mod_le _ _) ha⟩, ?_⟩
      · rw [← hg, Nat.gcd_comm a b', Nat.gcd_rec b' a, Nat.gcd_comm]
      · have k1 : ((ρ.set u (some (.int (b' : Int)))).set v (some (.int ((a % b' : Nat) : Int))))[u]? = some (some (.int (b' : Int))) := by
          rw [List.getElem?_set_ne (Ne.symm huv), List.getElem?_set_self lu]
        have k2 : ((ρ.set u (some (.int (b' : Int)))).set v (some (.int ((a % b' : Nat) : Int))))[v]? = some (some (.int ((a % b' : Nat) : Int))) := by
          rw [List.getElem?_set_self (by simpa using lv)]
        simp only [g1, g2, k1, k2, Int.toNat_natCast]
        exact eM_lt hne
    · have hz : b' = 0 := by simpa using q
      subst hz
      refine fin _ ?_
      rw [← hg, Nat.gcd_zero_right]; rfl
/-- the value without its sign, as Python tells it -/
theorem abs_nat (i : Int) : (if i < 0 then -i else i) = (i.natAbs : Int) := by split <;> omega
theorem c_common_of (hi : Sm i) (hj : Sm j) : (glo Pg (k + 1)).fn i_common_of [.int i, .int j] s = .ok (.int (Nat.gcd i.natAbs j.natAbs : Nat)) s := by
  refine ok_of (W_fn (d := d_common_of) rfl rfl rfl ?_)
  simp [d_common_of, b_common_of, env0, abs_nat, bindT, bindTs, unp]
  refine euclid (u := 0) (v := 1) i.natAbs j.natAbs hi hj (by simp) (fun ρ x y h1 h2 => ?_) (fun ρ x y h1 h2 hy => ?_) (by decide) fun ρ' e => ?_
  · refine ok_of ?_
    simp [h2]
    exact Classical.em _
  · have l0 := (List.getElem?_eq_some_iff.mp h1).1
    have l1 := (List.getElem?_eq_some_iff.mp h2).1
    have b0 : ∀ d, bindT (.v 0) d ρ = some (ρ.set 0 (some d)) := fun d => if_pos l0
    have b1 : ∀ d d', bindT (.v 1) d (ρ.set 0 d') = some ((ρ.set 0 d').set 1 (some d)) := fun d d' => if_pos (by simpa using l1)
    clear l0 l1
    simp [h1, h2, b0, b1, hy, fmod_nat]
  · subst e; simp
/-! ### is_fraction -/
/-- in least terms -/
def Fr (i j : Int) : Prop := 0 < j ∧ Nat.gcd i.natAbs j.natAbs = 1
instance : Decidable (Fr i j) := inferInstanceAs (Decidable (_ ∧ _))
def fracB : D → Bool
  | .tup [.int i, .int j] => decide (Fr i j)
  | .kt [.int i, .int j] => decide (Fr i j)
  | _ => false
/-- numbers of a fraction-like thing are small -/
def D.small2 : D → Prop
  | .tup [.int i, .int j] => Sm i ∧ Sm j
  | .kt [.int i, .int j] => Sm i ∧ Sm j
  | _ => True
theorem opD_ixK {l : List D} : opD .ix (.kt l) (.int i) = none := rfl
/-- no tuple that may be a key -/
def D.nkt : D → Bool
  | .kt _ => false
  | _ => true
theorem c_is_fraction (h : d.pure = true) (hn : d.nkt = true) (hs : d.small2) : (glo Pg (k + 2)).fn i_is_fraction [d] s = .ok (.bl (fracB d)) s := by
  refine ok_of (W_fn (d := d_is_fraction) rfl rfl rfl ?_)
  simp only [d_is_fraction, b_is_fraction, env0]
  cases d with
  | tup l =>
    match l, h, hs with
    | [], h, hs => simp [fracB]
    | [x], h, hs => simp_all [fracB]
    | x :: y :: z :: l, h, hs =>
      have f : ¬ ((l.length : Int) + 1 + 1 + 1 = 2) := by omega
      simp_all [fracB]
    | [x, y], h, hs =>
      simp at h
      have ex := c_is_whole (k := k) (s := s) h.1
      have ey := c_is_whole (k := k) (s := s) h.2
      simp [h, atI, ixN, ex, ey]
      cases x <;> simp [wholeB, fracB]
      cases y <;> simp [wholeB, fracB]
      rename_i i j
      have ec := c_common_of (k := k) (s := s) hs.1 hs.2
      simp [ec, Fr]
      by_cases hj : 0 < j
      · simp [hj]
        right
        rw [Bool.eq_iff_iff]
        simp only [beq_iff_eq, decide_eq_true_eq]
        omega
      · simp [hj]
        omega
  | kt l => cases hn
  | _ => simp [fracB, h]
/-! ### shapes of forms -/
def isOfB (c : Nat) (d : D) : Bool := if c = 119 then wordB d else if c = 102 then fracB d else if c = 99 then codeB d else dayB d
/-- what may be asked -/
structure D.ask (d : D) : Prop where
  p : d.pure = true
  f : d.fine = true
  n : d.nkt = true
  s : d.small2
theorem c_is_of {c : Nat} (h : d.ask) : (glo Pg (k + 3)).fn i_is_of [.str [c], d] s = .ok (.bl (isOfB c d)) s := by
  refine ok_of (W_fn (d := d_is_of) rfl rfl rfl ?_)
  have e1 := c_is_word (k := k + 1) (s := s) h.p h.f
  have e2 := c_is_fraction (k := k) (s := s) h.p h.n h.s
  have e3 := c_is_code (k := k + 1) (s := s) h.p h.f
  have e4 := c_is_day (k := k) (s := s) h.p
  simp [d_is_of, b_is_of, env0, isOfB, bindT_v]
  by_cases c1 : c = 119
  · simp [c1, e1]
  · by_cases c2 : c = 102
    · simp [c1, c2, e2]
    · by_cases c3 : c = 99
      · simp [c1, c2, c3, e3]
      · simp [c1, c2, c3, e4]
def shapesT : List (Tx × Tx) := [([112, 111, 105, 110, 116], [119, 102, 102]), ([116, 105, 108, 101], [99]), ([115, 112, 111, 116], [110, 102]), ([97, 100, 100, 114, 101, 115, 115], [119, 110]), ([114, 101, 103, 105, 111, 110], [119])]
def allOf : Tx → List D → Bool
  | c :: cs, d :: ds => isOfB c d && allOf cs ds
  | _, _ => true
def shapeB : D → Bool
  | .tup (.str w :: l) => match shapesT.lookup w with
    | some ks => decide (l.length = ks.length) && allOf ks l
    | none => false
  | _ => false
theorem dct0 : (glo Pg k).dct 0 = Pg.dct 0 := glo_dct
end
end PZ
end
section
/-! Mb: forms' shapes, their texts. -/
set_option linter.all false
set_option maxRecDepth 100000
set_option Elab.async false
namespace PZ
section
variable {k : Nat} {s : Sto} {d : D} {i j : Int} {G : Glo} {ρ : Env} {E : Nat → Sto → Prop}
theorem dct1 (t : Tx) : ((glo Pg k).dct 1).lookup t = (shapesT.lookup t).map .str := by
  rw [glo_dct]
  show (shapesT.map fun p => (p.1, D.str p.2)).lookup t = _
  induction shapesT with
  | nil => rfl
  | cons p l ih =>
    obtain ⟨p1, p2⟩ := p
    simp only [List.map_cons, List.lookup_cons]
    cases t == p1 with
    | true => rfl
    | false => exact ih
theorem kinds_len {w ks : Tx} (h : shapesT.lookup w = some ks) : ks.length ≤ 3 := by
  unfold shapesT at h
  simp only [List.lookup_cons, List.lookup_nil] at h
  repeat' split at h
  all_goals (cases h; try decide)
def gOf : D → D
  | .tup [.str [c], x] => .bl (isOfB c x)
  | _ => .non
theorem zip_of : ∀ (ks : Tx) (l : List D), ∃ bs, blsOf ((zip2L (ks.map fun c => .str [c]) l).map gOf) = some bs ∧ bs.all id = allOf ks l
  | [], l => ⟨[], by cases l <;> rfl, by cases l <;> rfl⟩
  | c :: ks, [] => ⟨[], rfl, rfl⟩
  | c :: ks, x :: l => by
    obtain ⟨bs, h1, h2⟩ := zip_of ks l
    refine ⟨isOfB c x :: bs, ?_, ?_⟩
    · show (blsOf ((zip2L (ks.map fun c => .str [c]) l).map gOf)).map (isOfB c x :: ·) = _
      rw [h1]; rfl
    · simp [allOf, h2]
theorem zip_mem : ∀ {ks : Tx} {l : List D} {t : D}, t ∈ zip2L (ks.map fun c => .str [c]) l → ∃ c x, t = .tup [.str [c], x] ∧ x ∈ l
  | [], l, t, h => by cases l <;> cases h
  | c :: ks, [], t, h => by cases h
  | c :: ks, x :: l, t, h => by
    rcases List.mem_cons.mp h with e | e
    · exact ⟨c, x, e, List.mem_cons_self⟩
    · obtain ⟨c', x', e1, e2⟩ := zip_mem e
      exact ⟨c', x', e1, List.mem_cons_of_mem _ e2⟩
theorem zip_len : ∀ (ks : Tx) (l : List D), (zip2L (ks.map fun c => .str [c]) l).length ≤ ks.length
  | [], l => by cases l <;> exact Nat.le_refl _
  | c :: ks, [] => Nat.zero_le _
  | c :: ks, x :: l => Nat.succ_le_succ (zip_len ks l)
theorem c_has_shape (hp : d.pure = true) (hd : d.dep ≤ 60) (hn : d.nkt = true) (ha : ∀ x l, d = .tup (x :: l) → ∀ y ∈ l, y.ask) : (glo Pg (k + 4)).fn i_has_shape [d] s = .ok (.bl (shapeB d)) s := by
  refine ok_of (W_fn (d := d_has_shape) rfl rfl rfl ?_)
  simp only [d_has_shape, b_has_shape, env0]
  cases d with
  | kt l => cases hn
  | tup l =>
    cases l with
    | nil => simp [shapeB, eqD]
    | cons x l =>
      simp at hp hd
      have e0 : eqDs (x :: l) [] = false := rfl
      have hns : isStrD x = false → shapeB (.tup (x :: l)) = false := by cases x <;> simp [shapeB]
      cases hx : isStrD x with
      | false => simp [hp, hd, e0, hx, hns hx]
      | true =>
        cases x <;> try (cases hx; done)
        rename_i w
        cases hk : shapesT.lookup w with
        | none =>
          simp [hp, hd, e0, dct1, bindT_v, txD, hk, shapeB, -List.lookup_isSome_iff, -List.lookup_eq_none_iff, -List.lookup_eq_none_iff]
          simpa using hd
        | some ks =>
          have kl := kinds_len hk
          have kl2 : ks.length ≤ line := by unfold line; omega
          by_cases hl : l.length = ks.length
          · have f1 : ((l.length : Int) + 1 == (ks.length : Int) + 1) = true := by simp [hl]
            have dl : D.deps l ≤ 59 := by simp at hd; exact hd
            simp [hp, dl, e0, dct1, bindT_v, txD, hk, kl2, f1, -List.lookup_isSome_iff, -List.lookup_eq_none_iff, intD, sliceD, cutL, sIx, seqsOf, seqOf, zipL]
            refine .inr ⟨by omega, comp_all (g := gOf) rfl ?_ (fun x hx => ?_) ?_⟩
            · have := zip_len ks l
              unfold line; omega
            · obtain ⟨c, y, rfl, hy⟩ := zip_mem hx
              rw [W_cF (ρ' := [some (.tup (.str w :: l)), some (.str ks), some (.str [c]), some y]) rfl]
              have e := c_is_of (k := k) (s := s) (c := c) (ha _ _ rfl y hy)
              simp [e, gOf]
            · obtain ⟨bs, h1, h2⟩ := zip_of ks l
              refine ⟨bs, h1, rfl, ?_, rfl⟩
              rw [h2]
              simp [shapeB, hk, hl]
          · have f1 : ((l.length : Int) + 1 == (ks.length : Int) + 1) = false := by simp; omega
            have dl : D.deps l ≤ 59 := by simp at hd; exact hd
            simp [hp, dl, e0, dct1, bindT_v, txD, hk, kl2, f1, shapeB, hl, -List.lookup_isSome_iff]
            omega
  | _ => simp [shapeB, hp, hd, eqD]; try omega
/-! ### texts of fractions and forms -/
def fracT (i j : Int) : Tx := if j = 1 then intT i else intT i ++ ([47] ++ intT j)
theorem log2_le' {a : Nat} (h : a < 1000000000000000000000000000000) : a.log2 ≤ 99 := by
  by_cases z : a = 0
  · subst z; simp
  · have := (Nat.log2_lt (k := 100) z).mpr (Nat.lt_of_lt_of_le h (by decide))
    omega
/-- small enough to be told -/
def Tl (i : Int) : Prop := i.natAbs < 1000000000000000000000000000000
theorem Tl.log {i : Int} (h : Tl i) : i.natAbs.log2 < 100 := by
  have := log2_le' h
  omega
theorem natT_len : ∀ n : Nat, (natT n).length ≤ n.log2 + 1 := by
  intro n
  induction n using Nat.strongRecOn with
  | ind n ih =>
    unfold natT at *
    rw [List.length_map]
    by_cases h : n < 10
    · rw [Nat.toDigits_of_lt_base h]; simp
    · rw [Nat.toDigits_eq_if (by decide), if_neg h, List.length_append]
      have h1 := ih (n / 10) (by omega)
      rw [List.length_map] at h1
      have h2 : (n / 10).log2 + 1 ≤ n.log2 := by
        have h3 : 2 * (n / 10) ≤ n := by omega
        have h4 : n / 10 ≠ 0 := by omega
        rw [← Nat.log2_two_mul h4]
        exact log2_mono h3
      simp
      omega
theorem intT_len (i : Int) : (intT i).length ≤ i.natAbs.log2 + 2 := by
  have := natT_len i.natAbs
  unfold intT
  split
  · rw [List.length_cons]; omega
  · omega
theorem natT_len10 : ∀ (d n : Nat), n < 10 ^ (d + 1) → (natT n).length ≤ d + 1
  | 0, n, h => by
    unfold natT
    rw [List.length_map, Nat.toDigits_of_lt_base (by simpa using h)]; simp
  | d + 1, n, h => by
    unfold natT
    rw [List.length_map]
    by_cases h1 : n < 10
    · rw [Nat.toDigits_of_lt_base h1]; simp
    · rw [Nat.toDigits_eq_if (by decide), if_neg h1, List.length_append]
      have := natT_len10 d (n / 10) (by rw [Nat.pow_succ] at h; omega)
      unfold natT at this
      rw [List.length_map] at this
      simp
      omega
theorem Tl.len (h : Tl i) : (intT i).length ≤ 31 := by
  have := natT_len10 29 i.natAbs (Nat.lt_of_lt_of_le h (by decide))
  unfold intT
  split
  · rw [List.length_cons]; omega
  · omega
theorem c_written (hi : Tl i) (hj : Tl j) : (glo Pg (k + 1)).fn i_written [.tup [.int i, .int j]] s = .ok (.str (fracT i j)) s := by
  refine ok_of (W_fn (d := d_written) rfl rfl rfl ?_)
  have l1 := hi.len
  have l2 := hj.len
  have hi := hi.log
  have hj := hj.log
  have p1 : pieceT (.int i) = some (intT i) := if_pos (by omega)
  have p2 : pieceT (.int j) = some (intT j) := if_pos (by omega)
  simp [d_written, b_written, env0, bindT_v, p1, p2]
  by_cases h : j = 1
  · exact .inr ⟨h, by unfold line; omega, by simp [fracT, h]⟩
  · refine .inl ⟨h, by unfold line; omega, [47], rfl, ?_, ?_, by simp [fracT, h]⟩
    · unfold line; simp; omega
    · unfold line; simp; omega
/-- fraction_text -/
theorem c_fraction_text (h : Fr i j) (hi : Tl i) (hj : Tl j) (si : Sm i) (sj : Sm j) : (glo Pg (k + 3)).fn i_fraction_text [.tup [.int i, .int j]] s = .ok (.str (fracT i j)) s := by
  refine ok_of (W_fn (d := d_fraction_text) rfl rfl rfl ?_)
  have e1 := c_is_fraction (k := k) (s := s) (d := .tup [.int i, .int j]) rfl rfl ⟨si, sj⟩
  have e2 := c_written (k := k + 1) (s := s) hi hj
  simp [d_fraction_text, b_fraction_text, env0, e1, e2, fracB, h]
theorem x_fraction_text (hp : d.pure = true) (hn : d.nkt = true) (hs : d.small2) (h : fracB d = false) : (glo Pg (k + 3)).fn i_fraction_text [d] s = .exc 1 s := by
  refine exc_of (W_fn (d := d_fraction_text) rfl rfl rfl ?_)
  have e1 := c_is_fraction (k := k) (s := s) hp hn hs
  simp [d_fraction_text, b_fraction_text, env0, e1, h]
theorem x_form_text (hp : d.pure = true) (hd : d.dep ≤ 60) (hn : d.nkt = true) (ha : ∀ x l, d = .tup (x :: l) → ∀ y ∈ l, y.ask) (h : shapeB d = false) : (glo Pg (k + 5)).fn i_form_text [d] s = .exc 25 s := by
  refine exc_of (W_fn (d := d_form_text) rfl rfl rfl ?_)
  have e1 := c_has_shape (k := k) (s := s) hp hd hn ha
  simp [d_form_text, b_form_text, env0, e1, h]
theorem word_len {w : Tx} (h : wordT w = true) : 1 ≤ w.length ∧ w.length ≤ 8 := by
  unfold wordT at h
  simp only [Bool.and_eq_true, decide_eq_true_eq] at h
  exact ⟨h.1, h.2.1⟩
theorem code_len {w : Tx} (h : codeT w = true) : w.length ≤ 9 := by
  unfold codeT at h
  simp only [Bool.and_eq_true, decide_eq_true_eq] at h
  exact h.1
/-- what word_of makes of a thing of a kind -/
inductive Wd : Nat → D → Tx → Prop
  | f {a b : Int} : Fr a b ∧ Tl a ∧ Tl b ∧ Sm a ∧ Sm b → Wd 102 (.tup [.int a, .int b]) (fracT a b)
  | w {t : Tx} : wordT t = true → Wd 119 (.str t) t
  | c {t : Tx} : codeT t = true → Wd 99 (.str t) (if t = [] then [45] else t)
  | n {i : Int} : 0 ≤ i → Tl i → Wd 110 (.int i) (intT i)
theorem Wd.ask {c : Nat} {t : Tx} (h : Wd c d t) : d.ask := by
  cases h with
  | f h => exact ⟨rfl, rfl, rfl, h.2.2.2⟩
  | w h => exact ⟨rfl, decide_eq_true (by have := word_len h; unfold line; omega), rfl, trivial⟩
  | c h => exact ⟨rfl, decide_eq_true (by have := code_len h; unfold line; omega), rfl, trivial⟩
  | n _ _ => exact ⟨rfl, rfl, rfl, trivial⟩
theorem Wd.is {c : Nat} {t : Tx} (h : Wd c d t) : isOfB c d = true := by
  cases h with
  | f h => simp [isOfB, fracB, h.1]
  | w h => simp [isOfB, wordB, h]
  | c h => simp [isOfB, codeB, h]
  | n h _ => simp [isOfB, dayB, h]
theorem frac_len (hi : Tl i) (hj : Tl j) : (fracT i j).length ≤ 63 := by
  have l1 := hi.len
  have l2 := hj.len
  unfold fracT
  split
  · omega
  · simp; omega
theorem Wd.len {c : Nat} {t : Tx} (h : Wd c d t) : t.length ≤ 63 := by
  cases h with
  | f h => exact frac_len h.2.1 h.2.2.1
  | w h => have := word_len h; omega
  | c h => have := code_len h; split <;> simp <;> omega
  | @n i h h2 =>
    have := h2.len
    omega
theorem c_word_of {c : Nat} {t : Tx} (h : Wd c d t) : (glo Pg (k + 2)).fn i_word_of [.str [c], d] s = .ok (.str t) s := by
  refine ok_of (W_fn (d := d_word_of) rfl rfl rfl ?_)
  cases h with
  | f h =>
    have e := c_written (k := k) (s := s) h.2.1 h.2.2.1
    simp [d_word_of, b_word_of, env0, e]
  | w h =>
    have hl := word_len h
    have hne : t ≠ [] := by intro z; subst z; simp at hl
    simp [d_word_of, b_word_of, env0, hne]
  | @c t h =>
    by_cases hne : t = []
    · simp [d_word_of, b_word_of, env0, hne]
    · simp [d_word_of, b_word_of, env0, hne]
  | @n i h h2 =>
    have h2 := h2.log
    have h3 : i.natAbs.log2 < 1000 := by omega
    simp [d_word_of, b_word_of, env0, eqD, h3]
/-- the texts of a form's things -/
inductive Wds : Tx → List D → List Tx → Prop
  | nil : Wds [] [] []
  | cons {c : Nat} {x : D} {cs : Tx} {ds : List D} {t : Tx} {ts : List Tx} : Wd c x t → Wds cs ds ts → Wds (c :: cs) (x :: ds) (t :: ts)
theorem Wds.len {cs : Tx} {ds : List D} {ts : List Tx} (h : Wds cs ds ts) : ds.length = cs.length ∧ ts.length = cs.length := by
  induction h with
  | nil => exact ⟨rfl, rfl⟩
  | cons _ _ ih => exact ⟨by simp [ih.1], by simp [ih.2]⟩
theorem Wds.all {cs : Tx} {ds : List D} {ts : List Tx} (h : Wds cs ds ts) : allOf cs ds = true := by
  induction h with
  | nil => rfl
  | cons w _ ih => simp [allOf, w.is, ih]
theorem Wds.ask {cs : Tx} {ds : List D} {ts : List Tx} (h : Wds cs ds ts) : ∀ y ∈ ds, y.ask := by
  induction h with
  | nil => intro y hy; cases hy
  | cons w _ ih =>
    intro y hy
    rcases List.mem_cons.mp hy with e | e
    · exact e ▸ w.ask
    · exact ih y e
def wdT (c : Nat) : D → Tx
  | .tup [.int a, .int b] => fracT a b
  | .str t => if t = [] then [45] else t
  | .int i => intT i
  | _ => []
theorem Wd.eq {c : Nat} {t : Tx} (h : Wd c d t) : wdT c d = t := by
  cases h with
  | f h => rfl
  | w h =>
    have hl := word_len h
    have hne : t ≠ [] := by intro z; subst z; simp at hl
    simp [wdT, hne]
  | c h => rfl
  | n _ _ => rfl
def gWo : D → D
  | .tup [.str [c], x] => .str (wdT c x)
  | _ => .non
theorem Wds.map {cs : Tx} {ds : List D} {ts : List Tx} (h : Wds cs ds ts) : (zip2L (cs.map fun c => .str [c]) ds).map gWo = ts.map .str := by
  induction h with
  | nil => rfl
  | cons w _ ih =>
    simp only [List.map_cons, zip2L, ih]
    simp [gWo, w.eq]
theorem Wds.mem {cs : Tx} {ds : List D} {ts : List Tx} (h : Wds cs ds ts) : ∀ t ∈ zip2L (cs.map fun c => .str [c]) ds, ∃ c x tx, t = .tup [.str [c], x] ∧ Wd c x tx := by
  induction h with
  | nil => intro t ht; cases ht
  | @cons c x _ _ tx _ w _ ih =>
    intro t ht
    rcases List.mem_cons.mp ht with e | e
    · exact ⟨c, x, tx, e, w⟩
    · exact ih t e
theorem Wds.sum {cs : Tx} {ds : List D} {ts : List Tx} (h : Wds cs ds ts) : (ts.map List.length).sum ≤ 63 * cs.length := by
  induction h with
  | nil => simp
  | cons w _ ih =>
    have := w.len
    simp
    omega
theorem strsOf_strs : ∀ ts : List Tx, strsOf (ts.map .str) = some ts
  | [] => rfl
  | t :: ts => by simp [strsOf, strsOf_strs ts]
/-- form_by of such a form -/
theorem c_form_by {w ks : Tx} {ds : List D} {ts : List Tx} (hk : shapesT.lookup w = some ks) (h : Wds ks ds ts) (hw : w.length ≤ 100) : (glo Pg (k + 3)).fn i_form_by [.tup (.str w :: ds)] s = .ok (.str (joinT [32] (w :: ts))) s := by
  refine ok_of (W_fn (d := d_form_by) rfl rfl rfl ?_)
  have kl := kinds_len hk
  simp [d_form_by, b_form_by, env0, dct1, bindT_v, txD, hk, -List.lookup_isSome_iff, intD, sliceD, cutL, sIx, seqsOf, seqOf, zipL]
  refine comp_all (g := gWo) rfl ?_ (fun x hx => ?_) ?_
  · have := zip_len ks ds
    unfold line; omega
  · obtain ⟨c, y, tx, rfl, hw⟩ := h.mem x hx
    rw [W_cF (ρ' := [some (.tup (.str w :: ds)), some (.str ks), some (.str [c]), some y]) rfl]
    have e := c_word_of (k := k) (s := s) hw
    simp [e, gWo, hw.eq]
  · rw [h.map]
    have hl := h.len
    have hs := h.sum
    have e : strsOf (D.str w :: ts.map .str) = some (w :: ts) := by
      show (strsOf (ts.map .str)).map (w :: ·) = _
      rw [strsOf_strs]; rfl
    rw [meM_join e (by simp; unfold line; omega)]
    refine ⟨by simp; unfold line; omega, ?_⟩
    simp
theorem c_form_text {w ks : Tx} {ds : List D} {ts : List Tx} (hk : shapesT.lookup w = some ks) (h : Wds ks ds ts) (hw : w.length ≤ 100) (hp : D.pures ds = true) (hd : D.deps ds ≤ 50) : (glo Pg (k + 5)).fn i_form_text [.tup (.str w :: ds)] s = .ok (.str (joinT [32] (w :: ts))) s := by
  refine ok_of (W_fn (d := d_form_text) rfl rfl rfl ?_)
  have e1 := c_has_shape (k := k) (s := s) (d := .tup (.str w :: ds)) (by simpa using hp) (by simp; omega) rfl (fun x l e => by cases e; exact h.ask)
  have e2 := c_form_by (k := k + 1) (s := s) hk h hw
  have e3 : shapeB (.tup (.str w :: ds)) = true := by simp [shapeB, hk, h.len.1, h.all]
  simp [d_form_text, b_form_text, env0, e1, e2, e3]
end
end PZ
end
section
/-! Mc: a law's drawing of numbers, fractions. -/
set_option linter.all false
set_option maxRecDepth 100000
set_option Elab.async false
namespace PZ
section
variable {k : Nat} {s s' s2 : Sto} {d : D} {i j : Int} {G : Glo} {ρ : Env} {E : Nat → Sto → Prop} {n : Nat}
/-- the state that is drawn from stands at n -/
def St (n : Nat) (s : Sto) : Prop := ∃ a b c : Int, s[n]? = some (.lst [.int a, .int b, .int c]) ∧ 0 ≤ a ∧ b.natAbs < 2 ^ 40
/-- nothing but the state at n is another one -/
structure Stp (n : Nat) (s s' : Sto) : Prop where
  st : St n s'
  len : s'.length = s.length
  same : ∀ m, m ≠ n → s'[m]? = s[m]?
theorem Stp.refl (h : St n s) : Stp n s s := ⟨h, rfl, fun _ _ => rfl⟩
theorem Stp.trans (a : Stp n s s') (b : Stp n s' s2) : Stp n s s2 := ⟨b.st, b.len.trans a.len, fun m hm => (b.same m hm).trans (a.same m hm)⟩
theorem stp_set {l : List D} (h : St n s) (h2 : ∃ a b c : Int, l = [.int a, .int b, .int c] ∧ 0 ≤ a ∧ b.natAbs < 2 ^ 40) : Stp n s (s.set n (.lst l)) := by
  obtain ⟨a, b, c, e, _⟩ := h
  have hl := (List.getElem?_eq_some_iff.mp e).1
  obtain ⟨a', b', c', rfl, h3, h4⟩ := h2
  exact ⟨⟨a', b', c', List.getElem?_set_self hl, h3, h4⟩, by simp, fun m hm => List.getElem?_set_ne (Ne.symm hm)⟩
theorem setLM_ok {l : List D} {q : Nat} {x : D} (h : s[n]? = some (.lst l)) (hi : ixN l.length i = some q) : setLM (.ref n) (.int i) x s = .ok () (s.set n (.lst (l.set q x))) := by
  show (match s[n]? with
    | some (.lst l) => match ixN l.length i with
      | some j => R.ok () (s.set n (.lst (l.set j x)))
      | none => .bad
    | _ => .bad) = _
  rw [h]
  show (match ixN l.length i with | some j => R.ok () (s.set n (.lst (l.set j x))) | none => .bad) = _
  rw [hi]
theorem log2_lt {a : Nat} {b : Nat} (h : a < 2 ^ (b + 1)) : a.log2 ≤ b := by
  by_cases z : a = 0
  · subst z; simp
  · have := (Nat.log2_lt z).mpr h
    omega
theorem mulOk_of {i j : Int} {p q : Nat} (h1 : i.natAbs < 2 ^ (p + 1)) (h2 : j.natAbs < 2 ^ (q + 1)) (h : p + q < 1000000) : mulOk i j = true := by
  unfold mulOk
  have := log2_lt h1
  have := log2_lt h2
  exact decide_eq_true (by omega)
theorem divOk_of {j : Int} {q : Nat} (h0 : j ≠ 0) (h2 : j.natAbs < 2 ^ (q + 1)) (h : q < 9000) : divOk j = true := by
  unfold divOk
  have := log2_lt h2
  simp only [Bool.and_eq_true, decide_eq_true_eq]
  exact ⟨h0, by omega⟩
theorem fmod_b {a b : Int} (h : 0 < b) : 0 ≤ a.fmod b ∧ a.fmod b < b := by
  rw [Int.fmod_eq_emod_of_nonneg _ (Int.le_of_lt h)]
  exact ⟨Int.emod_nonneg _ (Int.ne_of_gt h), Int.emod_lt_of_pos _ h⟩
theorem fdiv_nn {a b : Int} (h : 0 ≤ a) (hb : 0 < b) : 0 ≤ a.fdiv b ∧ a.fdiv b ≤ a := by
  rw [Int.fdiv_eq_ediv_of_nonneg _ (Int.le_of_lt hb)]
  exact ⟨Int.ediv_nonneg h (Int.le_of_lt hb), Int.ediv_le_self _ h⟩
/-- a drawn number -/
theorem w_choice {m : Int} {Q : D → Sto → Prop} (h : St n s) (hm : 0 < m) (hm2 : m.natAbs < 2 ^ 8000) (q : ∀ r s', 0 ≤ r → r < m → Stp n s s' → Q (.int r) s') : W ((glo Pg (k + 1)).fn i_l_choice [.ref n, .int m] s) Q E := by
  obtain ⟨a, b, c, hs, ha, hb⟩ := id h
  refine W_fn (d := d_l_choice) rfl rfl rfl ?_
  have hl := (List.getElem?_eq_some_iff.mp hs).1
  have gs : ∀ x, (s.set n x)[n]? = some x := fun x => List.getElem?_set_self hl
  have ix : ∀ i, opM .ix (.ref n) (.int i) s = M.opt (atI [.int a, .int b, .int c] i) s := fun i => opM_ixr hs
  have ixs : ∀ x i, opM .ix (.ref n) (.int i) (s.set n (.lst x)) = M.opt (atI x i) (s.set n (.lst x)) := fun x i => opM_ixr (gs _)
  have st0 : ∀ x, setLM (.ref n) (.int 0) x s = .ok () (s.set n (.lst [x, .int b, .int c])) := fun x => setLM_ok hs (q := 0) rfl
  have st2 : ∀ x, setLM (.ref n) (.int 2) x s = .ok () (s.set n (.lst [.int a, .int b, x])) := fun x => setLM_ok hs (q := 2) rfl
  have st1 : ∀ x y, setLM (.ref n) (.int 1) x (s.set n (.lst [.int a, .int b, y])) = .ok () (s.set n (.lst [.int a, x, y])) := fun x y => by rw [setLM_ok (gs _) (q := 1) rfl, List.set_set]; rfl
  have hd := divOk_of (Int.ne_of_gt hm) hm2 (by decide)
  have hd8 : divOk 8 = true := by decide
  have m1 : mulOk b 48271 = true := mulOk_of (p := 39) (q := 20) hb (by decide) (by decide)
  clear hl
  by_cases h0 : 0 < a
  · have hne : ¬ m = 0 := Int.ne_of_gt hm
    simp [d_l_choice, b_l_choice, env0, bindT_v, ix, st0, h0, hne, hd]
    have r1 := fmod_b (a := a) hm
    have r2 := fdiv_nn ha hm
    exact q _ _ r1.1 r1.2 (stp_set h ⟨_, _, _, rfl, r2.1, hb⟩)
  · have hne : ¬ m = 0 := Int.ne_of_gt hm
    have ub : ∀ x : Int, (x.fmod 2147483647).natAbs < 2 ^ 31 ∧ (x.fmod 2147483629).natAbs < 2 ^ 31 := fun x => by
      have z1 := fmod_b (a := x) (b := 2147483647) (by decide)
      have z2 := fmod_b (a := x) (b := 2147483629) (by decide)
      omega
    have m2 : ∀ x : Int, mulOk (x.fmod 2147483647) (x.fmod 2147483647) = true := fun x => mulOk_of (p := 30) (q := 30) (ub x).1 (ub x).1 (by decide)
    have m3 : ∀ x : Int, mulOk 39373 (x.fmod 2147483647) = true := fun x => mulOk_of (p := 20) (q := 30) (by decide) (ub x).1 (by decide)
    have m4 : ∀ x : Int, mulOk (x.fmod 2147483629) (x.fmod 2147483629) = true := fun x => mulOk_of (p := 30) (q := 30) (ub x).2 (ub x).2 (by decide)
    have m5 : ∀ x : Int, mulOk 50021 (x.fmod 2147483629) = true := fun x => mulOk_of (p := 20) (q := 30) (by decide) (ub x).2 (by decide)
    simp [d_l_choice, b_l_choice, env0, bindT_v, ix, ixs, st1, st2, h0, hne, hd, hd8, m1, m2, m3, m4, m5]
    have r1 := fun x => fmod_b (a := x) hm
    exact q _ _ (r1 _).1 (r1 _).2 (stp_set h ⟨_, _, _, rfl, ha, by have := (ub (b * 48271 + 29 + (c + 1))).1; omega⟩)
/-- least terms -/
theorem low_terms {t b g e : Int} (hb : b ≠ 0) (hg : g = (Nat.gcd t.natAbs b.natAbs : Nat)) (he : e = if 0 < b then g else 0 - g) :
    e ≠ 0 ∧ e.natAbs ≤ b.natAbs ∧ ∃ p q : Int, t.fdiv e = p ∧ b.fdiv e = q ∧ Fr p q ∧ t * q = b * p ∧ p.natAbs ≤ t.natAbs ∧ q.natAbs ≤ b.natAbs := by
  have gp : 0 < Nat.gcd t.natAbs b.natAbs := Nat.gcd_pos_of_pos_right _ (by omega)
  have g0 : e.natAbs = Nat.gcd t.natAbs b.natAbs := by rw [he, hg]; split <;> omega
  have hne : e ≠ 0 := by omega
  have dt : e ∣ t := Int.natAbs_dvd_natAbs.mp (by rw [g0]; exact Nat.gcd_dvd_left _ _)
  have db : e ∣ b := Int.natAbs_dvd_natAbs.mp (by rw [g0]; exact Nat.gcd_dvd_right _ _)
  obtain ⟨p, rfl⟩ := dt
  obtain ⟨q, hq⟩ := db
  have q0 : q ≠ 0 := by intro z; subst z; simp at hq; exact hb hq
  refine ⟨hne, ?_, p, q, Int.mul_fdiv_cancel_left _ hne, by rw [hq]; exact Int.mul_fdiv_cancel_left _ hne, ⟨?_, ?_⟩, ?_, ?_, ?_⟩
  · rw [hq, Int.natAbs_mul]
    exact Nat.le_mul_of_pos_right _ (by omega)
  · by_cases h : 0 < b
    · rw [if_pos h] at he
      have : 0 < e := by omega
      have h2 : 0 < e * q := by rw [← hq]; exact h
      rcases Int.lt_trichotomy q 0 with z | z | z
      · have := Int.mul_neg_of_pos_of_neg this z; omega
      · exact absurd z q0
      · exact z
    · rw [if_neg h] at he
      have h1 : e < 0 := by omega
      have h2 : e * q < 0 := by rw [← hq]; omega
      rcases Int.lt_trichotomy q 0 with z | z | z
      · have := Int.mul_pos_of_neg_of_neg h1 z; omega
      · exact absurd z q0
      · exact z
  · have h1 : Nat.gcd (e * p).natAbs b.natAbs = e.natAbs * Nat.gcd p.natAbs q.natAbs := by
      rw [hq, Int.natAbs_mul, Int.natAbs_mul, Nat.gcd_mul_left]
    have h2 : e.natAbs = e.natAbs * Nat.gcd p.natAbs q.natAbs := by rw [← h1, g0]
    have h3 : 0 < e.natAbs := by omega
    exact (Nat.mul_eq_left (Nat.ne_of_gt h3)).mp h2.symm
  · rw [hq]; rw [Int.mul_assoc, Int.mul_assoc, Int.mul_comm p q]
  · rw [Int.natAbs_mul]; exact Nat.le_mul_of_pos_left _ (by omega)
  · rw [hq, Int.natAbs_mul]; exact Nat.le_mul_of_pos_left _ (by omega)
theorem w_l_low {t b : Int} {Q : D → Sto → Prop} (hb : b ≠ 0) (st : Sm t) (sb : Sm b) (q : ∀ p q, Fr p q → t * q = b * p → p.natAbs ≤ t.natAbs → q.natAbs ≤ b.natAbs → Q (.tup [.int p, .int q]) s) : W ((glo Pg (k + 1)).fn i_l_low [.int t, .int b] s) Q E := by
  refine W_fn (d := d_l_low) rfl rfl rfl ?_
  simp [d_l_low, b_l_low, env0, abs_nat, bindT_v]
  refine euclid (u := 3) (v := 4) t.natAbs b.natAbs st sb (by simp) (fun ρ x y h1 h2 => ?_) (fun ρ x y h1 h2 hy => ?_) (by decide) fun ρ' e => ?_
  · refine ok_of ?_
    simp [h2]
    omega
  · have l0 := (List.getElem?_eq_some_iff.mp h1).1
    have l1 := (List.getElem?_eq_some_iff.mp h2).1
    have b0 : ∀ d, bindT (.v 3) d ρ = some (ρ.set 3 (some d)) := fun d => if_pos l0
    have b1 : ∀ d d', bindT (.v 4) d (ρ.set 3 d') = some ((ρ.set 3 d').set 4 (some d)) := fun d d' => if_pos (by simpa using l1)
    clear l0 l1
    simp [h1, h2, b0, b1, hy, fmod_nat]
  · subst e
    obtain ⟨hne, hle, p, r, e1, e2, hf, hv, hp, hr⟩ := low_terms hb rfl rfl (t := t) (b := b)
    unfold Sm at sb
    have hd : ∀ e : Int, e = (if 0 < b then ((Nat.gcd t.natAbs b.natAbs : Nat) : Int) else 0 - ((Nat.gcd t.natAbs b.natAbs : Nat) : Int)) → divOk e = true := fun e he => divOk_of (q := 3999) (by rw [he]; exact hne) (by rw [he]; omega) (by decide)
    by_cases h0 : 0 < b
    · rw [if_pos h0] at e1 e2 hd
      simp [bindT_v, h0, hd _ rfl, e1, e2]
      exact q p r hf hv hp hr
    · rw [if_neg h0] at e1 e2 hd
      simp at e1 e2 hd
      simp [bindT_v, h0, hd, e1, e2]
      exact q p r hf hv hp hr
/-! ### numbers of the script -/
theorem w_cell_at {ns : List Int} {m : Nat} : ∃ z, (glo Pg (k + 1)).fn i_l_cell_at [.scr ns, .int m] s = .ok (.int z) s := by
  by_cases h : m < ns.length
  · refine ⟨ns[m], ok_of (W_fn (d := d_l_cell_at) rfl rfl rfl ?_)⟩
    have f : (m : Int) < (ns.length : Int) := by omega
    simp [d_l_cell_at, b_l_cell_at, env0, f, atI_nat h, List.getElem?_eq_getElem h]
  · refine ⟨0, ok_of (W_fn (d := d_l_cell_at) rfl rfl rfl ?_)⟩
    have f : ¬ (m : Int) < (ns.length : Int) := by omega
    simp [d_l_cell_at, b_l_cell_at, env0, f]
theorem fn_keep {k i : Nat} {d : Def} {ds : List D} {s : Sto} {Q : D → Sto → Prop} {E : Nat → Sto → Prop} (h : Pg.defs i = some d) (hl : ds.length = d.np) (hk : d.keep = true)
    (hb : WS (evSs (glo Pg k) d.body (env0 d.nn ds) s) ⟨fun _ s' => Q .non s', Q, E, fun _ _ => False⟩) : W ((glo Pg (k + 1)).fn i ds s) Q E := by
  rw [fn_eq h hl, hk]
  revert hb
  cases evSs (glo Pg k) d.body (env0 d.nn ds) s with
  | nx ρ s' => exact fun z => z
  | rt x s' => exact fun z => z
  | exc c ρ s' => exact fun z => z
  | ct ρ s' => exact fun z => z.elim
  | bad => exact fun z => z.elim
/-- a new state, behind all that is there -/
theorem w_state {ns : List Int} {m : Nat} {Q : D → Sto → Prop} (q : ∀ s', St s.length s' → s'.length = s.length + 1 → (∀ n, n < s.length → s'[n]? = s[n]?) → Q (.ref s.length) s') : W ((glo Pg (k + 2)).fn i_l_state [.scr ns, .int m] s) Q E := by
  refine fn_keep (d := d_l_state) rfl rfl rfl ?_
  obtain ⟨z, e⟩ := w_cell_at (k := k) (s := s) (ns := ns) (m := m)
  have hp : powOk 10 18 = true := by decide
  simp [d_l_state, b_l_state, env0, e, bindT_v, hp]
  have r := fmod_b (a := z) (b := 2147483629) (by decide)
  refine q _ ⟨_, _, _, List.getElem?_concat_length, ?_, ?_⟩ (by simp) fun n hn => by rw [List.getElem?_append_left hn]
  · split <;> omega
  · omega
/-! ### any fraction -/
def Frt (i j : Int) : Prop := Fr i j ∧ (i.natAbs < 1000000000000000000000000000000 ∧ j.natAbs < 1000000000000000000000000000000) ∧ Sm i ∧ Sm j
theorem pow_le' {a b : Nat} (h : a ≤ b) : 2 ^ a ≤ 2 ^ b := Nat.pow_le_pow_right (by decide) h
theorem frt_of {p q : Int} (h : Fr p q) (h1 : p.natAbs < 2 ^ 99) (h2 : q.natAbs < 2 ^ 99) : Frt p q := by
  refine ⟨h, ⟨by omega, by omega⟩, ?_, ?_⟩
  · exact Nat.lt_of_lt_of_le h1 (pow_le' (by decide))
  · exact Nat.lt_of_lt_of_le h2 (pow_le' (by decide))
/-- one of some things, by a drawn number -/
theorem atI_of {α : Type} {l : List α} {r : Int} (h0 : 0 ≤ r) (h : r < l.length) : ∃ x, atI l r = some x ∧ x ∈ l := by
  obtain ⟨n, rfl⟩ := Int.eq_ofNat_of_zero_le h0
  have hn : n < l.length := by omega
  exact ⟨l[n], by rw [atI_nat hn, List.getElem?_eq_getElem hn], List.getElem_mem hn⟩
theorem w_pick {l : List D} {r : Int} {Q : D → Sto → Prop} (h0 : 0 ≤ r) (h : r < l.length) (q : ∀ x ∈ l, Q x s) : W (opM .ix (.lst l) (.int r) s) Q E := by
  obtain ⟨x, e, hx⟩ := atI_of h0 h
  rw [opM_here rfl rfl, opD_ixL, e]
  exact q x hx
theorem w_any {Q : D → Sto → Prop} (h : St n s) (q : ∀ p r s', Frt p r → Stp n s s' → Q (.tup [.int p, .int r]) s') : W ((glo Pg (k + 2)).fn i_l_any [.ref n] s) Q E := by
  refine W_fn (d := d_l_any) rfl rfl rfl ?_
  have p9 : powOk 10 9 = true := by decide
  have p6 : powOk 10 6 = true := by decide
  simp [d_l_any, b_l_any, env0, bindT_v, p9, p6, intD]
  refine w_choice h (by decide) (by decide) fun r1 s1 a1 b1 t1 => ?_
  refine w_pick a1 b1 fun x hx => ?_
  simp at hx
  have hx' : ∃ m : Int, x = .int m ∧ 0 < m ∧ m ≤ 1000000000 := by
    rcases hx with rfl | rfl | rfl <;> exact ⟨_, rfl, by decide, by decide⟩
  obtain ⟨m, rfl, m0, m1⟩ := hx'
  refine w_choice t1.st m0 (Nat.lt_of_lt_of_le (show m.natAbs < 2 ^ 40 by omega) (pow_le' (by decide))) fun r2 s2 a2 b2 t2 => ?_
  refine w_choice t2.st (by decide) (by decide) fun r3 s3 a3 b3 t3 => ?_
  refine w_pick a3 b3 fun y hy => ?_
  simp at hy
  have hy' : ∃ m : Int, y = .int m ∧ 0 < m ∧ m ≤ 1000003 := by
    rcases hy with rfl | rfl | rfl | rfl | rfl | rfl <;> exact ⟨_, rfl, by decide, by decide⟩
  obtain ⟨b, rfl, b0, b1'⟩ := hy'
  refine w_choice t3.st (by decide) (by decide) fun r4 s4 a4 b4 t4 => ?_
  refine w_pick a4 b4 fun z hz => ?_
  have hz' : ∃ m : Int, z = .int m ∧ (m = 1 ∨ m = -1) := by
    simp at hz
    rcases hz with rfl | rfl
    · exact ⟨_, rfl, .inl rfl⟩
    · exact ⟨_, rfl, .inr rfl⟩
  obtain ⟨c, rfl, hc⟩ := hz'
  have mk : mulOk r2 c = true := mulOk_of (p := 30) (q := 1) (by omega) (by rcases hc with rfl | rfl <;> decide) (by decide)
  have hrc : (r2 * c).natAbs ≤ 1000000000 := by rcases hc with rfl | rfl <;> simp <;> omega
  simp [mk]
  refine w_l_low (by omega) (Nat.lt_of_lt_of_le (show (r2 * c).natAbs < 2 ^ 40 by omega) (pow_le' (by decide))) (Nat.lt_of_lt_of_le (show b.natAbs < 2 ^ 40 by omega) (pow_le' (by decide))) fun p r hf _ hp hr => ?_
  have t := ((t1.trans t2).trans t3).trans t4
  exact ⟨t.len, q p r _ (frt_of hf (Nat.lt_of_lt_of_le (show p.natAbs < 2 ^ 40 by omega) (pow_le' (by decide))) (Nat.lt_of_lt_of_le (show r.natAbs < 2 ^ 40 by omega) (pow_le' (by decide)))) t⟩
end
end PZ
end
section
/-! Md: law k74's own forms and texts. -/
set_option linter.all false
set_option maxRecDepth 100000
set_option Elab.async false
namespace PZ
section
variable {k : Nat} {s s' s2 : Sto} {d : D} {i j : Int} {G : Glo} {ρ : Env} {E : Nat → Sto → Prop} {n : Nat}
theorem join_signs : ∀ ts : Tx, joinT [] (ts.map fun c => [c]) = ts
  | [] => rfl
  | [c] => rfl
  | c :: e :: ts => by
    have ih := join_signs (e :: ts)
    show [c] ++ ([] ++ joinT [] ([e] :: ts.map fun c => [c])) = _
    rw [show ([e] :: ts.map fun c => [c]) = (e :: ts).map fun c => [c] from rfl, ih]
    rfl
theorem rng_get : ∀ (m : Nat) (lo : Int), (rngL lo m).length = m
  | 0, _ => rfl
  | m + 1, lo => by simp [rngL, rng_get m]
theorem stp_ok (h : Stp n s s') : St n s' := h.st
theorem join_draw {ts : Tx} (h : ts.length ≤ 1000) : meM .join (.str []) [.lst (ts.map fun c => D.str [c])] s = .ok (.str ts) s := by
  have e : strsOf (ts.map fun c => D.str [c]) = some (ts.map fun c => [c]) := strsOf_map
  have e2 : ((ts.map fun c => [c]).map List.length).sum = ts.length := by
    clear e h
    induction ts with
    | nil => rfl
    | cons c ts ih => simp at ih ⊢; omega
  rw [meM_join e (by rw [e2]; simp; unfold line; omega), join_signs]
/-- signs drawn one by one -/
theorem comp_draw {A : Tx} {a : Int} {m u : Nat} {tg : Tg} {ρ : Env} {Q : List D → Sto → Prop} (h : St n s) (ha : a = A.length) (h0 : 0 < A.length) (h1 : A.length ≤ 100) (hm : m ≤ 1000)
    (hb : ∀ x : D, ∃ ρ', bindT tg x (wipeE ρ tg.slots) = some ρ' ∧ ρ'[u]? = some (some (.ref n)))
    (q : ∀ (w : Tx) s', w.length = m → (∀ c ∈ w, c ∈ A) → Stp n s s' → Q (w.map fun c => .str [c]) s') :
    W (compL (cF (glo Pg (k + 1)) (.op .ix (.c (.str A)) (.call 119 (.cons (.v u) (.cons (.c (.int a)) .nil)))) tg (.c (.bl true)) ρ) ⟨rngL 0 m, [], none⟩ (rngL 0 m) [] s) Q E := by
  refine compL_inv (fun i acc s' => Stp n s s' ∧ ∃ ts : Tx, acc = ts.map (fun c => D.str [c]) ∧ ts.length = i ∧ ∀ c ∈ ts, c ∈ A) _ 0 [] s ⟨.refl h, [], rfl, rfl, by simp⟩ (fun _ _ _ _ => rfl) (fun j x acc s1 hx hI => ?_) fun acc s1 hI => ?_
  · obtain ⟨t1, ts, rfl, hl, ha2⟩ := hI
    have hj : j < m := by
      have := (List.getElem?_eq_some_iff.mp hx).1
      rwa [rng_get] at this
    obtain ⟨ρ', e1, e2⟩ := hb x
    rw [W_cF e1]
    simp [e2]
    refine w_choice t1.st (by omega) (Nat.lt_of_lt_of_le (show a.natAbs < 2 ^ 40 by omega) (pow_le' (by decide))) fun r s2 a b t2 => ?_
    obtain ⟨c, hc, hm⟩ := atI_of (l := A) a (by omega)
    have : line = 16000000 := rfl
    simp [hc]
    refine ⟨by omega, by omega, t1.trans t2, ts ++ [c], by simp, by simp [hl], fun e he => ?_⟩
    rcases List.mem_append.mp he with he | he
    · exact ha2 e he
    · simp at he
      subst he
      exact hm
  · obtain ⟨t1, ts, rfl, hl, ha⟩ := hI
    rw [rng_get] at hl
    exact q ts s1 (by omega) ha t1
theorem w_signs {m : Nat} {e : Int} {Q : D → Sto → Prop} (h : St n s) (he : e = m) (hm : m ≤ 8) (q : ∀ (w : Tx) s', w.length = m → (∀ c ∈ w, c ∈ smallT) → Stp n s s' → Q (.str w) s') : W ((glo Pg (k + 2)).fn i_l_signs [.ref n, .int e] s) Q E := by
  refine W_fn (k := k + 1) (i := i_l_signs) (d := d_l_signs) (ds := [.ref n, .int e]) rfl rfl rfl ?_
  have sm : small62 e = true := by unfold small62; simp only [Bool.and_eq_true, decide_eq_true_eq]; constructor <;> omega
  have en : e.toNat = m := by omega
  simp [d_l_signs, b_l_signs, env0, sm, en]
  refine comp_draw (n := n) h rfl (by decide) (by decide) (by omega) (fun x => ⟨[some (.ref n), some (.int e), some x], rfl, rfl⟩) fun w s1 hl ha t => ?_
  rw [join_draw (by omega)]
  refine ⟨t.len, q w s1 hl (fun c hc => ?_) t⟩
  have := ha c hc
  simp at this
  rcases this with rfl | rfl | rfl | rfl | rfl | rfl <;> decide
theorem word_of_signs {w : Tx} (h1 : 1 ≤ w.length) (h8 : w.length ≤ 8) (h : ∀ c ∈ w, c ∈ smallT) : wordT w = true := by
  unfold wordT
  simp only [Bool.and_eq_true, decide_eq_true_eq, List.all_eq_true]
  exact ⟨h1, h8, h⟩
/-- str(x) + ("/" + str(y)) * int(y > 1) -/
theorem c_l_fraction_text (h : Frt i j) : (glo Pg (k + 1)).fn i_l_fraction_text [.tup [.int i, .int j]] s = .ok (.str (fracT i j)) s := by
  refine ok_of (W_fn (d := d_l_fraction_text) rfl rfl rfl ?_)
  obtain ⟨⟨h0, _⟩, ⟨h1, h2⟩, _⟩ := h
  have l1 := Tl.len h1
  have l2 := Tl.len h2
  have h1 := Tl.log h1
  have h2 := Tl.log h2
  have f1 : i.natAbs.log2 < 1000 := by omega
  have f2 : j.natAbs.log2 < 1000 := by omega
  simp [d_l_fraction_text, b_l_fraction_text, env0, f1, f2]
  have e0 : b2i false = 0 := rfl
  have e1 : b2i true = 1 := rfl
  by_cases hj : j = 1
  · subst hj
    simp [e0, fracT]
    unfold line; refine ⟨by omega, by omega, by omega⟩
  · have f3 : 1 < j := by omega
    simp [e1, fracT, hj, f3]
    unfold line; refine ⟨by omega, by omega, by omega⟩
/-! ### the forms that are drawn -/
/-- a form's shape: what its text is made of -/
inductive Sh : D → Tx → Prop
  | mk {w ks : Tx} {ds : List D} {ts : List Tx} : shapesT.lookup w = some ks → Wds ks ds ts → w.length ≤ 100 → D.pures ds = true → D.deps ds ≤ 50 → Sh (.tup (.str w :: ds)) (joinT [32] (w :: ts))
theorem Frt.wd (h : Frt i j) : Wd 102 (.tup [.int i, .int j]) (fracT i j) := .f ⟨h.1, h.2.1.1, h.2.1.2, h.2.2.1, h.2.2.2⟩
theorem tl_of {i : Int} (h : i.natAbs < 2 ^ 99) : Tl i := by
  unfold Tl; omega
theorem w_shape {Q : D → Sto → Prop} (h : St n s) (q : ∀ f t s', Sh f t → Stp n s s' → Q f s') : W ((glo Pg (k + 3)).fn i_l_shape [.ref n] s) Q E := by
  refine W_fn (d := d_l_shape) rfl rfl rfl ?_
  have p27 : powOk 10 27 = true := by decide
  simp only [d_l_shape, b_l_shape, env0]
  simp [bindT_v, p27]
  refine w_choice h (by decide) (by decide) fun r1 s1 a1 b1 t1 => ?_
  simp
  by_cases c0 : r1 = 0
  · simp [c0]
    refine w_signs (m := 8) t1.st rfl (by decide) fun w0 s2 l2 al2 t2 => ?_
    refine w_choice t2.st (by decide) (by decide) fun r3 s3 a3 b3 t3 => ?_
    refine w_pick a3 b3 fun x hx => ?_
    have hx' : ∃ w, x = .str w ∧ wordT w = true := by
      simp at hx
      rcases hx with rfl | rfl | rfl | rfl
      · exact ⟨_, rfl, by decide⟩
      · exact ⟨_, rfl, by decide⟩
      · exact ⟨_, rfl, by decide⟩
      · exact ⟨_, rfl, word_of_signs (by omega) (by omega) al2⟩
    obtain ⟨w, rfl, hw⟩ := hx'
    refine w_any t3.st fun p r s4 h4 t4 => ?_
    refine w_any t4.st fun p' r' s5 h5 t5 => ?_
    have t := (((t1.trans t2).trans t3).trans t4).trans t5
    exact ⟨t.len, q _ _ s5 (.mk (w := [112, 111, 105, 110, 116]) rfl (.cons (.w hw) (.cons h4.wd (.cons h5.wd .nil))) (by decide) rfl (Nat.le_of_ble_eq_true rfl)) t⟩
  · by_cases c1 : r1 = 1
    · simp [c1]
      refine w_choice t1.st (by decide) (by decide) fun r2 s2 a2 b2 t2 => ?_
      refine ⟨_, rfl, by unfold small62; simp only [Bool.and_eq_true, decide_eq_true_eq]; constructor <;> omega, ?_⟩
      refine comp_draw (n := n) t2.st rfl (by decide) (by decide) (by omega) (fun x => ⟨[some (.ref n), some (.int 1), none, some x], rfl, rfl⟩) fun w s3 hl ha t3 => ?_
      rw [join_draw (by omega)]
      have t := (t1.trans t2).trans t3
      refine ⟨t.len, q _ _ s3 (.mk (w := [116, 105, 108, 101]) rfl (.cons (.c ?_) .nil) (by decide) rfl (Nat.le_of_ble_eq_true rfl)) t⟩
      unfold codeT
      simp only [Bool.and_eq_true, decide_eq_true_eq, List.all_eq_true]
      refine ⟨by omega, fun c hc => ?_⟩
      have := ha c hc
      simp at this
      rcases this with rfl | rfl | rfl | rfl <;> decide
    · by_cases c2 : r1 = 2
      · simp [c1, c2]
        refine w_choice t1.st (by decide) (by decide) fun r2 s2 a2 b2 t2 => ?_
        refine w_choice t2.st (by decide) (by decide) fun r3 s3 a3 b3 t3 => ?_
        refine w_pick a3 b3 fun x hx => ?_
        have hx' : ∃ i : Int, x = .int i ∧ 0 ≤ i ∧ Tl i := by
          simp at hx
          rcases hx with rfl | rfl | rfl
          · exact ⟨_, rfl, by decide, tl_of (by decide)⟩
          · exact ⟨_, rfl, a2, tl_of (Nat.lt_of_lt_of_le (show r2.natAbs < 2 ^ 40 by omega) (pow_le' (by decide)))⟩
          · exact ⟨_, rfl, by decide, tl_of (by decide)⟩
        obtain ⟨i, rfl, i0, it⟩ := hx'
        refine w_any t3.st fun p r s4 h4 t4 => ?_
        have t := ((t1.trans t2).trans t3).trans t4
        exact ⟨t.len, q _ _ s4 (.mk (w := [115, 112, 111, 116]) rfl (.cons (.n i0 it) (.cons h4.wd .nil)) (by decide) rfl (Nat.le_of_ble_eq_true rfl)) t⟩
      · by_cases c3 : r1 = 3
        · simp [c1, c2, c3]
          refine w_signs (m := 1) t1.st rfl (by decide) fun w0 s2 l2 al2 t2 => ?_
          refine w_choice t2.st (by decide) (by decide) fun r3 s3 a3 b3 t3 => ?_
          refine w_pick a3 b3 fun x hx => ?_
          have hx' : ∃ w, x = .str w ∧ wordT w = true := by
            simp at hx
            rcases hx with rfl | rfl | rfl
            · exact ⟨_, rfl, by decide⟩
            · exact ⟨_, rfl, by decide⟩
            · exact ⟨_, rfl, word_of_signs (by omega) (by omega) al2⟩
          obtain ⟨w, rfl, hw⟩ := hx'
          refine w_choice t3.st (by decide) (by decide) fun r4 s4 a4 b4 t4 => ?_
          have t := ((t1.trans t2).trans t3).trans t4
          exact ⟨t.len, q _ _ s4 (.mk (w := [97, 100, 100, 114, 101, 115, 115]) rfl (.cons (.w hw) (.cons (.n a4 (tl_of (Nat.lt_of_lt_of_le (show r4.natAbs < 2 ^ 40 by omega) (pow_le' (by decide))))) .nil)) (by decide) rfl (Nat.le_of_ble_eq_true rfl)) t⟩
        · simp [c0, c1, c2, c3]
          refine w_signs (m := 8) t1.st rfl (by decide) fun w0 s2 l2 al2 t2 => ?_
          refine w_choice t2.st (by decide) (by decide) fun r3 s3 a3 b3 t3 => ?_
          refine w_pick a3 b3 fun x hx => ?_
          have hx' : ∃ w, x = .str w ∧ wordT w = true := by
            simp at hx
            rcases hx with rfl | rfl | rfl
            · exact ⟨_, rfl, by decide⟩
            · exact ⟨_, rfl, by decide⟩
            · exact ⟨_, rfl, word_of_signs (by omega) (by omega) al2⟩
          obtain ⟨w, rfl, hw⟩ := hx'
          have t := (t1.trans t2).trans t3
          exact ⟨t.len, q _ _ s3 (.mk (w := [114, 101, 103, 105, 111, 110]) rfl (.cons (.w hw) .nil) (by decide) rfl (Nat.le_of_ble_eq_true rfl)) t⟩
end
end PZ
end
section
/-! Me: law k74's own text of a form. -/
set_option linter.all false
set_option maxRecDepth 100000
set_option Elab.async false
namespace PZ
section
variable {k : Nat} {s s' s2 : Sto} {d : D} {i j : Int} {G : Glo} {ρ : Env} {E : Nat → Sto → Prop} {n : Nat}
theorem W_lF {tg : Tg} {cs : CSs} {x : D} {ρ' : Env} {P} (h : bindT tg x ρ = some ρ') : WS (lF G tg cs x ρ s) P ↔ WS (evSs G cs ρ' s) P := by
  unfold lF; rw [h]
theorem meM_joinR {z : Tx} {l : List D} {ts : List Tx} (h0 : rd s d = .lst l) (h : strsOf l = some ts) (hl : (ts.map List.length).sum + ts.length * z.length ≤ line) : meM .join (.str z) [d] s = .ok (.str (joinT z ts)) s := by
  have e : meM .join (.str z) [d] s = (match rd s d with
    | .lst l => match strsOf l with
      | some ts => if (ts.map (·.length)).sum + ts.length * z.length ≤ line then R.ok (D.str (joinT z ts)) s else .bad
      | none => .bad
    | .tup l => match strsOf l with
      | some ts => if (ts.map (·.length)).sum + ts.length * z.length ≤ line then .ok (.str (joinT z ts)) s else .bad
      | none => .bad
    | _ => .bad) := rfl
  rw [e, h0]
  show (match strsOf l with
    | some ts => if (ts.map List.length).sum + ts.length * z.length ≤ line then R.ok (D.str (joinT z ts)) s else .bad
    | none => .bad) = _
  rw [h]
  show (if _ then _ else _) = _
  rw [if_pos hl]
/-- nothing but states is in the store -/
def Fl (s : Sto) : Prop := ∀ o ∈ s, ∃ a b c : Int, o = .lst [.int a, .int b, .int c]
theorem Fl.upto (h : Fl s) : s.all (MO.upto s.length) = true := by
  rw [List.all_eq_true]
  intro o ho
  obtain ⟨a, b, c, rfl⟩ := h o ho
  rfl
theorem trunc_own {x : MO} (h : Fl s) (hd : d.upto s.length = true) : trunc s.length d (s ++ [x]) = .ok d s := by
  have e : (s ++ [x]).take s.length = s := by simp
  unfold trunc
  rw [if_neg (by simp), e, if_pos h.upto, if_pos hd]
theorem Wd.own {c : Nat} {x : D} {t : Tx} (h : Wd c x t) : (∃ a b, x = .tup [.int a, .int b] ∧ t = fracT a b ∧ Fr a b ∧ Tl a ∧ Tl b ∧ Sm a ∧ Sm b) ∨ (∃ w, x = .str w ∧ t = if w = [] then [45] else w) ∨ ∃ i, x = .int i ∧ t = intT i ∧ Tl i := by
  cases h with
  | f h => exact .inl ⟨_, _, rfl, rfl, h⟩
  | w h =>
    have hl := word_len h
    have hne : ¬ t = [] := by intro z; subst z; simp at hl
    exact .inr (.inl ⟨_, rfl, by rw [if_neg hne]⟩)
  | c h => exact .inr (.inl ⟨_, rfl, rfl⟩)
  | n _ h => exact .inr (.inr ⟨_, rfl, rfl, h⟩)
theorem c_l_fraction_text' (hf : Fr i j) (h1 : Tl i) (h2 : Tl j) (h3 : Sm i) (h4 : Sm j) : (glo Pg (k + 1)).fn i_l_fraction_text [.tup [.int i, .int j]] s = .ok (.str (fracT i j)) s := c_l_fraction_text ⟨hf, ⟨h1, h2⟩, h3, h4⟩
theorem Wds.get {cs : Tx} {ds : List D} {ts : List Tx} (h : Wds cs ds ts) : ∀ {j : Nat} {x : D}, ds[j]? = some x → ∃ c t, ts[j]? = some t ∧ Wd c x t := by
  induction h with
  | nil => intro j x e; cases e
  | cons w _ ih =>
    intro j x e
    cases j with
    | zero => cases e; exact ⟨_, _, rfl, w⟩
    | succ j => exact ih (by simpa using e)
/-- the law's own text of a form -/
theorem c_l_form_text {f : D} {t : Tx} (hs : Fl s) (h : Sh f t) : (glo Pg (k + 2)).fn i_l_form_text [f] s = .ok (.str t) s := by
  obtain @⟨w, ks, ds, ts, hk, hw, hl, hp, hd⟩ := h
  refine ok_of (W_fnT (d := d_l_form_text) rfl rfl rfl ?_)
  have kl := kinds_len hk
  have ln := hw.len
  have sm := hw.sum
  have lq : line = 16000000 := rfl
  simp [d_l_form_text, b_l_form_text, env0, bindT_v, intD, sliceD, cutL, sIx, seqOf]
  have st : s[s.length]? = none := by simp
  refine forL_inv (fun i ρ s' => ∃ y, ρ = [some (.tup (.str w :: ds)), some (.ref s.length), y] ∧ s' = s ++ [.lst ((w :: ts.take i).map .str)]) _ 0 _ _ ⟨none, rfl, by simp⟩ (fun _ _ _ _ => rfl) (fun j x ρ s' hx hI => ?_) fun ρ s' hI => ?_
  · obtain ⟨y, rfl, rfl⟩ := hI
    rw [Nat.zero_add]
    have hj : j < ds.length := (List.getElem?_eq_some_iff.mp hx).1
    obtain ⟨c, t, ht, hc⟩ := hw.get hx
    have et : ts.take (j + 1) = ts.take j ++ [t] := by rw [List.take_add_one, ht]; rfl
    have gl : ∀ x, (s ++ [x])[s.length]? = some x := fun x => by simp
    have a1 := meTy_app (gl (.lst ((w :: ts.take j).map .str)))
    have a2 := fun x => meM_app (x := x) (gl (.lst ((w :: ts.take j).map .str))) (by simp; omega)
    have sl : ∀ x y : MO, (s ++ [x]).set s.length y = s ++ [y] := fun x y => by simp
    have b2 : ∀ (p q r : Option D) (x : D), bindT (.v 2) x [p, q, r] = some [p, q, some x] := fun _ _ _ _ => rfl
    rw [W_lF (b2 _ _ _ _)]
    simp only [List.map_cons, List.map_take] at a1 a2
    rcases hc.own with ⟨a, b, rfl, rfl, h1, h2, h3, h4, h5⟩ | ⟨w2, rfl, rfl⟩ | ⟨i, rfl, rfl, h1⟩
    · have e := c_l_fraction_text' (k := k) (s := s ++ [.lst ((w :: ts.take j).map .str)]) h1 h2 h3 h4 h5
      simp at e
      simp [a1, a2, e, sl]
      rw [List.take_add_one, List.getElem?_map, ht]
      simp
    · by_cases hn : w2 = []
      · simp [hn] at ht
        simp [a1, a2, sl, hn]
        rw [List.take_add_one, List.getElem?_map, ht]
        simp
      · simp [hn] at ht
        simp [a1, a2, sl, hn]
        rw [List.take_add_one, List.getElem?_map, ht]
        simp
    · have h2 : i.natAbs.log2 < 1000 := by have := h1.log; omega
      simp [a1, a2, sl, eqD, h2]
      rw [List.take_add_one, List.getElem?_map, ht]
      simp
  · obtain ⟨y, rfl, rfl⟩ := hI
    have gl : ∀ x, (s ++ [x])[s.length]? = some x := fun x => by simp
    have tk : ts.take (0 + ds.length) = ts := by rw [Nat.zero_add, ln.1, ← ln.2]; exact List.take_length
    rw [tk]
    have jn : meM .join (.str [32]) [.ref s.length] (s ++ [.lst ((w :: ts).map .str)]) = .ok (.str (joinT [32] (w :: ts))) (s ++ [.lst ((w :: ts).map .str)]) := by
      have : rd (s ++ [.lst ((w :: ts).map .str)]) (.ref s.length) = .lst ((w :: ts).map .str) := by
        show (match (s ++ [MO.lst ((w :: ts).map .str)])[s.length]? with | some (.lst l) => D.lst l | _ => _) = _
        rw [gl]
      rw [meM_joinR this (strsOf_strs _) (by simp; omega)]
    simp at jn
    simp [jn]
    rw [trunc_own hs rfl]
    exact ⟨rfl, rfl⟩
end
end PZ
end
section
/-! Mr: how long a repr may be. -/
set_option linter.all false
set_option maxRecDepth 100000
set_option Elab.async false
namespace PZ
open PySem
/-- so many signs at most, all of them signs -/
def Nc (n : Nat) (t : Str) : Prop := t.cps.toList.length ≤ n ∧ ∀ c ∈ t.cps.toList, c < 0x110000
theorem Nc.app {n m : Nat} {a b : Str} (h : Nc n a) (g : Nc m b) : Nc (n + m) (a ++ b) := by
  have e : (a ++ b).cps.toList = a.cps.toList ++ b.cps.toList := Array.toList_append ..
  refine ⟨by rw [e, List.length_append]; have := h.1; have := g.1; omega, fun c hc => ?_⟩
  rw [e] at hc
  rcases List.mem_append.mp hc with h1 | h1
  · exact h.2 c h1
  · exact g.2 c h1
theorem Nc.le {n m : Nat} {a : Str} (h : Nc n a) (g : n ≤ m) : Nc m a := ⟨Nat.le_trans h.1 g, h.2⟩
theorem hex_lt {d c : Nat} (h : d ∈ (Nat.toDigits 16 c).map Char.toNat) : d < 0x110000 := by
  obtain ⟨x, _, rfl⟩ := List.mem_map.mp h
  have := x.valid
  show x.val.toNat < _
  rcases this with h | h
  · have : x.val.toNat < 0xd800 := h
    omega
  · exact h.2
theorem hexw_lt {d w c : Nat} (h : d ∈ List.replicate (w - ((Nat.toDigits 16 c).map Char.toNat).length) 48 ++ (Nat.toDigits 16 c).map Char.toNat) : d < 0x110000 := by
  rcases List.mem_append.mp h with h | h
  · have := (List.mem_replicate.mp h).2
    omega
  · exact hex_lt h
theorem reprChar_lt {q c d : Nat} (hc : c < 0x110000) (h : d ∈ Builtin.Str.reprChar q c) : d < 0x110000 := by
  unfold Builtin.Str.reprChar at h
  have two : ∀ {a b : Nat}, a < 0x110000 → b < 0x110000 → d ∈ [a, b] → d < 0x110000 := fun ha hb hd => by
    rcases List.mem_cons.mp hd with e | e
    · rw [e]; exact ha
    · rw [List.mem_singleton.mp e]; exact hb
  have hx : ∀ {a b w : Nat}, a < 0x110000 → b < 0x110000 → d ∈ [a, b] ++ (List.replicate (w - ((Nat.toDigits 16 c).map Char.toNat).length) 48 ++ (Nat.toDigits 16 c).map Char.toNat) → d < 0x110000 := fun ha hb hd => by
    rcases List.mem_append.mp hd with e | e
    · exact two ha hb e
    · exact hexw_lt e
  simp only at h
  split at h
  · exact two (by omega) hc h
  split at h
  · exact two (by omega) (by omega) h
  split at h
  · exact two (by omega) (by omega) h
  split at h
  · exact two (by omega) (by omega) h
  split at h
  · rw [List.mem_singleton.mp h]; exact hc
  split at h
  · exact hx (by omega) (by omega) h
  split at h
  · exact hx (by omega) (by omega) h
  · exact hx (by omega) (by omega) h
theorem fold_lt {q : Nat} : ∀ (l : List Nat) (acc : Array Nat), (∀ c ∈ l, c < 0x110000) → (∀ c ∈ acc.toList, c < 0x110000) → ∀ c ∈ (l.foldl (fun out c => out ++ (Builtin.Str.reprChar q c).toArray) acc).toList, c < 0x110000
  | [], acc, _, h => h
  | x :: l, acc, hl, h => by
    rw [List.foldl_cons]
    refine fold_lt l _ (fun c hc => hl c (List.mem_cons_of_mem _ hc)) fun c hc => ?_
    rw [Array.toList_append] at hc
    rcases List.mem_append.mp hc with e | e
    · exact h c e
    · exact reprChar_lt (hl x List.mem_cons_self) e
theorem Nc.repr {x : Str} (h : ∀ c ∈ x.cps.toList, c < 0x110000) : Nc (10 * x.cps.toList.length + 2) (reprText x) := by
  refine ⟨?_, fun c hc => ?_⟩
  · have := StrLaws.reprText_len x (fun c hc => Nat.lt_trans (h c hc) (by decide))
    simpa [Str.length] using this
  · unfold reprText at hc
    have q : reprQuote x < 0x110000 := by unfold reprQuote; split <;> decide
    rw [Array.toList_push] at hc
    rcases List.mem_append.mp hc with e | e
    · rw [← Array.foldl_toList] at e
      exact fold_lt _ _ h (fun c hc => by rw [List.mem_singleton.mp hc]; exact q) c e
    · rw [List.mem_singleton.mp e]; exact q
mutual
/-- signs of its repr, at most -/
def D.rw : D → Nat
  | .int i => i.natAbs.log2 + 2
  | .str t => 10 * t.length + 2
  | .tup l => D.rws l + 3
  | .lst l => D.rws l + 3
  | .kt l => D.rws l + 3
  | _ => 5
def D.rws : List D → Nat
  | [] => 0
  | x :: l => D.rw x + 2 + D.rws l
end
mutual
/-- may be told -/
def D.rok : D → Bool
  | .int i => decide (i.natAbs.log2 < 1920)
  | .str t => t.all (· < 0x110000)
  | .tup l => D.roks l
  | .lst l => D.roks l
  | .kt l => D.roks l
  | _ => true
def D.roks : List D → Bool
  | [] => true
  | x :: l => D.rok x && D.roks l
end
theorem lit_nc {n : Nat} {t : Str} (h : (decide (t.cps.toList.length ≤ n) && t.cps.toList.all (· < 0x110000)) = true) : Nc n t := by
  simp only [Bool.and_eq_true, decide_eq_true_eq, List.all_eq_true] at h
  exact h
theorem Nc.tup {n k : Nat} {t : Str} (h : Nc n t) : Nc (n + 3) (("(" : Str) ++ t ++ (if k == 1 then ",)" else ")" : String)) := by
  have h1 : Nc 1 ("(" : Str) := lit_nc (by decide +kernel)
  have h2 : Nc 2 ((if k == 1 then ",)" else ")" : String) : Str) := by split <;> exact lit_nc (by decide +kernel)
  exact ((h1.app h).app h2).le (by omega)
theorem Nc.lst {n : Nat} {t : Str} (h : Nc n t) : Nc (n + 3) (("[" : Str) ++ t ++ "]") := by
  have h1 : Nc 1 ("[" : Str) := lit_nc (by decide +kernel)
  have h2 : Nc 1 ("]" : Str) := lit_nc (by decide +kernel)
  exact ((h1.app h).app h2).le (by omega)
theorem show1 {d : PyData} {t : Str} (h : d.shown = t) (hn : Nc 5 t) : Nc 5 d.shown := h ▸ hn
mutual
theorem rw_nc : ∀ d : D, d.rok = true → Nc d.rw d.toP.shown ∧ d.toP.showable = true
  | .int i, h => by
    have h1 : i.natAbs.log2 < 1920 := of_decide_eq_true h
    refine ⟨?_, by simp [D.toP, PyData.showable, h1]⟩
    show Nc _ (PyData.shown (.int i))
    rw [PyData.shown_int]
    have e := tl_toString i
    refine ⟨by show (Str.ofString (toString i)).cps.toList.length ≤ _; rw [e]; exact intT_len i, fun c hc => ?_⟩
    have : c ∈ (Str.ofString (toString i)).cps.toList := hc
    rw [e] at this
    have := List.all_eq_true.mp (intT_lt i) c this
    exact of_decide_eq_true this
  | .str t, h => by
    refine ⟨?_, by simp [D.toP, PyData.showable]⟩
    show Nc _ (PyData.shown (.str ⟨t.toArray⟩))
    rw [PyData.shown_str]
    have h1 : ∀ c ∈ t, c < 0x110000 := fun c hc => of_decide_eq_true (List.all_eq_true.mp h c hc)
    have := Nc.repr (x := ⟨t.toArray⟩) (by simpa using h1)
    rw [D.rw]
    simpa using this
  | .tup l, h => by
    obtain ⟨h1, h2⟩ := rws_nc l h
    refine ⟨?_, by simpa [D.toP, PyData.showable] using h2⟩
    show Nc _ (PyData.shown (.tuple (D.toPs l)))
    rw [PyData.shown_tuple]
    exact h1.tup
  | .kt l, h => by
    obtain ⟨h1, h2⟩ := rws_nc l h
    refine ⟨?_, by simpa [D.toP, PyData.showable] using h2⟩
    show Nc _ (PyData.shown (.tuple (D.toPs l)))
    rw [PyData.shown_tuple]
    exact h1.tup
  | .lst l, h => by
    obtain ⟨h1, h2⟩ := rws_nc l h
    refine ⟨?_, by simpa [D.toP, PyData.showable] using h2⟩
    show Nc _ (PyData.shown (.list (D.toPs l)))
    rw [PyData.shown_list]
    exact h1.lst
  | .bl b, _ => ⟨by cases b <;> exact show1 (PyData.shown_bool _) (lit_nc (by decide +kernel)), by cases b <;> rfl⟩
  | .non, _ => ⟨show1 PyData.shown_none (lit_nc (by decide +kernel)), rfl⟩
  | .ref _, _ => ⟨show1 PyData.shown_none (lit_nc (by decide +kernel)), rfl⟩
  | .scr _, _ => ⟨show1 PyData.shown_none (lit_nc (by decide +kernel)), rfl⟩
  | .fn _, _ => ⟨show1 PyData.shown_none (lit_nc (by decide +kernel)), rfl⟩
  | .exv _, _ => ⟨show1 PyData.shown_none (lit_nc (by decide +kernel)), rfl⟩
theorem rws_nc : ∀ l : List D, D.roks l = true → Nc (D.rws l) (Str.join ", " (PyData.shownAll (D.toPs l))) ∧ PyData.showableAll (D.toPs l) = true
  | [], _ => ⟨lit_nc (by decide +kernel), rfl⟩
  | x :: l, h => by
    have h' : D.rok x = true ∧ D.roks l = true := Bool.and_eq_true_iff.mp h
    obtain ⟨a1, a2⟩ := rw_nc x h'.1
    obtain ⟨b1, b2⟩ := rws_nc l h'.2
    refine ⟨?_, by show (_ && _) = true; rw [a2, b2]; rfl⟩
    have sp : Nc 2 (", " : Str) := lit_nc (by decide +kernel)
    show Nc (D.rw x + 2 + D.rws l) (Str.join ", " (PyData.shown (D.toP x) :: PyData.shownAll (D.toPs l)))
    cases l with
    | nil => exact a1.le (by omega)
    | cons y l => exact (a1.app sp).app b1
end
theorem biD_repr_ok {d : D} (hp : d.pure = true) (hd : d.dep ≤ 60) (hr : d.rok = true) (hw : d.rw ≤ line) : biD .repr [d] = some (.str (reprT d)) := by
  obtain ⟨h1, h2⟩ := rw_nc d hr
  have sh : shallow d d = true := by rw [shallow_iff]; exact ⟨⟨hp, hp⟩, hd, hd⟩
  have l1 : (reprT d).length ≤ line := Nat.le_trans h1.1 hw
  have a1 : (reprT d).all (· < 0x110000) = true := List.all_eq_true.mpr fun c hc => decide_eq_true (h1.2 c hc)
  rw [biD_repr, sh, h2, a1, decide_eq_true l1]
  rfl
end PZ
end
section
/-! Mf: what is no point, no form. -/
set_option linter.all false
set_option maxRecDepth 100000
set_option Elab.async false
namespace PZ
section
variable {k : Nat} {s s' s2 : Sto} {d : D} {i j : Int} {G : Glo} {ρ : Env} {E : Nat → Sto → Prop} {n : Nat}
/-! ### the word of a refusal -/
theorem hot_point : (glo Pg (k + 2)).fn 242 [.exv 1] [] = .ok (.str [112, 111, 105, 110, 116]) [] := by rfl
theorem hot_form : (glo Pg (k + 2)).fn 242 [.exv 25] [] = .ok (.str [102, 111, 114, 109]) [] := by rfl
theorem said_exc {m : M D} {c : Nat} {t : Tx} (h : m s = .exc c s') (hc : c < 32) (hw : (glo Pg k).fn 242 [.exv c] [] = .ok (.str t) []) : (glo Pg (k + 1)).sd 243 m s = .ok (.str t) s' := by
  rw [glo_sd (z := .lst 242 [0, 1, 2, 3, 4, 5, 6, 7, 8, 9, 10, 11, 12, 13, 14, 15, 16, 17, 18, 19, 20, 21, 22, 23, 24, 25, 26, 27, 28, 29, 30, 31]) rfl]
  show (match m s with
    | .ok a s' => R.ok (D.lst [a]) s'
    | .exc c s' => hotM (glo Pg k) 242 _ c s'
    | .bad => R.bad) = _
  rw [h]
  have hm : c ∈ [0, 1, 2, 3, 4, 5, 6, 7, 8, 9, 10, 11, 12, 13, 14, 15, 16, 17, 18, 19, 20, 21, 22, 23, 24, 25, 26, 27, 28, 29, 30, 31] := by
    have : c ∈ List.range 32 := List.mem_range.mpr hc
    exact this
  show hotM (glo Pg k) 242 _ c s' = _
  unfold hotM
  rw [if_pos hm, hw]
theorem ev_call1 {f u : Nat} (h : ρ[u]? = some (some d)) : ev G (.call f (.cons (.v u) .nil)) ρ s = G.fn f [d] s := by
  show R.bind (((M.opt (ρ[u]?).join).bind fun x => ((evs G .nil ρ).bind fun xs => M.ret (x :: xs))) s) (fun xs => G.fn f xs) = _
  rw [h]
  rfl
/-! ### no shapes -/
def nsA : List D := [.non, .tup [], .str [116, 105, 108, 101, 32, 48], .tup [.str [116, 105, 108, 101]], .tup [.str [116, 105, 108, 101], .str [52]], .tup [.str [116, 105, 108, 101], .str [48, 48, 48, 48, 48, 48, 48, 48, 48, 48]], .tup [.str [116, 105, 108, 101], .int 0], .tup [.str [116, 105, 108, 101], .str [48], .str [49]], .lst [.str [116, 105, 108, 101], .str [48]], .tup [.str [84, 105, 108, 101], .str [48]], .tup [.str [115, 112, 111, 116], .int (-1), .tup [.int 0, .int 1]], .tup [.str [115, 112, 111, 116], .bl true, .tup [.int 0, .int 1]], .tup [.str [115, 112, 111, 116], .int 0, .int 5], .tup [.str [115, 112, 111, 116], .int 0, .tup [.int 2, .int 4]], .tup [.str [97, 100, 100, 114, 101, 115, 115], .str [101, 108, 109], .int (-1)], .tup [.str [97, 100, 100, 114, 101, 115, 115], .str [69, 108, 109], .int 1], .tup [.str [97, 100, 100, 114, 101, 115, 115], .str [101, 108, 109], .non], .tup [.str [114, 101, 103, 105, 111, 110], .str []], .tup [.str [114, 101, 103, 105, 111, 110], .str [97, 32, 98]], .tup [.str [112, 111, 105, 110, 116], .str [103, 114, 111, 117, 110, 100], .tup [.int 0, .int 1]], .tup [.str [112, 111, 105, 110, 116], .str [103, 114, 111, 117, 110, 100], .tup [.int 0, .int 1], .tup [.int 1, .int 0]], .tup [.str [112, 111, 105, 110, 116], .non, .tup [.int 0, .int 1], .tup [.int 0, .int 1]]]
def nsB : List D := [.tup [.str [114, 101, 103, 105, 111, 110], .str [97, 98, 99, 100, 101, 102, 103, 104, 105]], .tup [.str [114, 101, 103, 105, 111, 110], .tup [.str [102, 101, 110]]], .tup [.lst [.str [116, 105, 108, 101]], .str [48]], .tup [.str [115, 116, 114, 101, 116, 99, 104], .int 0, .tup [.int 0, .int 1], .tup [.int 1, .int 1]], .int 0]
def D.sm2 : D → Bool
  | .tup [.int i, .int j] => decide (i.natAbs < 1000) && decide (j.natAbs < 1000)
  | .kt _ => false
  | _ => true
theorem D.sm2_ok (h : d.sm2 = true) : d.small2 := by
  unfold D.sm2 at h
  split at h
  · simp only [Bool.and_eq_true, decide_eq_true_eq] at h
    exact ⟨Nat.lt_of_lt_of_le (show _ < 2 ^ 40 by omega) (pow_le' (by decide)), Nat.lt_of_lt_of_le (show _ < 2 ^ 40 by omega) (pow_le' (by decide))⟩
  · cases h
  · rename_i h1 h2
    unfold D.small2
    split
    · exact absurd rfl (h1 _ _)
    · exact absurd rfl (h2 _)
    · trivial
def askB (d : D) : Bool := (d.pure && d.fine) && (d.nkt && d.sm2)
theorem askB_ok (h : askB d = true) : d.ask := by
  unfold askB at h
  simp only [Bool.and_eq_true] at h
  exact ⟨h.1.1, h.1.2, h.2.1, D.sm2_ok h.2.2⟩
def thsB : D → Bool
  | .tup (_ :: l) => l.all askB
  | _ => true
theorem thsB_ok (h : thsB d = true) : ∀ x l, d = .tup (x :: l) → ∀ y ∈ l, y.ask := by
  rintro x l rfl y hy
  exact askB_ok (List.all_eq_true.mp h y hy)
def badB (d : D) : Bool := (d.pure && decide (d.dep ≤ 60)) && ((d.nkt && thsB d) && !shapeB d)
theorem badB_ok (h : badB d = true) : (glo Pg (k + 5)).fn i_form_text [d] s = .exc 25 s := by
  unfold badB at h
  simp only [Bool.and_eq_true, decide_eq_true_eq, Bool.not_eq_true'] at h
  exact x_form_text h.1.1 h.1.2 h.2.1.1 (thsB_ok h.2.1.2) h.2.2
theorem nsA_bad : ∀ d ∈ nsA, badB d = true := by decide
theorem nsB_bad : ∀ d ∈ nsB, badB d = true := by decide
/-- a dict is no form -/
theorem x_form_text_dic (h : s[n]? = some (.dic false false [])) : (glo Pg (k + 5)).fn i_form_text [.ref n] s = .exc 25 s := by
  have b : biM .isT [.ref n] s = .ok (.bl false) s := by
    show biR .isT n s = _
    unfold biR
    rw [h]
  have e1 : (glo Pg (k + 4)).fn i_has_shape [.ref n] s = .ok (.bl false) s := by
    refine ok_of (W_fn (d := d_has_shape) rfl rfl rfl ?_)
    simp [d_has_shape, b_has_shape, env0, b]
  refine exc_of (W_fn (d := d_form_text) rfl rfl rfl ?_)
  simp [d_form_text, b_form_text, env0, e1]
theorem trunc_out {l : List D} (h : s'.length ≠ n) (hd : D.upto n (.lst l) = false) : trunc n (.lst l) s' = .ok (.lst l) s' := by
  unfold trunc
  rw [if_neg h]
  split
  · rw [if_neg (by rw [hd]; decide)]
  · rfl
theorem c_no_shapes : (glo Pg (k + 1)).fn i_l_no_shapes [d] s = .ok (.lst (nsA ++ .ref s.length :: nsB)) (s ++ [.dic false false []]) := by
  refine ok_of (W_fnT (d := d_l_no_shapes) rfl rfl rfl ?_)
  have ed : ∀ (G : Glo) (ρ : Env) (s : Sto), ev G (.dict false .nil .nil) ρ s = .ok (.ref s.length) (s ++ [.dic false false []]) := fun _ _ _ => rfl
  simp [d_l_no_shapes, b_l_no_shapes, env0, bindT_v, intD, line, ed]
  rw [trunc_out (by simp) (by simp [D.upto, D.uptos])]
  exact ⟨rfl, rfl⟩
end
end PZ
end
section
/-! Mg: law k74. -/
set_option linter.all false
set_option maxRecDepth 100000
set_option Elab.async false
namespace PZ
section
variable {k : Nat} {s s' s2 : Sto} {d : D} {i j : Int} {G : Glo} {ρ : Env} {E : Nat → Sto → Prop} {n : Nat}
theorem Fl.stp (h : Fl s) (t : Stp n s s') : Fl s' := by
  intro o ho
  obtain ⟨m, hm⟩ := List.getElem?_of_mem ho
  by_cases e : m = n
  · subst e
    obtain ⟨a, b, c, e, _⟩ := t.st
    rw [hm] at e
    cases e
    exact ⟨a, b, c, rfl⟩
  · rw [t.same m e] at hm
    exact h o (List.mem_of_getElem? hm)
theorem Sh.form {f : D} {t : Tx} (h : Sh f t) : (glo Pg (k + 5)).fn i_form_text [f] s = .ok (.str t) s := by
  obtain @⟨w, ks, ds, ts, hk, hw, hl, hp, hd⟩ := h
  exact c_form_text hk hw hl hp hd
theorem Frt.text (h : Frt i j) : (glo Pg (k + 3)).fn i_fraction_text [.tup [.int i, .int j]] s = .ok (.str (fracT i j)) s := c_fraction_text h.1 h.2.1.1 h.2.1.2 h.2.2.1 h.2.2.2
theorem small_lt {c : Nat} (h : c ∈ smallT) : c < 0x110000 := by
  have : ∀ c ∈ smallT, c < 0x110000 := by decide
  exact this c h
theorem fig_lt {c : Nat} (h : c ∈ figT) : c < 0x110000 := by
  have : ∀ c ∈ figT, c < 0x110000 := by decide
  exact this c h
theorem kinds_rok {w ks : Tx} (h : shapesT.lookup w = some ks) : (D.str w).rok = true := by
  unfold shapesT at h
  simp only [List.lookup_cons, List.lookup_nil] at h
  repeat' split at h
  all_goals first
    | (rename_i e; have e := eq_of_beq e; subst e; decide)
    | cases h
theorem Wd.rok {c : Nat} {x : D} {t : Tx} (h : Wd c x t) : x.rok = true ∧ x.rw ≤ 2000 := by
  cases h with
  | f h =>
    obtain ⟨_, h1, h2, _⟩ := h
    have h1 := h1.log
    have h2 := h2.log
    simp [D.rok, D.roks, D.rw, D.rws]
    omega
  | @w t h =>
    have hl := word_len h
    unfold wordT at h
    simp only [Bool.and_eq_true, decide_eq_true_eq, List.all_eq_true] at h
    refine ⟨List.all_eq_true.mpr fun c hc => decide_eq_true ?_, ?_⟩
    · exact small_lt (by simpa using h.2.2 c hc)
    · simp [D.rw]; omega
  | @c t h =>
    have hl := code_len h
    unfold codeT at h
    simp only [Bool.and_eq_true, decide_eq_true_eq, List.all_eq_true] at h
    refine ⟨List.all_eq_true.mpr fun c hc => decide_eq_true ?_, ?_⟩
    · exact fig_lt (by simpa using h.2 c hc)
    · simp [D.rw]; omega
  | n _ h1 =>
    have h1 := h1.log
    simp [D.rok, D.rw]
    omega
theorem Wds.rok {cs : Tx} {ds : List D} {ts : List Tx} (h : Wds cs ds ts) : D.roks ds = true ∧ D.rws ds ≤ 2002 * cs.length := by
  induction h with
  | nil => exact ⟨rfl, Nat.le_refl _⟩
  | cons w _ ih =>
    have := w.rok
    simp [D.roks, D.rws, this.1, ih.1]
    omega
theorem Sh.repr {f : D} {t : Tx} (h : Sh f t) (g : Frt i j) : biD .repr [.tup [.tup [.int i, .int j], f]] = some (.str (reprT (.tup [.tup [.int i, .int j], f]))) := by
  obtain @⟨w, ks, ds, ts, hk, hw, hl, hp, hd⟩ := h
  have kl := kinds_len hk
  have hr := hw.rok
  have g1 := (⟨Tl.log g.2.1.1, Tl.log g.2.1.2⟩ : _ ∧ _)
  rw [biD_repr_ok]
  · simpa using hp
  · simp; omega
  · have e : (D.str w).rok = true := kinds_rok hk
    have e1 : (D.int i).rok = true := decide_eq_true (by omega)
    have e2 : (D.int j).rok = true := decide_eq_true (by omega)
    show ((((D.int i).rok && ((D.int j).rok && true)) && (((D.str w).rok && D.roks ds) && true)) = true)
    rw [e, e1, e2, hr.1]
    rfl
  · simp [D.rw, D.rws]
    unfold line
    omega
def nptB (d : D) : Bool := (d.pure && d.nkt) && (d.sm2 && !fracB d)
theorem nptB_ok (h : nptB d = true) : (glo Pg (k + 3)).fn i_fraction_text [d] s = .exc 1 s := by
  unfold nptB at h
  simp only [Bool.and_eq_true, Bool.not_eq_true'] at h
  exact x_fraction_text h.1.1 h.1.2 (D.sm2_ok h.2.1) h.2.2
def nptL : List D := [.non, .tup [.int 2, .int 4], .tup [.int 1, .int 0], .tup [.int 1, .int (-1)], .tup [.int 0, .int 2], .int 5, .str [49, 47, 50], .tup [.bl true, .int 1], .lst [.int 1, .int 2], .tup [.int 1, .int 2, .int 3], .tup [], .tup [.int 1, .non]]
theorem npt_all : ∀ d ∈ nptL, nptB d = true := by decide
def sndD : D → D
  | .tup [_, t] => t
  | _ => .non
theorem w_right {Q : D → Sto → Prop} (h : St n s) (hf : Fl s) (q : ∀ s', Stp n s s' → Q (.bl true) s') : W ((glo Pg (k + 9)).fn i_l_right [.ref n] s) Q E := by
  refine W_fnT (d := d_l_right) rfl rfl rfl ?_
  have s8 : small62 8 = true := by decide
  have s2' : small62 2 = true := by decide
  simp [d_l_right, b_l_right, env0, s8]
  refine forL_inv (fun i ρ s' => Stp n s s' ∧ ∃ a1 a4 a5 a6 a7, ρ = [some (.ref n), a1, none, none, a4, a5, a6, a7, none, none]) _ 0 _ _ ⟨.refl h, _, _, _, _, _, rfl⟩ (fun _ _ _ _ => rfl) (fun j x ρ s1 hx hI => ?_) fun ρ s1 hI => ?_
  · obtain ⟨t1, a1, a4, a5, a6, a7, rfl⟩ := hI
    have b1 : ∀ x, bindT (.v 1) x [some (.ref n), a1, none, none, a4, a5, a6, a7, none, none] = some [some (.ref n), some x, none, none, a4, a5, a6, a7, none, none] := fun _ => rfl
    rw [W_lF (b1 _)]
    simp
    refine w_any t1.st fun p r s2 h2 t2 => ?_
    refine w_shape t2.st fun f tx s3 h3 t3 => ?_
    simp [bindT_v, h3.repr h2]
    refine ⟨s2', ?_⟩
    refine forL_inv (fun i ρ s' => s' = s3 ∧ ∃ a5, ρ = [some (.ref n), some x, none, none, some (.str (reprT (.tup [.tup [.int p, .int r], f]))), a5, some (.tup [.int p, .int r]), some f, none, none]) _ 0 _ _ ⟨rfl, _, rfl⟩ (fun _ _ _ _ => rfl) (fun j2 x2 ρ s4 hx2 hI => ?_) fun ρ s4 hI => ?_
    · obtain ⟨rfl, a5', rfl⟩ := hI
      have b2 : ∀ (y : D) (a b c d : Option D), bindT (.v 5) y [some (.ref n), a, none, none, b, a5', c, d, none, none] = some [some (.ref n), a, none, none, b, some y, c, d, none, none] := fun _ _ _ _ _ => rfl
      rw [W_lF (b2 _ _ _ _ _)]
      have e1 := h2.text (k := k + 5) (s := s4)
      have e2 := c_l_fraction_text (k := k + 7) (s := s4) h2
      have e3 := h3.form (k := k + 3) (s := s4)
      have e4 := c_l_form_text (k := k + 6) (hf.stp ((t1.trans t2).trans t3)) h3
      simp [e1, e2, e3, e4]
    · obtain ⟨rfl, a5', rfl⟩ := hI
      simp [h3.repr h2]
      exact (t1.trans t2).trans t3
  · obtain ⟨t1, a1, a4, a5, a6, a7, rfl⟩ := hI
    have p29 : powOk 10 29 = true := by decide
    simp [intD, seqOf, p29]
    refine forL_inv (fun i ρ s' => s' = s1 ∧ ∃ a2, ρ = [some (.ref n), a1, a2, none, a4, a5, a6, a7, none, none]) _ 0 _ _ ⟨rfl, _, rfl⟩ (fun _ _ _ _ => rfl) (fun j x ρ s3 hx hI => ?_) fun ρ s3 hI => ?_
    · obtain ⟨rfl, a2, rfl⟩ := hI
      have b2 : ∀ y, bindT (.v 2) y [some (.ref n), a1, a2, none, a4, a5, a6, a7, none, none] = some [some (.ref n), a1, some y, none, a4, a5, a6, a7, none, none] := fun _ => rfl
      rw [W_lF (b2 _)]
      have hb : nptB x = true := npt_all x (List.mem_of_getElem? hx)
      have e := ev_call1 (G := glo Pg (k + 8)) (s := s3) (ρ := [some (.ref n), a1, some x, none, a4, a5, a6, a7, none, none]) (f := 237) (u := 2) rfl
      rw [nptB_ok (k := k + 5) hb] at e
      have e2 := said_exc (k := k + 7) e (by decide) hot_point
      simp [e2]
    · obtain ⟨rfl, a2, rfl⟩ := hI
      simp [c_no_shapes (k := k + 7), seqOf]
      refine forL_inv (fun i ρ s' => s' = s3 ++ [.dic false false []] ∧ ∃ a2, ρ = [some (.ref n), a1, a2, none, a4, a5, a6, a7, none, none]) _ 0 _ _ ⟨rfl, _, rfl⟩ (fun _ _ _ _ => rfl) (fun j x ρ s4 hx hI => ?_) fun ρ s4 hI => ?_
      · obtain ⟨rfl, a2, rfl⟩ := hI
        have b2 : ∀ y, bindT (.v 2) y [some (.ref n), a1, a2, none, a4, a5, a6, a7, none, none] = some [some (.ref n), a1, some y, none, a4, a5, a6, a7, none, none] := fun _ => rfl
        rw [W_lF (b2 _)]
        have hm := List.mem_of_getElem? hx
        have ef : (glo Pg (k + 8)).fn i_form_text [x] (s3 ++ [.dic false false []]) = .exc 25 (s3 ++ [.dic false false []]) := by
          rcases List.mem_append.mp hm with h1 | h1
          · exact badB_ok (k := k + 3) (nsA_bad x h1)
          · rcases List.mem_cons.mp h1 with h1 | h1
            · subst h1
              exact x_form_text_dic (k := k + 3) (by simp)
            · exact badB_ok (k := k + 3) (nsB_bad x h1)
        have e := ev_call1 (G := glo Pg (k + 8)) (s := s3 ++ [.dic false false []]) (ρ := [some (.ref n), a1, some x, none, a4, a5, a6, a7, none, none]) (f := 240) (u := 2) rfl
        rw [ef] at e
        have e2 := said_exc (k := k + 7) e (by decide) hot_form
        simp [e2]
      · obtain ⟨rfl, a2, rfl⟩ := hI
        simp [bindT_v, line, seqOf]
        have fx : ∀ (i j : Int) (t : Tx), Frt i j → fracT i j = t → (glo Pg (k + 8)).fn 237 [.tup [.int i, .int j]] (s3 ++ [.dic false false []]) = .ok (.str t) (s3 ++ [.dic false false []]) := fun i j t h e => e ▸ h.text (k := k + 5)
        have f1 := fx 0 1 [48] (frt_of (by decide) (by decide) (by decide)) (by decide)
        have f2 := fx (-7) 2 [45, 55, 47, 50] (frt_of (by decide) (by decide) (by decide)) (by decide)
        have f3 := fx 3 1 [51] (frt_of (by decide) (by decide) (by decide)) (by decide)
        have f4 := fx 100000000000000000000000000000 3 [49, 48, 48, 48, 48, 48, 48, 48, 48, 48, 48, 48, 48, 48, 48, 48, 48, 48, 48, 48, 48, 48, 48, 48, 48, 48, 48, 48, 48, 48, 47, 51] (frt_of (by decide) (by decide) (by decide)) (by decide)
        have b3 : ∀ x y z u : D, bindT (.t (.cons (.v 8) (.cons (.v 9) .nil))) (.tup [x, y]) (wipeE [some (.ref n), a1, a2, some z, a4, a5, a6, a7, none, none] (Tg.slots (.t (.cons (.v 8) (.cons (.v 9) .nil))))) = some [some (.ref n), a1, a2, some z, a4, a5, a6, a7, some x, some y] := fun _ _ _ _ => rfl
        refine comp_all (g := sndD) rfl (by unfold line; decide) (fun x hx => ?_) ?_
        · simp only [List.mem_cons, List.not_mem_nil, or_false] at hx
          rcases hx with rfl | rfl | rfl | rfl
          · rw [W_cF (b3 _ _ _ .non)]; simp [f1, sndD]
          · rw [W_cF (b3 _ _ _ .non)]; simp [f2, sndD]
          · rw [W_cF (b3 _ _ _ .non)]; simp [f3, sndD]
          · rw [W_cF (b3 _ _ _ .non)]; simp [f4, sndD]
        refine comp_all (g := sndD) rfl (by unfold line; decide) (fun x hx => ?_) ?_
        · simp only [List.mem_cons, List.not_mem_nil, or_false] at hx
          rcases hx with rfl | rfl | rfl | rfl <;> (rw [W_cF (b3 _ _ _ .non)]; simp [sndD])
        refine ⟨⟨⟨by decide, by decide⟩, by decide, by decide⟩, ?_⟩
        rw [← t1.len, trunc_own (hf.stp t1) rfl]
        exact q s3 t1
end
end PZ
end
section
/-! Mh: law k74 says True. -/
set_option linter.all false
set_option maxRecDepth 100000
set_option Elab.async false
namespace PZ
section
variable {k : Nat} {s s' s2 : Sto} {n : Nat} {Q : D → Sto → Prop} {E : Nat → Sto → Prop}
theorem Fl.state (h : Fl s) (h1 : St s.length s') (h2 : s'.length = s.length + 1) (h3 : ∀ n, n < s.length → s'[n]? = s[n]?) : Fl s' := by
  intro o ho
  obtain ⟨m, hm⟩ := List.getElem?_of_mem ho
  by_cases e : m = s.length
  · subst e
    obtain ⟨a, b, c, e, _⟩ := h1
    rw [hm] at e
    cases e
    exact ⟨a, b, c, rfl⟩
  · have := (List.getElem?_eq_some_iff.mp hm).1
    rw [h3 m (by omega)] at hm
    exact h o (List.mem_of_getElem? hm)
theorem fl_nil : Fl [] := fun o ho => nomatch ho
theorem rngL_at : ∀ {m : Nat} {lo : Int} {j : Nat} {x : D}, (rngL lo m)[j]? = some x → x = .int (lo + j)
  | 0, lo, j, x, h => by simp [rngL] at h
  | m + 1, lo, 0, x, h => by simp [rngL] at h; simp [h]
  | m + 1, lo, j + 1, x, h => by
    have := rngL_at (m := m) (lo := lo + 1) (j := j) (x := x) (by simpa [rngL] using h)
    rw [this]
    congr 1
    push_cast
    omega
theorem w_law {ns : List Int} (hl : ns.length ≤ 63) : W ((glo Pg (k + 10)).fn i_law'8 [.scr ns] []) (fun d _ => d = .bl true) E := by
  refine W_fnT (d := d_law'8) rfl rfl rfl ?_
  have s1 : small62 1 = true := by decide
  have tr : ∀ s : Sto, trunc 0 (.bl true) s = .ok (.bl true) (s.take 0) := fun s => by
    unfold trunc
    by_cases h : s.length = 0
    · rw [if_pos h, List.take_of_length_le (Nat.le_of_eq h)]
    · rw [if_neg h, if_pos (show (s.take 0).all (MO.upto 0) = true from rfl), if_pos (show D.upto 0 (.bl true) = true from rfl)]
  simp only [d_law'8, b_law'8, env0]
  simp [s1]
  generalize hm : (if (1 : Int) < if 4 < (ns.length : Int) then 4 else (ns.length : Int) then if 4 < (ns.length : Int) then 4 else (ns.length : Int) else 1) = m
  have hm1 : 1 ≤ m ∧ m ≤ 4 := by
    subst hm
    repeat' split
    all_goals omega
  refine ⟨by unfold small62; simp only [Bool.and_eq_true, decide_eq_true_eq]; constructor <;> omega, ?_⟩
  refine forL_inv (fun i ρ s' => Fl s' ∧ ∃ a1 a2 a3, ρ = [some (.scr ns), a1, a2, a3]) _ 0 _ _ ⟨fl_nil, _, _, _, rfl⟩ (fun _ _ _ _ => rfl) (fun j x ρ s2 hx hI => ?_) fun ρ s2 hI => ?_
  · obtain ⟨hf, a1, a2, a3, rfl⟩ := hI
    have b1 : ∀ x, bindT (.v 1) x [some (.scr ns), a1, a2, a3] = some [some (.scr ns), some x, a2, a3] := fun _ => rfl
    rw [W_lF (b1 _), rngL_at hx]
    simp
    refine w_state (k := k + 7) fun s3 h1 h2 h3 => ?_
    have b2 : ∀ x y, bindT (.v 2) x [some (.scr ns), y, a2, a3] = some [some (.scr ns), y, some x, a3] := fun _ _ => rfl
    simp [b2, s1]
    have hf3 := hf.state h1 h2 h3
    refine forL_inv (fun i ρ s' => Fl s' ∧ St s2.length s' ∧ ∃ a1 a3, ρ = [some (.scr ns), a1, some (.ref s2.length), a3]) _ 0 _ _ ⟨hf3, h1, _, _, rfl⟩ (fun _ _ _ _ => rfl) (fun j4 x4 ρ s4 hx4 hI => ?_) fun ρ s4 hI => ?_
    · obtain ⟨hf4, h4, a1', a3', rfl⟩ := hI
      have b3 : ∀ x y z, bindT (.v 3) x [some (.scr ns), y, z, a3'] = some [some (.scr ns), y, z, some x] := fun _ _ _ => rfl
      rw [W_lF (b3 _ _ _)]
      simp
      refine w_right h4 hf4 fun s5 t5 => ?_
      simp
      exact ⟨hf4.stp t5, t5.st⟩
    · obtain ⟨hf4, h4, a1', a3', rfl⟩ := hI
      simp
      exact hf4
  · obtain ⟨hf, a1, a2, a3, rfl⟩ := hI
    simp [tr]
theorem hsay_ : ∀ ns : List Int, ns.length ≤ 63 → (∀ z ∈ ns, PySem.Builtin.Int.intBits z ≤ 1048576) → ∃ S', (glo Pg 40).fn i_law'8 [.scr ns] [] = .ok (.bl true) S' := fun ns h _ => by
  obtain ⟨a, s, e, rfl⟩ := (w_law (k := 30) (E := noE) h).eq
  exact ⟨s, e⟩
end
end PZ
end
section
/-! Na: decimal numbers in texts. -/
set_option linter.all false
set_option maxRecDepth 100000
set_option Elab.async false
namespace PZ
/-- a decimal number as it is written: figures alone, no nought ahead -/
def canB (t : Tx) : Bool := (t.all isDig && decide (t ≠ [])) && (decide (t.head? ≠ some 48) || decide (t = [48]))
def numD (t : Tx) : D := if canB t = true then .int (digT t : Nat) else .non
def figsT : Tx := [48, 49, 50, 51, 52, 53, 54, 55, 56, 57]
theorem dig_iff {c : Nat} : isDig c = decide (c ∈ figsT) := by
  unfold isDig figsT
  rw [Bool.eq_iff_iff]
  simp only [Bool.and_eq_true, decide_eq_true_eq, List.mem_cons, List.not_mem_nil, or_false]
  omega
theorem digT_snoc (t : Tx) (c : Nat) : digT (t ++ [c]) = digT t * 10 + (c - 48) := by
  unfold digT; rw [List.foldl_append]; rfl
theorem digT_one (c : Nat) : digT [c] = c - 48 := by simp [digT]
theorem dig_char {c : Nat} (h : isDig c = true) : (Nat.digitChar (c - 48)).toNat = c := by
  rw [dig_iff] at h
  have := of_decide_eq_true h
  simp only [figsT, List.mem_cons, List.not_mem_nil, or_false] at this
  rcases this with rfl | rfl | rfl | rfl | rfl | rfl | rfl | rfl | rfl | rfl <;> rfl
theorem natT_small {n : Nat} (h : n < 10) : natT n = [n + 48] := by
  unfold natT
  rw [Nat.toDigits_of_lt_base h]
  have : ∀ n, n < 10 → (Nat.digitChar n).toNat = n + 48 := by decide
  simp [this n h]
theorem natT_step {n : Nat} (h : 10 ≤ n) : natT n = natT (n / 10) ++ [n % 10 + 48] := by
  unfold natT
  rw [Nat.toDigits_eq_if (by decide), if_neg (by omega), List.map_append]
  have : ∀ n, n < 10 → (Nat.digitChar n).toNat = n + 48 := by decide
  simp [this (n % 10) (Nat.mod_lt _ (by decide))]
theorem digT_pos : ∀ (t : Tx), t.all isDig = true → t ≠ [] → t.head? ≠ some 48 → 1 ≤ digT t := by
  intro t
  induction h : t.length using Nat.strongRecOn generalizing t with
  | ind n ih =>
    intro ha hne hh
    rcases List.eq_nil_or_concat t with rfl | ⟨u, c, rfl⟩
    · exact absurd rfl hne
    · rw [List.concat_eq_append] at *
      rw [digT_snoc]
      simp only [List.all_append, Bool.and_eq_true] at ha
      cases u with
      | nil =>
        have hc : isDig c = true := by simpa using ha.2
        have : c ≠ 48 := by simpa using hh
        unfold isDig at hc
        simp only [Bool.and_eq_true, decide_eq_true_eq] at hc
        simp [digT]; omega
      | cons x u =>
        have := ih (x :: u).length (by subst h; simp) (x :: u) rfl ha.1 (by simp) (by simpa using hh)
        omega
/-- a written number is written so -/
theorem natT_digT : ∀ (t : Tx), canB t = true → natT (digT t) = t := by
  intro t
  induction h : t.length using Nat.strongRecOn generalizing t with
  | ind n ih =>
    intro hc
    unfold canB at hc
    simp only [Bool.and_eq_true, Bool.or_eq_true, decide_eq_true_eq] at hc
    obtain ⟨⟨ha, hne⟩, hh⟩ := hc
    rcases List.eq_nil_or_concat t with rfl | ⟨u, c, rfl⟩
    · exact absurd rfl hne
    · rw [List.concat_eq_append] at *
      have hd : isDig c = true := by simp only [List.all_append, Bool.and_eq_true] at ha; simpa using ha.2
      have hc2 : 48 ≤ c ∧ c ≤ 57 := by unfold isDig at hd; simpa using hd
      have au : u.all isDig = true := by simp only [List.all_append, Bool.and_eq_true] at ha; exact ha.1
      cases u with
      | nil =>
        rw [List.nil_append, digT_one, natT_small (by omega)]
        congr 1
        omega
      | cons x u =>
        have hh2 : (x :: u).head? ≠ some 48 := by
          rcases hh with q | q
          · simpa using q
          · simp at q
        have cu : canB (x :: u) = true := by unfold canB; simp only [Bool.and_eq_true, Bool.or_eq_true, decide_eq_true_eq]; exact ⟨⟨au, by simp⟩, .inl hh2⟩
        have p := digT_pos (x :: u) au (by simp) hh2
        have r := ih (x :: u).length (by subst h; simp) (x :: u) rfl cu
        rw [digT_snoc, natT_step (by omega)]
        rw [show (digT (x :: u) * 10 + (c - 48)) / 10 = digT (x :: u) by omega, show (digT (x :: u) * 10 + (c - 48)) % 10 = c - 48 by omega, r]
        congr 2
        omega
theorem natT_ne (n : Nat) : natT n ≠ [] := by
  by_cases h : n < 10
  · rw [natT_small h]; simp
  · rw [natT_step (by omega)]; simp
theorem natT_figs : ∀ n : Nat, (natT n).all isDig = true ∧ natT n ≠ [] ∧ (natT n).head? ≠ some 48 ∨ natT n = [48] := by
  intro n
  induction n using Nat.strongRecOn with
  | ind n ih =>
    by_cases h : n < 10
    · rw [natT_small h]
      by_cases h0 : n = 0
      · subst h0; exact .inr rfl
      · refine .inl ⟨?_, by simp, by simp; omega⟩
        simp [isDig]; omega
    · have h1 : 10 ≤ n := by omega
      rw [natT_step h1]
      have hl : isDig (n % 10 + 48) = true := by simp [isDig]; omega
      rcases ih (n / 10) (by omega) with ⟨a, b, c⟩ | e
      · refine .inl ⟨by simp [a, hl], by simp, ?_⟩
        rw [List.head?_append]
        cases q : (natT (n / 10)).head? with
        | none => exact absurd (List.head?_eq_none_iff.mp q) b
        | some z => rw [q] at c; simpa using c
      · by_cases h2 : n / 10 = 0
        · omega
        · exfalso
          have : ∀ m, m ≠ 0 → natT m ≠ [48] := by
            intro m hm hc
            by_cases h3 : m < 10
            · rw [natT_small h3] at hc; simp at hc; omega
            · rw [natT_step (by omega)] at hc
              have := congrArg List.length hc
              simp at this
              exact natT_ne _ this
          exact this _ h2 e
theorem canB_natT (n : Nat) : canB (natT n) = true := by
  unfold canB
  simp only [Bool.and_eq_true, Bool.or_eq_true, decide_eq_true_eq]
  rcases natT_figs n with ⟨a, b, c⟩ | e
  · exact ⟨⟨a, b⟩, .inl c⟩
  · rw [e]; exact ⟨⟨by decide, by decide⟩, .inr rfl⟩
theorem canB_iff {t : Tx} (ha : t.all isDig = true) (hne : t ≠ []) : (intT (digT t : Nat) = t) ↔ canB t = true := by
  have e : intT ((digT t : Nat) : Int) = natT (digT t) := by
    unfold intT
    rw [if_neg (by omega)]
    rfl
  rw [e]
  exact ⟨fun h => by rw [← h]; exact canB_natT _, natT_digT t⟩
section
variable {k : Nat} {s : Sto} {d : D}
theorem biD_intS {t : Tx} : biD .int [.str t] = if t ≠ [] ∧ t.all isDig = true ∧ t.length ≤ 600 then some (.int (digT t : Nat)) else none := rfl
/-- int() of so few figures is small enough to be told -/
theorem digT_lt : ∀ t : Tx, t.all isDig = true → digT t < 10 ^ t.length := by
  intro t
  induction h : t.length using Nat.strongRecOn generalizing t with
  | ind n ih =>
    intro ha
    rcases List.eq_nil_or_concat t with rfl | ⟨u, c, rfl⟩
    · subst h; decide
    · rw [List.concat_eq_append] at *
      simp only [List.all_append, Bool.and_eq_true] at ha
      have hd : isDig c = true := by simpa using ha.2
      have hc2 : 48 ≤ c ∧ c ≤ 57 := by unfold isDig at hd; simpa using hd
      have := ih u.length (by subst h; simp) u rfl ha.1
      rw [digT_snoc]
      subst h
      rw [List.length_append, List.length_singleton, Nat.pow_succ]
      omega
end
end PZ
end
section
/-! Nb: numbers and fractions read. -/
set_option linter.all false
set_option maxRecDepth 100000
set_option Elab.async false
namespace PZ
section
variable {k : Nat} {s : Sto} {d : D} {E : Nat → Sto → Prop}
theorem comp_filt {v : Nat} {z t : Tx} {Q : List D → Sto → Prop} {G : Glo} {ρ : Env} (hv : v < ρ.length) (hl : t.length ≤ line) (fin : Q ((t.filter fun c => !decide (c ∈ z)).map fun c => D.str [c]) s) :
    W (compL (cF G (.v v) (.v v) (.op .notin (.v v) (.c (.str z))) ρ) ⟨t.map (fun c => D.str [c]), [], none⟩ (t.map fun c => D.str [c]) [] s) Q E := by
  refine compL_map (g := fun x => match x with | .str [c] => if c ∈ z then none else some (D.str [c]) | _ => none) rfl (by simpa using hl) (fun x hx => ?_) ?_
  · obtain ⟨c, hc, rfl⟩ := List.mem_map.mp hx
    have hb : bindT (.v v) (.str [c]) (wipeE ρ (Tg.v v).slots) = some ((wipeE ρ [v]).set v (some (.str [c]))) := by
      show (if v < (wipeE ρ [v]).length then _ else _) = _
      rw [if_pos (by simp [wipeE]; exact hv)]; rfl
    have hg : ((wipeE ρ [v]).set v (some (D.str [c])))[v]? = some (some (.str [c])) := by
      rw [List.getElem?_set_self]; simp [wipeE]; exact hv
    rw [W_cF hb]
    have hi : inD (.str [c]) (.str z) = some (decide (c ∈ z)) := rfl
    by_cases hz : c ∈ z
    · simp [hg, hz, hi]
    · simp [hg, hz, hi]
  · have e : (t.map fun c => D.str [c]).filterMap (fun x => match x with | .str [c] => if c ∈ z then none else some (D.str [c]) | _ => none) = (t.filter fun c => !decide (c ∈ z)).map fun c => D.str [c] := by
      clear fin hl
      induction t with
      | nil => rfl
      | cons c t ih =>
        rw [List.map_cons, List.filterMap_cons, List.filter_cons]
        by_cases hz : c ∈ z
        · simp [hz, ih]
        · simp [hz, ih]
    rw [e]
    exact fin
theorem filt_nil {t : Tx} : (t.filter fun c => !decide (c ∈ figsT)) = [] ↔ t.all isDig = true := by
  rw [List.filter_eq_nil_iff, List.all_eq_true]
  constructor
  · intro h c hc
    rw [dig_iff]
    have := h c hc
    simpa using this
  · intro h c hc
    have := h c hc
    rw [dig_iff] at this
    simpa using this
theorem numD_no {t : Tx} (h : t.all isDig = false) : numD t = .non := by
  unfold numD canB
  rw [h]; rfl
theorem c_number_in {t : Tx} (hl : t.length ≤ 300) : (glo Pg (k + 1)).fn i_number_in [.str t] s = .ok (numD t) s := by
  refine ok_of (W_fn (d := d_number_in) rfl rfl rfl ?_)
  have lq : line = 16000000 := rfl
  simp only [d_number_in, b_number_in, env0]
  by_cases h0 : t = []
  · subst h0; simp [numD, canB]
  · simp [h0, seqOf]
    refine comp_signs (by simp) (by omega) ?_
    have hf : ∀ b, (b ∈ t.map fun c => decide (c ∈ [48, 49, 50, 51, 52, 53, 54, 55, 56, 57])) ↔ ∃ c ∈ t, decide (c ∈ figsT) = b := fun b => List.mem_map
    have hall : (false ∈ t.map fun c => decide (c ∈ [48, 49, 50, 51, 52, 53, 54, 55, 56, 57])) ↔ t.all isDig = false := by
      rw [hf, List.all_eq_false]
      exact ⟨fun ⟨c, h1, h2⟩ => ⟨c, h1, by rw [dig_iff, h2]; decide⟩, fun ⟨c, h1, h2⟩ => ⟨c, h1, by rw [dig_iff] at h2; simpa using h2⟩⟩
    have post : ((false ∈ t.map fun c => decide (c ∈ [48, 49, 50, 51, 52, 53, 54, 55, 56, 57])) ∧ numD t = .non) ∨ (¬ (false ∈ t.map fun c => decide (c ∈ [48, 49, 50, 51, 52, 53, 54, 55, 56, 57])) ∧ t.all isDig = true) := by
      by_cases h : t.all isDig = true
      · exact .inr ⟨(fun q => by rw [hall, h] at q; cases q), h⟩
      · exact .inl ⟨hall.mpr (by simpa using h), numD_no (by simpa using h)⟩
    cases t with
    | nil => exact absurd rfl h0
    | cons c r =>
      have hl2 : (c :: r).length ≤ line := by omega
      refine ⟨_, blsOf_map, ?_⟩
      rcases post with ⟨h1, h2⟩ | ⟨h1, h2⟩
      · exact .inl ⟨h1, rfl, h2.symm, rfl⟩
      · refine .inr ⟨h1, ?_⟩
        have hi : biD .int [.str (c :: r)] = some (.int (digT (c :: r) : Nat)) := by
          rw [biD_intS, if_pos ⟨by simp, h2, by omega⟩]
        rw [if_pos hl2, hi]
        by_cases hc : c = 48
        · by_cases hr : r = []
          · subst hc hr
            simp [numD, canB, isDig]
          · simp [hc, hr, numD, canB]
        · simp [hc, numD, canB, h2]
theorem c_l_number_in {t : Tx} (hl : t.length ≤ 300) : (glo Pg (k + 1)).fn i_l_number_in [.str t] s = .ok (numD t) s := by
  refine ok_of (W_fn (d := d_l_number_in) rfl rfl rfl ?_)
  have lq : line = 16000000 := rfl
  simp only [d_l_number_in, b_l_number_in, env0]
  by_cases h0 : t = []
  · subst h0; simp [numD, canB]
  · simp [h0, seqOf]
    refine comp_filt (by simp) (by omega) ?_
    have fn : (t.filter fun c => !decide (c ∈ [48, 49, 50, 51, 52, 53, 54, 55, 56, 57])) = [] ↔ t.all isDig = true := filt_nil
    revert fn
    generalize (t.filter fun c => !decide (c ∈ [48, 49, 50, 51, 52, 53, 54, 55, 56, 57])) = u
    intro fn
    have pu : D.pures (u.map fun c => D.str [c]) = true := by
      clear fn
      induction u with
      | nil => rfl
      | cons c u ih => exact ih
    have du : D.deps (u.map fun c => D.str [c]) = 0 := dep_one fun d hd => by
      obtain ⟨c, _, rfl⟩ := List.mem_map.mp hd
      rfl
    refine ⟨⟨pu, by omega⟩, ?_⟩
    cases u with
    | cons c u =>
      have ha : t.all isDig = false := by
        cases h : t.all isDig with
        | false => rfl
        | true => exact absurd (fn.mpr h) (by simp)
      exact .inr ⟨rfl, rfl, (numD_no ha).symm, rfl⟩
    | nil =>
      have ha : t.all isDig = true := fn.mp rfl
      refine .inl ⟨rfl, ?_⟩
      have hi : biD .int [.str t] = some (.int (digT t : Nat)) := by
        rw [biD_intS, if_pos ⟨h0, ha, by omega⟩]
      have hb := digT_lt t ha
      have hlog : (digT t).log2 < 1000 := by
        have h1 : digT t < 10 ^ 300 := Nat.lt_of_lt_of_le hb (Nat.pow_le_pow_right (by decide) hl)
        have h2 : (10 : Nat) ^ 300 ≤ 2 ^ 1000 := by decide +kernel
        have := log2_lt (b := 999) (Nat.lt_of_lt_of_le h1 h2)
        omega
      have hcan := canB_iff ha h0
      rw [hi]
      simp [hlog]
      by_cases hc : canB t = true
      · have := hcan.mpr hc
        simp [this, numD, hc]
      · have : ¬ intT ((digT t : Nat) : Int) = t := fun z => hc (hcan.mp z)
        simp [this, numD, hc]
end
end PZ
end
section
/-! Nc: fractions read. -/
set_option linter.all false
set_option maxRecDepth 100000
set_option Elab.async false
namespace PZ
def numO (t : Tx) : Option Nat := if canB t = true then some (digT t) else none
def castO : Option Nat → Option Int
  | some n => some (n : Int)
  | none => none
def intO : Option Int → D
  | some i => .int i
  | none => .non
theorem numD_eq {t : Tx} : numD t = intO (castO (numO t)) := by
  unfold numD numO
  split <;> rfl
/-- a whole number with its sign -/
def wholeO (t : Tx) : Option Int := match t with
  | 45 :: r => match numO r with
    | some (n + 1) => some (-((n + 1 : Nat) : Int))
    | _ => none
  | t => castO (numO t)
/-! ### cutting at a sign -/
def cutO (c : Nat) : Tx → Option (Tx × Tx)
  | [] => none
  | x :: r => if x = c then some ([], r) else (cutO c r).map fun p => (x :: p.1, p.2)
theorem pfx_one {c x : Nat} {r : Tx} : pfx [c] (x :: r) = decide (x = c) := by
  unfold pfx
  by_cases h : x = c
  · subst h; simp
  · simp [h]
theorem parT_eq {c : Nat} : ∀ (t acc : Tx), parT [c] acc t = (cutO c t).map fun p => (acc ++ p.1, p.2)
  | [], acc => rfl
  | x :: r, acc => by
    rw [parT, cutO, pfx_one]
    by_cases h : x = c
    · simp [h]
    · simp only [h, decide_false, Bool.false_eq_true, if_false]
      rw [parT_eq r (acc ++ [x])]
      cases cutO c r <;> simp
theorem splT_eq {c : Nat} : ∀ (t acc : Tx), splT [c] 0 acc t = match cutO c t with
    | none => [acc ++ t]
    | some p => (acc ++ p.1) :: splT [c] 0 [] p.2
  | [], acc => by simp [splT, cutO]
  | x :: r, acc => by
    rw [splT, cutO, pfx_one]
    by_cases h : x = c
    · simp [h]
    · simp only [h, decide_false, Bool.false_eq_true, if_false]
      rw [splT_eq r (acc ++ [x])]
      cases cutO c r <;> simp
theorem cutO_len {c : Nat} : ∀ {t : Tx} {p : Tx × Tx}, cutO c t = some p → p.1.length + 1 + p.2.length = t.length
  | [], p, h => by cases h
  | x :: r, p, h => by
    rw [cutO] at h
    by_cases hx : x = c
    · rw [if_pos hx] at h; cases h; simp; omega
    · rw [if_neg hx] at h
      cases q : cutO c r with
      | none => rw [q] at h; cases h
      | some p' =>
        rw [q] at h; cases h
        have := cutO_len q
        simp; omega
theorem cutO_none {c : Nat} : ∀ {t : Tx}, cutO c t = none ↔ c ∉ t
  | [] => by simp [cutO]
  | x :: r => by
    rw [cutO]
    by_cases hx : x = c
    · subst hx; simp
    · rw [if_neg hx, Option.map_eq_none_iff, cutO_none, List.mem_cons]
      simp [Ne.symm hx]
theorem cutO_app {c : Nat} : ∀ {t : Tx} {p : Tx × Tx}, cutO c t = some p → t = p.1 ++ c :: p.2
  | [], p, h => by cases h
  | x :: r, p, h => by
    rw [cutO] at h
    by_cases hx : x = c
    · rw [if_pos hx] at h; cases h; simp [hx]
    · rw [if_neg hx] at h
      cases q : cutO c r with
      | none => rw [q] at h; cases h
      | some p' =>
        rw [q] at h; cases h
        rw [cutO_app q]; rfl
theorem numO_lt {t : Tx} {n : Nat} (h : numO t = some n) (hl : t.length ≤ 300) : n < 2 ^ 1000 := by
  unfold numO at h
  by_cases hc : canB t = true
  · rw [if_pos hc] at h
    cases h
    have ha : t.all isDig = true := by unfold canB at hc; simp only [Bool.and_eq_true] at hc; exact hc.1.1
    have h2 : (10 : Nat) ^ 300 ≤ 2 ^ 1000 := by decide +kernel
    exact Nat.lt_of_lt_of_le (Nat.lt_of_lt_of_le (digT_lt t ha) (Nat.pow_le_pow_right (by decide) hl)) h2
  · rw [if_neg hc] at h; cases h
theorem wholeO_lt {t : Tx} {i : Int} (h : wholeO t = some i) (hl : t.length ≤ 300) : i.natAbs < 2 ^ 1000 := by
  unfold wholeO at h
  split at h
  · split at h
    · rename_i r n q
      cases h
      have := numO_lt q (by simp at hl; omega)
      omega
    · cases h
  · cases q : numO t with
    | none => rw [q] at h; cases h
    | some n =>
      rw [q] at h
      cases h
      have := numO_lt q hl
      omega
/-- a fraction as it is written -/
def fracO (t : Tx) : Option (Int × Int) := match cutO 47 t with
  | none => (wholeO t).map fun i => (i, 1)
  | some p => match wholeO p.1, numO p.2 with
    | some i, some m => if 2 ≤ m ∧ Nat.gcd i.natAbs m = 1 then some (i, (m : Int)) else none
    | _, _ => none
def fracD : Option (Int × Int) → D
  | some p => .tup [.int p.1, .int p.2]
  | none => .non
section
variable {k : Nat} {s : Sto} {d : D} {E : Nat → Sto → Prop}
theorem meM_part {z : Tx} {c : Nat} (hl : z.length ≤ line) : meM .partition (.str z) [.str [c]] s = .ok (match cutO c z with
    | some p => .tup [.str p.1, .str [c], .str p.2]
    | none => .tup [.str z, .str [], .str []]) s := by
  show (if [c] = [] ∨ line < z.length then R.bad else match parT [c] [] z with
    | some (a, b) => .ok (D.tup [.str a, .str [c], .str b]) s
    | none => .ok (.tup [.str z, .str [], .str []]) s) = _
  rw [if_neg (by simp; omega), parT_eq]
  cases cutO c z <;> simp
theorem meM_splt {z : Tx} {c : Nat} (hc : c < 256) (hl : z.length < line) : meM .split (.str z) [.str [c]] s = .ok (.lst ((splT [c] 0 [] z).map .str)) s := by
  show (if [c] ≠ [] ∧ ([c] : Tx).all (· < 256) = true ∧ z.length < line then R.ok (D.lst ((splT [c] 0 [] z).map .str)) s else .bad) = _
  rw [if_pos ⟨by simp, by simp [hc], hl⟩]
theorem c_whole_in {t : Tx} (hl : t.length ≤ 300) : (glo Pg (k + 2)).fn i_whole_in [.str t] s = .ok (intO (wholeO t)) s := by
  refine ok_of (W_fn (d := d_whole_in) rfl rfl rfl ?_)
  have lq : line = 16000000 := rfl
  simp only [d_whole_in, b_whole_in, env0]
  have bt : ∀ (x : D) (y : Option D) (z : D), bindT (.v 1) x [some z, y] = some [some z, some x] := fun _ _ _ => rfl
  have e1 := c_number_in (k := k) (s := s) hl
  cases t with
  | nil =>
    simp [intD, sliceD, cutL, sIx, e1]
    rfl
  | cons c r =>
    have hl2 : r.length ≤ 300 := by simp at hl; omega
    have e2 := c_number_in (k := k) (s := s) hl2
    simp only [List.length_cons] at hl
    by_cases hc : c = 45
    · subst hc
      have h1 : r.length + 1 ≤ line := by omega
      simp [intD, sliceD, cutL, sIx, e2, h1, bt]
      unfold numD wholeO numO
      by_cases hb : canB r = true
      · simp [hb]
        cases hn : digT r with
        | zero => simp [hn, intO]
        | succ n => simp [intO]
      · simp [hb, intO]
    · have h1 : r.length + 1 ≤ line := by omega
      have hw : wholeO (c :: r) = castO (numO (c :: r)) := by
        unfold wholeO
        split
        · rename_i q; cases q; exact absurd rfl hc
        · rfl
      simp [intD, sliceD, cutL, sIx, hc, e1, h1, hw, numD_eq]
theorem c_fraction_in {t : Tx} (hl : t.length ≤ 300) : (glo Pg (k + 3)).fn i_fraction_in [.str t] s = .ok (fracD (fracO t)) s := by
  refine ok_of (W_fn (d := d_fraction_in) rfl rfl rfl ?_)
  have lq : line = 16000000 := rfl
  simp only [d_fraction_in, b_fraction_in, env0]
  simp [meM_part (z := t) (c := 47) (s := s) (by omega)]
  cases hc : cutO 47 t with
  | none =>
    have e1 := c_whole_in (k := k) (s := s) hl
    have hf : fracO t = (wholeO t).map fun i => (i, 1) := by unfold fracO; rw [hc] <;> rfl
    cases hw : wholeO t with
    | none =>
      rw [hw] at e1 hf
      simp [bindT_v, e1, hf, intO, fracD]
    | some i =>
      rw [hw] at e1 hf
      have si : Sm i := Nat.lt_of_lt_of_le (wholeO_lt hw hl) (pow_le' (by decide))
      have e2 := c_is_fraction (k := k) (s := s) (d := .tup [.int i, .int 1]) rfl rfl ⟨si, Nat.lt_of_lt_of_le (show (1 : Int).natAbs < 2 ^ 40 by decide) (pow_le' (by decide))⟩
      have hb : fracB (.tup [.int i, .int 1]) = true := decide_eq_true ⟨by decide, Nat.gcd_one_right _⟩
      rw [hb] at e2
      simp [bindT_v, e1, hf, intO, fracD, e2]
  | some p =>
    obtain ⟨a, b⟩ := p
    have hlen := cutO_len hc
    simp only at hlen
    have e1 := c_whole_in (k := k) (s := s) (t := a) (by omega)
    have e3 := c_number_in (k := k + 1) (s := s) (t := b) (by omega)
    rw [numD_eq] at e3
    have hf : fracO t = match wholeO a, numO b with
        | some i, some m => if 2 ≤ m ∧ Nat.gcd i.natAbs m = 1 then some (i, (m : Int)) else none
        | _, _ => none := by unfold fracO; rw [hc] <;> rfl
    cases hw : wholeO a with
    | none =>
      rw [hw] at e1 hf
      simp [bindT_v, e1, e3, hf, intO, castO, fracD]
    | some i =>
      cases hn : numO b with
      | none =>
        rw [hw, hn] at hf
        rw [hw] at e1
        rw [hn] at e3
        simp [bindT_v, e1, e3, hf, intO, castO, fracD]
      | some m =>
        rw [hw, hn] at hf
        replace hf : fracO t = if 2 ≤ m ∧ Nat.gcd i.natAbs m = 1 then some (i, (m : Int)) else none := hf
        rw [hw] at e1
        rw [hn] at e3
        have si : Sm i := Nat.lt_of_lt_of_le (wholeO_lt hw (by omega)) (pow_le' (by decide))
        have sm : Sm (m : Int) := Nat.lt_of_lt_of_le (show (m : Int).natAbs < 2 ^ 1000 by have := numO_lt hn (by omega); omega) (pow_le' (by decide))
        have e2 := c_is_fraction (k := k) (s := s) (d := .tup [.int i, .int m]) rfl rfl ⟨si, sm⟩
        by_cases h2 : 2 ≤ m
        · have f2 : ¬ (m : Int) < 2 := by omega
          by_cases hg : Nat.gcd i.natAbs m = 1
          · have hb : fracB (.tup [.int i, .int m]) = true := decide_eq_true ⟨by omega, hg⟩
            rw [hb] at e2
            rw [if_pos ⟨h2, hg⟩] at hf
            simp [bindT_v, e1, e3, hf, intO, castO, fracD, e2, f2]
          · have hb : fracB (.tup [.int i, .int m]) = false := decide_eq_false fun z => hg z.2
            rw [hb] at e2
            rw [if_neg (fun z => hg z.2)] at hf
            simp [bindT_v, e1, e3, hf, intO, castO, fracD, e2, f2]
        · have f2 : (m : Int) < 2 := by omega
          rw [if_neg (fun z => h2 z.1)] at hf
          simp [bindT_v, e1, e3, hf, intO, castO, fracD, f2]
end
end PZ
end
section
/-! Nd: the law's own reading of fractions. -/
set_option linter.all false
set_option maxRecDepth 100000
set_option Elab.async false
namespace PZ
theorem fr_same {p q t b : Int} (h1 : Fr p q) (h2 : Fr t b) (h : t * q = b * p) : t = p ∧ b = q := by
  obtain ⟨q0, g1⟩ := h1
  obtain ⟨b0, g2⟩ := h2
  have d1 : b.natAbs ∣ q.natAbs := by
    have : b.natAbs ∣ t.natAbs * q.natAbs := by rw [← Int.natAbs_mul, h, Int.natAbs_mul]; exact Nat.dvd_mul_right _ _
    exact (Nat.Coprime.dvd_of_dvd_mul_left (Nat.Coprime.symm g2) this)
  have d2 : q.natAbs ∣ b.natAbs := by
    have : q.natAbs ∣ b.natAbs * p.natAbs := by rw [← Int.natAbs_mul, ← h, Int.natAbs_mul]; exact Nat.dvd_mul_left _ _
    exact (Nat.Coprime.dvd_of_dvd_mul_right (Nat.Coprime.symm g1) this)
  have e := Nat.dvd_antisymm d1 d2
  have hb : b = q := by omega
  subst hb
  refine ⟨?_, rfl⟩
  have hne : b ≠ 0 := by omega
  rw [Int.mul_comm t b] at h
  exact Int.eq_of_mul_eq_mul_left hne h
theorem numO_bar {b : Tx} {p : Tx × Tx} (h : cutO 47 b = some p) : numO b = none := by
  have hm : 47 ∈ b := by rw [cutO_app h]; simp
  have : b.all isDig = false := by
    rw [List.all_eq_false]
    exact ⟨47, hm, by decide⟩
  unfold numO canB
  rw [this]; rfl
section
variable {k : Nat} {s : Sto} {d : D} {E : Nat → Sto → Prop} {i j : Int}
/-- low of what is in least terms, of what is not -/
theorem w_low_same {Q : D → Sto → Prop} (hb : 0 < j) (si : Sm i) (sj : Sm j) (q1 : Nat.gcd i.natAbs j.natAbs = 1 → Q (.tup [.int i, .int j]) s) (q2 : ∀ p r, Nat.gcd i.natAbs j.natAbs ≠ 1 → ¬ (p = i ∧ r = j) → Q (.tup [.int p, .int r]) s) : W ((glo Pg (k + 1)).fn i_l_low [.int i, .int j] s) Q E := by
  refine w_l_low (by omega) si sj fun p r hf hv _ _ => ?_
  by_cases hg : Nat.gcd i.natAbs j.natAbs = 1
  · obtain ⟨rfl, rfl⟩ := fr_same hf ⟨hb, hg⟩ hv
    exact q1 hg
  · refine q2 p r hg fun z => hg ?_
    obtain ⟨rfl, rfl⟩ := z
    exact hf.2
theorem mulOk_n {i : Int} {m : Nat} (hi : i.natAbs ≤ 1) (h : m < 2 ^ 1000) : mulOk i (m : Int) = true := mulOk_of (p := 1) (q := 999) (Nat.lt_of_le_of_lt hi (by decide)) h (by decide)
theorem gcd_neg {n m : Nat} : Nat.gcd (-((n : Nat) : Int)).natAbs m = Nat.gcd n m := by rw [Int.natAbs_neg]; rfl
def tl4 : CSs → CSs
  | .cons _ (.cons _ (.cons _ (.cons _ r))) => r
  | r => r
/-- what the law makes of its sign, its number above, its number below -/
def lfr (n : Nat) (sg : Bool) (top bot : Option Nat) : Option (Int × Int) := match top, bot with
  | some i, some m => if n ≤ 2 ∧ 1 ≤ m ∧ ¬ (i = 0 ∧ sg = true) ∧ ¬ (n = 2 ∧ m = 1) ∧ Nat.gcd i m = 1 then some ((if sg then -(i : Int) else i), (m : Int)) else none
  | _, _ => none
def sgI (sg : Bool) : Int := if sg then -1 else 1
theorem low_end {i m : Nat} {sg : Bool} {R : D} (hm : 1 ≤ m) (hi : i < 2 ^ 1000) (hm2 : m < 2 ^ 1000) (q1 : Nat.gcd i m = 1 → D.tup [.int (sgI sg * i), .int m] = R) (q2 : Nat.gcd i m ≠ 1 → .non = R) :
    W ((glo Pg (k + 2)).fn 120 [.int i, .int m] s) (fun x s1 => W (opM .ne x (.tup [.int i, .int m]) s1) (fun x s2 => (x = .bl false ∧ mulOk (sgI sg) i = true ∧ s2.length = s.length ∧ D.tup [.int (sgI sg * i), .int m] = R ∧ s2 = s) ∨ (x = .bl true ∧ s2.length = s.length ∧ .non = R ∧ s2 = s)) (fun _ _ => False)) (fun _ _ => False) := by
  have sn : ∀ {n : Nat}, n < 2 ^ 1000 → Sm (n : Int) := fun h => Nat.lt_of_lt_of_le (show ((_ : Nat) : Int).natAbs < 2 ^ 1000 from h) (pow_le' (by decide))
  have mk : mulOk (sgI sg) i = true := mulOk_n (by cases sg <;> decide) hi
  refine w_low_same (by omega) (sn hi) (sn hm2) (fun hg => ?_) fun p r hg hne => ?_
  · simp [mk, q1 hg]
  · have hne2 : ¬ (p = i ∧ r = m) := hne
    simp [← q2 hg]
    by_cases hp : p = i
    · right
      exact fun z => hne2 ⟨hp, z⟩
    · left; exact hp
theorem w_rest {a : D} {parts : List D} {sg : Bool} {top bot : Option Nat} {r : Option (Int × Int)} (hr : lfr parts.length sg top bot = r) (hp : parts.length ≤ line) (ht : ∀ n, top = some n → n < 2 ^ 1000) (hb : ∀ n, bot = some n → n < 2 ^ 1000) :
    WS (evSs (glo Pg (k + 2)) (tl4 b_l_fraction_in) [some a, some (.lst parts), some (.int (sgI sg)), some (intO (castO top)), some (intO (castO bot))] s) ⟨fun _ _ => False, fun x s' => s'.length = s.length ∧ x = fracD r ∧ s' = s, fun _ _ => False, fun _ _ => False⟩ := by
  have sn : ∀ {n : Nat}, n < 2 ^ 1000 → Sm (n : Int) := fun h => Nat.lt_of_lt_of_le (show ((_ : Nat) : Int).natAbs < 2 ^ 1000 from h) (pow_le' (by decide))
  simp only [tl4, b_l_fraction_in]
  subst hr
  have f2 : ((2 : Int) < (parts.length : Int)) ↔ ¬ parts.length ≤ 2 := by omega
  have g2 : ((parts.length : Int) = 2) ↔ parts.length = 2 := by omega
  cases top with
  | none =>
    by_cases h2 : parts.length ≤ 2
    · simp [intO, castO, lfr, fracD, hp, f2, h2]
    · simp [intO, castO, lfr, fracD, hp, f2, h2]
  | some i =>
    have hi := ht i rfl
    by_cases h2 : parts.length ≤ 2
    · cases bot with
      | none => simp [intO, castO, lfr, fracD, hp, f2, h2]
      | some m =>
        have hm := hb m rfl
        have le := fun R => low_end (k := k) (s := s) (i := i) (m := m) (sg := sg) (R := R)
        simp [intO, castO, lfr, hp, f2, h2, g2]
        have sgz : (0 ≤ sgI sg) ↔ sg = false := by cases sg <;> decide
        have sgl : (sgI sg < 0) ↔ sg = true := by cases sg <;> decide
        have sgm : sgI sg * (i : Int) = if sg = true then -(i : Int) else i := by cases sg <;> simp [sgI]
        have nd : ∀ c : Prop, [Decidable c] → ¬ c → D.non = fracD (if c then some (if sg = true then -(i : Int) else i, (m : Int)) else none) := fun c _ h => by rw [if_neg h]; rfl
        have yd : ∀ c : Prop, [Decidable c] → c → D.tup [.int (sgI sg * i), .int m] = fracD (if c then some (if sg = true then -(i : Int) else i, (m : Int)) else none) := fun c _ h => by rw [if_pos h, sgm]; rfl
        by_cases hm0 : 1 ≤ m
        · have hm1 : 1 ≤ (m : Int) := by omega
          have m1 : ((m : Int) = 1) ↔ m = 1 := by omega
          refine .inl ⟨hm1, ?_⟩
          by_cases hi0 : i = 0
          · refine .inr ⟨hi0, ?_⟩
            cases sg with
            | false =>
              refine .inl ⟨by decide, ?_⟩
              by_cases hp2 : parts.length = 2
              · refine .inr ⟨hp2, ?_⟩
                by_cases hm2 : m = 1
                · exact .inr ⟨m1.mpr hm2, nd _ fun z => z.2.2.1 hp2 hm2⟩
                · exact .inl ⟨fun z => hm2 (m1.mp z), le _ hm0 hi hm (fun hg => yd _ ⟨hm0, fun _ => rfl, fun _ => hm2, hg⟩) fun hg => nd _ fun z => hg z.2.2.2⟩
              · exact .inl ⟨hp2, le _ hm0 hi hm (fun hg => yd _ ⟨hm0, fun _ => rfl, fun z => absurd z hp2, hg⟩) fun hg => nd _ fun z => hg z.2.2.2⟩
            | true => exact .inr ⟨by decide, nd _ fun z => nomatch z.2.1 hi0⟩
          · refine .inl ⟨hi0, ?_⟩
            by_cases hp2 : parts.length = 2
            · refine .inr ⟨hp2, ?_⟩
              by_cases hm2 : m = 1
              · exact .inr ⟨m1.mpr hm2, nd _ fun z => z.2.2.1 hp2 hm2⟩
              · exact .inl ⟨fun z => hm2 (m1.mp z), le _ hm0 hi hm (fun hg => yd _ ⟨hm0, fun z => absurd z hi0, fun _ => hm2, hg⟩) fun hg => nd _ fun z => hg z.2.2.2⟩
            · exact .inl ⟨hp2, le _ hm0 hi hm (fun hg => yd _ ⟨hm0, fun z => absurd z hi0, fun z => absurd z hp2, hg⟩) fun hg => nd _ fun z => hg z.2.2.2⟩
        · have h0 : (m : Int) < 1 := by omega
          simp [hm0, h0, fracD]
    · cases bot <;> simp [intO, castO, lfr, fracD, hp, f2, h2]
def hd4 : CSs → CSs → CSs
  | .cons a (.cons b (.cons c (.cons d _))), r => .cons a (.cons b (.cons c (.cons d r)))
  | x, _ => x
theorem neg_take {t : Tx} : (t.take 1 = [45]) ↔ t.head? = some 45 := by
  cases t with
  | nil => simp
  | cons c r => simp
def botOk (ts : List Tx) (bot : Option Nat) : Prop := match ts with
  | [b] => b.length ≤ 300 ∧ bot = numO b
  | _ => bot = some 1
theorem botOk_lt {ts : List Tx} {bot : Option Nat} (h : botOk ts bot) : ∀ n, bot = some n → n < 2 ^ 1000 := by
  have o : (1 : Nat) < 2 ^ 1000 := Nat.lt_of_lt_of_le (by decide : 1 < 2 ^ 40) (pow_le' (by decide))
  intro n e
  unfold botOk at h
  split at h
  · exact numO_lt (h.2 ▸ e) h.1
  · rw [h] at e; cases e; exact o
/-- the law's reading, by its parts -/
theorem w_lparts {t : Tx} {r : Option (Int × Int)} {a : Tx} {ts : List Tx} {bot : Option Nat} (hl : t.length ≤ 300) (hs : splT [47] 0 [] t = a :: ts) (ha : a.length ≤ 300) (hts : ts.length ≤ 300) (hb : botOk ts bot)
    (hr : lfr (ts.length + 1) (decide (t.head? = some 45)) (numO (if t.head? = some 45 then a.drop 1 else a)) bot = r) : (glo Pg (k + 3)).fn i_l_fraction_in [.str t] s = .ok (fracD r) s := by
  refine ok_of (W_fn (d := d_l_fraction_in) rfl rfl rfl ?_)
  have lq : line = 16000000 := rfl
  have b0 : b2i false = 0 := rfl
  have b1 : b2i true = 1 := rfl
  have h2 : t.length ≤ line := by omega
  have hs2 := meM_splt (z := t) (c := 47) (s := s) (by decide) (by omega)
  rw [hs] at hs2
  obtain ⟨R, hR⟩ : ∃ R, R = tl4 b_l_fraction_in := ⟨_, rfl⟩
  have hbody : d_l_fraction_in.body = hd4 b_l_fraction_in R := by rw [hR]; rfl
  rw [hbody]
  simp only [hd4, b_l_fraction_in, env0, d_l_fraction_in]
  have fin : ∀ (x : Option D), WS (evSs (glo Pg (k + 2)) R [some (.str t), some (.lst ((a :: ts).map .str)), some (.int (sgI (decide (t.head? = some 45)))), some (intO (castO (numO (if t.head? = some 45 then a.drop 1 else a)))), some (intO (castO bot))] s) ⟨fun _ _ => False, fun x s' => s'.length = s.length ∧ x = fracD r ∧ s' = s, fun _ _ => False, fun _ _ => False⟩ := fun _ => by
    rw [hR]
    refine w_rest (by simpa using hr) (by simp; omega) (fun n h => numO_lt h ?_) (botOk_lt hb)
    split
    · simp; omega
    · exact ha
  have tk1 : t.take (min 1 t.length) = t.take 1 := by cases t <;> simp
  have dk1 : (a.drop (min 1 a.length)).take (a.length - min 1 a.length) = a.drop 1 := by cases a <;> simp
  have la : a.length ≤ line := by omega
  have go : ∀ (sg : Bool) (u : Tx) {P : Ps}, (∀ d s', P.rt d s' ↔ (s'.length = s.length ∧ d = fracD r ∧ s' = s)) → WS (evSs (glo Pg (k + 2)) R [some (.str t), some (.lst ((a :: ts).map .str)), some (.int (sgI sg)), some (intO (castO (numO u))), some (intO (castO bot))] s) ⟨fun _ _ => False, fun x s' => s'.length = s.length ∧ x = fracD r ∧ s' = s, fun _ _ => False, fun _ _ => False⟩ →
      (¬ (ts.length : Int) + 1 = 2 ∧ WS (evSs (glo Pg (k + 2)) R [some (.str t), some (.lst (D.str a :: ts.map .str)), some (.int (sgI sg)), some (intO (castO (numO u))), some (.int 1)] s) P) ∨
      ((ts.length : Int) + 1 = 2 ∧ W (M.opt (atI (D.str a :: ts.map .str) 1) s) (fun x1 s2 => W ((glo Pg (k + 2)).fn 259 [x1] s2) (fun x2 s3 => WS (evSs (glo Pg (k + 2)) R [some (.str t), some (.lst (D.str a :: ts.map .str)), some (.int (sgI sg)), some (intO (castO (numO u))), some x2] s3) P) fun _ _ => False) fun _ _ => False) := by
    intro sg u P hP h
    have h' := WS.mono h (P' := P) (fun _ _ z => z.elim) (fun d s' z => (hP d s').mpr z) (fun _ _ z => z.elim) (fun _ _ z => z.elim)
    match ts, hb, h' with
    | [], hb, h' => exact .inl ⟨by decide, by rw [show bot = some 1 from hb] at h'; exact h'⟩
    | [b], hb, h' =>
      obtain ⟨hb1, hb2⟩ : b.length ≤ 300 ∧ bot = numO b := hb
      have e3 := c_l_number_in (k := k + 1) (s := s) hb1
      rw [numD_eq, ← hb2] at e3
      refine .inr ⟨rfl, ?_⟩
      simp
      show W ((glo Pg (k + 1 + 1)).fn i_l_number_in [.str b] s) _ _
      rw [e3]
      exact h'
    | _ :: _ :: w, hb, h' => exact .inl ⟨by simp only [List.length_cons]; omega, by rw [show bot = some 1 from hb] at h'; exact h'⟩
  by_cases h45 : t.head? = some 45
  · have ht : t.take 1 = [45] := neg_take.mpr h45
    have e1 := c_l_number_in (k := k + 1) (s := s) (t := a.drop 1) (by simp; omega)
    rw [if_pos h45, decide_eq_true h45] at fin
    rw [numD_eq] at e1
    simp [hs2, bindT_v, intD, sliceD, cutL, sIx, b0, b1, h2, tk1, ht, dk1, la, -List.drop_one]
    rw [e1]
    exact go true _ (fun _ _ => Iff.rfl) (fin none)
  · have ht : ¬ t.take 1 = [45] := fun z => h45 (neg_take.mp z)
    have e1 := c_l_number_in (k := k + 1) (s := s) (t := a) ha
    rw [if_neg h45, decide_eq_false h45] at fin
    rw [numD_eq] at e1
    simp [hs2, bindT_v, intD, sliceD, cutL, sIx, b0, b1, h2, tk1, ht, la]
    rw [e1]
    exact go false _ (fun _ _ => Iff.rfl) (fin none)
end
end PZ
end
section
/-! Ne: both readings of fractions are one. -/
set_option linter.all false
set_option maxRecDepth 100000
set_option Elab.async false
namespace PZ
theorem splC_len {c : Nat} : ∀ (t acc : Tx), (splT [c] 0 acc t).length ≤ t.length + 1
  | [], acc => by simp [splT]
  | x :: r, acc => by
    rw [splT]
    split
    · have := splC_len (c := c) r []
      simp; exact this
    · have := splC_len (c := c) r (acc ++ [x])
      simp; omega
theorem wholeO_eq {t : Tx} : wholeO t = if t.head? = some 45 then (match numO (t.drop 1) with
    | some (n + 1) => some (-((n + 1 : Nat) : Int))
    | _ => none) else castO (numO t) := by
  cases t with
  | nil => rfl
  | cons c r =>
    by_cases h : c = 45
    · subst h; rfl
    · have : ¬ (c :: r).head? = some 45 := by simpa using h
      rw [if_neg this]
      unfold wholeO
      split
      · rename_i q; cases q; exact absurd rfl h
      · rfl
theorem lfr_eq {n : Nat} {sg : Bool} {i m : Nat} : lfr n sg (some i) (some m) = if n ≤ 2 ∧ 1 ≤ m ∧ ¬ (i = 0 ∧ sg = true) ∧ ¬ (n = 2 ∧ m = 1) ∧ Nat.gcd i m = 1 then some ((if sg then -(i : Int) else i), (m : Int)) else none := rfl
theorem lfr_one {n : Nat} {sg : Bool} {i : Nat} (h : n = 1) : lfr n sg (some i) (some 1) = if i = 0 ∧ sg = true then none else some ((if sg then -(i : Int) else i), 1) := by
  subst h
  rw [lfr_eq]
  by_cases h1 : i = 0 ∧ sg = true
  · rw [if_pos h1, if_neg (fun z => z.2.2.1 h1)]
  · rw [if_neg h1, if_pos ⟨by decide, by decide, h1, by decide, Nat.gcd_one_right _⟩]
    rfl
section
variable {k : Nat} {s : Sto}
theorem c_l_fraction_in {t : Tx} (hl : t.length ≤ 300) : (glo Pg (k + 3)).fn i_l_fraction_in [.str t] s = .ok (fracD (fracO t)) s := by
  have hs := splT_eq (c := 47) t []
  cases hc : cutO 47 t with
  | none =>
    rw [hc] at hs
    have hf : fracO t = (wholeO t).map fun i => (i, 1) := by unfold fracO; rw [hc] <;> rfl
    refine w_lparts (a := t) (ts := []) (bot := some 1) hl (by simpa using hs) hl (by decide) rfl ?_
    rw [hf, wholeO_eq]
    by_cases h45 : t.head? = some 45
    · rw [if_pos h45, if_pos h45]
      cases numO (t.drop 1) with
      | none => rfl
      | some n =>
        show lfr 1 _ _ _ = _
        rw [lfr_one rfl]
        cases n with
        | zero => simp [h45]
        | succ n => simp [h45]
    · rw [if_neg h45, if_neg h45]
      cases numO t with
      | none => rfl
      | some n =>
        show lfr 1 _ _ _ = _
        rw [lfr_one rfl]
        simp [h45, castO]
  | some p =>
    obtain ⟨a, b⟩ := p
    rw [hc] at hs
    have hlen := cutO_len hc
    have happ := cutO_app hc
    simp only at hlen happ
    have hh : (t.head? = some 45) ↔ (a.head? = some 45) := by
      rw [happ]
      cases a with
      | nil => simp
      | cons x r => simp
    have hf : fracO t = match wholeO a, numO b with
        | some i, some m => if 2 ≤ m ∧ Nat.gcd i.natAbs m = 1 then some (i, (m : Int)) else none
        | _, _ => none := by unfold fracO; rw [hc] <;> rfl
    have hsb := splT_eq (c := 47) b []
    cases hcb : cutO 47 b with
    | none =>
      rw [hcb] at hsb
      refine w_lparts (a := a) (ts := [b]) (bot := numO b) hl (by simp only [List.nil_append] at hs hsb; rw [hs, hsb]) (by omega) (by simp) ⟨by omega, rfl⟩ ?_
      rw [hf, wholeO_eq]
      simp only [hh]
      cases hn : numO b with
      | none =>
        by_cases h45 : a.head? = some 45
        · rw [if_pos h45, if_pos h45]
          cases numO (a.drop 1) with
          | none => rfl
          | some n => cases n <;> rfl
        · rw [if_neg h45, if_neg h45]
          cases numO a <;> rfl
      | some m =>
        by_cases h45 : a.head? = some 45
        · rw [if_pos h45, if_pos h45, decide_eq_true h45]
          cases numO (a.drop 1) with
          | none => rfl
          | some n =>
            cases n with
            | zero => simp [lfr]
            | succ n =>
              show lfr 2 _ _ _ = (if 2 ≤ m ∧ Nat.gcd (-((n + 1 : Nat) : Int)).natAbs m = 1 then some (-((n + 1 : Nat) : Int), (m : Int)) else none)
              have hiff : (2 ≤ m ∧ Nat.gcd (-((n + 1 : Nat) : Int)).natAbs m = 1) ↔ (2 ≤ m ∧ Nat.gcd (n + 1) m = 1) := by rw [gcd_neg]
              rw [lfr_eq]
              by_cases hc1 : 2 ≤ m ∧ Nat.gcd (n + 1) m = 1
              · rw [if_pos (hiff.mpr hc1), if_pos ⟨by decide, by omega, by simp, by omega, hc1.2⟩]
                rfl
              · rw [if_neg (fun z => hc1 (hiff.mp z)), if_neg (fun z => hc1 ⟨by have := z.2.1; have := z.2.2.2.1; simp at this; omega, z.2.2.2.2⟩)]
        · rw [if_neg h45, if_neg h45, decide_eq_false h45]
          cases numO a with
          | none => rfl
          | some n =>
            show lfr 2 _ _ _ = (if 2 ≤ m ∧ Nat.gcd n m = 1 then some ((n : Int), (m : Int)) else none)
            rw [lfr_eq]
            by_cases hc1 : 2 ≤ m ∧ Nat.gcd n m = 1
            · rw [if_pos hc1, if_pos ⟨by decide, by omega, by simp, by omega, hc1.2⟩]
              rfl
            · rw [if_neg hc1, if_neg (fun z => hc1 ⟨by have := z.2.1; have := z.2.2.2.1; simp at this; omega, z.2.2.2.2⟩)]
    | some q =>
      rw [hcb] at hsb
      have hq := splC_len (c := 47) q.2 []
      have hql := cutO_len hcb
      have hnb := numO_bar hcb
      have hfn : fracO t = none := by
        rw [hf, hnb]
        cases wholeO a <;> rfl
      refine w_lparts (a := a) (ts := q.1 :: splT [47] 0 [] q.2) (bot := some 1) hl (by simp only [List.nil_append] at hs hsb; rw [hs, hsb]) (by omega) (by simp; omega) ?_ ?_
      · have : splT [47] 0 [] q.2 ≠ [] := by rw [splT_eq]; cases cutO 47 q.2 <;> simp
        cases h : splT [47] 0 [] q.2 with
        | nil => exact absurd h this
        | cons x r => rfl
      · rw [hfn]
        have : splT [47] 0 [] q.2 ≠ [] := by rw [splT_eq]; cases cutO 47 q.2 <;> simp
        have h1 : 1 ≤ (splT [47] 0 [] q.2).length := List.length_pos_iff.mpr this
        cases numO (if t.head? = some 45 then a.drop 1 else a) with
        | none => rfl
        | some i =>
          rw [lfr_eq, if_neg (fun z => by have := z.1; simp only [List.length_cons] at this; omega)]
end
end PZ
end
section
/-! Nf: things and forms read. -/
set_option linter.all false
set_option maxRecDepth 100000
set_option Elab.async false
namespace PZ
/-- a thing of a kind, as it is written -/
def thingD (c : Nat) (w : Tx) : D :=
  if c = 102 then fracD (fracO w) else if c = 110 then numD w else if c = 99 then (if w = [45] then .str [] else if w ≠ [] ∧ codeT w = true then .str w else .non) else (if wordT w = true then .str w else .non)
def kindT : Tx := [102, 110, 99, 119]
section
variable {k : Nat} {s : Sto}
theorem c_is_code2 {d : D} (h : d.pure = true) (hl : d.fine = true) : (glo Pg (k + 1)).fn i_is_code'2 [d] s = .ok (.bl (codeB d)) s := by
  refine ok_of (W_fn (d := d_is_code'2) rfl rfl rfl ?_)
  simp only [d_is_code'2, b_is_code'2, env0]
  cases d with
  | str t =>
    have ht : t.length ≤ line := of_decide_eq_true hl
    by_cases h9 : t.length ≤ 9
    · have f9 : (t.length : Int) ≤ 9 := by omega
      simp [isStrD, ht, f9]
      refine ⟨_, rfl, comp_signs (by simp) ht ⟨_, blsOf_map, ?_⟩⟩
      simp [codeB, codeT, h9, List.all_map, figT, Function.comp_def]
    · have f9 : ¬ (t.length : Int) ≤ 9 := by omega
      simp [isStrD, ht, f9, codeB, codeT, h9]
  | _ => simp [isStrD, codeB, h]
theorem c_thing_in {c : Nat} {w : Tx} (hc : c ∈ kindT) (hl : w.length ≤ 300) : (glo Pg (k + 4)).fn i_thing_in [.str [c], .str w] s = .ok (thingD c w) s := by
  refine ok_of (W_fn (d := d_thing_in) rfl rfl rfl ?_)
  have lq : line = 16000000 := rfl
  have e1 := c_fraction_in (k := k) (s := s) hl
  have e2 := c_number_in (k := k + 2) (s := s) hl
  have e3 := c_is_word (k := k + 2) (s := s) (d := .str w) rfl (decide_eq_true (by omega))
  have e4 := fun (d : D) (h : d.pure = true) (h2 : d.fine = true) => c_is_code2 (k := k + 2) (s := s) h h2
  have hp : ∀ w : Tx, w.length ≤ 300 → (D.str w).fine = true := fun w h => decide_eq_true (by omega)
  simp only [kindT, List.mem_cons, List.not_mem_nil, or_false] at hc
  rcases hc with rfl | rfl | rfl | rfl
  · simp [d_thing_in, b_thing_in, env0, e1, thingD]
  · simp [d_thing_in, b_thing_in, env0, e2, thingD]
  · by_cases h45 : w = [45]
    · subst h45
      have e := e4 (.str []) rfl rfl
      simp [d_thing_in, b_thing_in, env0, thingD, bindT_v, e, codeB, codeT]
    · have e := e4 (.str w) rfl (hp w hl)
      by_cases h0 : w = []
      · subst h0
        simp [d_thing_in, b_thing_in, env0, thingD, bindT_v, e, codeB]
      · by_cases hw : codeT w = true
        · simp [d_thing_in, b_thing_in, env0, thingD, bindT_v, e, codeB, h45, h0, hw]
        · simp [d_thing_in, b_thing_in, env0, thingD, bindT_v, e, codeB, h45, h0, hw]
  · by_cases hw : wordT w = true
    · simp [d_thing_in, b_thing_in, env0, thingD, e3, wordB, hw]
    · simp [d_thing_in, b_thing_in, env0, thingD, e3, wordB, hw]
theorem filt_all {t z : Tx} : (t.filter fun c => !decide (c ∈ z)) = [] ↔ (t.all fun c => decide (c ∈ z)) = true := by
  rw [List.filter_eq_nil_iff, List.all_eq_true]
  constructor
  · intro h c hc
    have := h c hc
    simpa using this
  · intro h c hc
    have := h c hc
    simpa using this
theorem signs_eq {u : Tx} : D.pures (u.map fun c => D.str [c]) = true ∧ D.deps (u.map fun c => D.str [c]) = 0 ∧ eqDs (u.map fun c => D.str [c]) [] = decide (u = []) := by
  refine ⟨?_, dep_one fun d hd => ?_, by cases u <;> rfl⟩
  · induction u with
    | nil => rfl
    | cons c u ih => exact ih
  · obtain ⟨c, _, rfl⟩ := List.mem_map.mp hd
    rfl
theorem c_l_is_small {w : Tx} (hl : w.length ≤ 300) : (glo Pg (k + 1)).fn i_l_is_small [.str w] s = .ok (.bl (wordT w)) s := by
  refine ok_of (W_fn (d := d_l_is_small) rfl rfl rfl ?_)
  have lq : line = 16000000 := rfl
  have hw : w.length ≤ line := by omega
  simp only [d_l_is_small, b_l_is_small, env0]
  by_cases h1 : 1 ≤ w.length
  · have f1 : (1 : Int) ≤ (w.length : Int) := by omega
    by_cases h8 : w.length ≤ 8
    · have f8 : (w.length : Int) ≤ 8 := by omega
      simp [hw, f1, f8, seqOf]
      refine comp_filt (by simp) (by omega) ?_
      obtain ⟨p, q, r⟩ := signs_eq (u := w.filter fun c => !decide (c ∈ [97, 98, 99, 100, 101, 102, 103, 104, 105, 106, 107, 108, 109, 110, 111, 112, 113, 114, 115, 116, 117, 118, 119, 120, 121, 122]))
      refine ⟨⟨p, by rw [q]; decide⟩, rfl, ?_, rfl⟩
      rw [r]
      have := filt_all (t := w) (z := smallT)
      unfold wordT
      rw [decide_eq_true h1, decide_eq_true h8, Bool.true_and, Bool.true_and]
      congr 1
      rw [Bool.eq_iff_iff, decide_eq_true_iff]
      exact this
    · have f8 : ¬ (w.length : Int) ≤ 8 := by omega
      simp [hw, f1, f8, wordT, h8]
  · have f1 : ¬ (1 : Int) ≤ (w.length : Int) := by omega
    simp [hw, f1, wordT, h1]
theorem c_l_thing_in {c : Nat} {w : Tx} (hc : c ∈ kindT) (hl : w.length ≤ 300) : (glo Pg (k + 4)).fn i_l_thing_in [.str [c], .str w] s = .ok (thingD c w) s := by
  refine ok_of (W_fn (d := d_l_thing_in) rfl rfl rfl ?_)
  have lq : line = 16000000 := rfl
  have hw : w.length ≤ line := by omega
  have e1 := c_l_fraction_in (k := k) (s := s) hl
  have e2 := c_l_number_in (k := k + 2) (s := s) hl
  have e3 := c_l_is_small (k := k + 2) (s := s) hl
  simp only [kindT, List.mem_cons, List.not_mem_nil, or_false] at hc
  rcases hc with rfl | rfl | rfl | rfl
  · simp [d_l_thing_in, b_l_thing_in, env0, e1, thingD]
  · simp [d_l_thing_in, b_l_thing_in, env0, e2, thingD]
  · by_cases h45 : w = [45]
    · subst h45
      simp [d_l_thing_in, b_l_thing_in, env0, thingD]
    · by_cases h1 : 1 ≤ w.length
      · have f1 : (1 : Int) ≤ (w.length : Int) := by omega
        have h0 : ¬ w = [] := by intro z; subst z; simp at h1
        by_cases h9 : w.length ≤ 9
        · have f9 : (w.length : Int) ≤ 9 := by omega
          simp [d_l_thing_in, b_l_thing_in, env0, thingD, h45, hw, f1, f9, seqOf]
          refine comp_filt (by simp) (by omega) ?_
          obtain ⟨p, q, r⟩ := signs_eq (u := w.filter fun c => !decide (c ∈ [48, 49, 50, 51]))
          refine ⟨⟨p, by rw [q]; decide⟩, ?_⟩
          rw [r]
          have hfa := filt_all (t := w) (z := figT)
          have hcod : codeT w = (w.all fun c => decide (c ∈ figT)) := by unfold codeT; rw [decide_eq_true h9, Bool.true_and]
          by_cases hall : (w.all fun c => decide (c ∈ figT)) = true
          · have hz : (w.filter fun c => !decide (c ∈ [48, 49, 50, 51])) = [] := hfa.mpr hall
            rw [hz]
            simp [hcod, hall, h0]
          · have hz : ¬ (w.filter fun c => !decide (c ∈ [48, 49, 50, 51])) = [] := fun z => hall (hfa.mp z)
            rw [decide_eq_false hz]
            have : ¬ codeT w = true := by rw [hcod]; exact hall
            simp [this]
        · have f9 : ¬ (w.length : Int) ≤ 9 := by omega
          have : codeT w = false := by unfold codeT; rw [decide_eq_false h9]; rfl
          simp [d_l_thing_in, b_l_thing_in, env0, thingD, h45, hw, f1, f9, this]
      · have f1 : ¬ (1 : Int) ≤ (w.length : Int) := by omega
        have h0 : w = [] := List.length_eq_zero_iff.mp (by omega)
        simp [d_l_thing_in, b_l_thing_in, env0, thingD, h45, hw, f1, h0]
  · by_cases hw2 : wordT w = true
    · simp [d_l_thing_in, b_l_thing_in, env0, thingD, e3, hw2]
    · simp [d_l_thing_in, b_l_thing_in, env0, thingD, e3, hw2]
end
end PZ
end
section
/-! Ng: forms read. -/
set_option linter.all false
set_option maxRecDepth 100000
set_option Elab.async false
namespace PZ
section
variable {G : Glo} {ρ : Env} {s : Sto} {E : Nat → Sto → Prop} {Q : D → Sto → Prop} {a b : CE}
@[simp] theorem W_ggetD {n : Nat} : W (ev G (.ggetD n a b) ρ s) Q E ↔ W (ev G a ρ s) (fun x s => W (ev G b ρ s) (fun y s => W (M.opt ((txD x).map fun t => ((G.dct n).lookup t).getD y) s) Q E) E) E := by
  show W ((ev G a ρ s).bind fun x => (ev G b ρ).bind fun y => M.opt ((txD x).map fun t => ((G.dct n).lookup t).getD y)) Q E ↔ _
  simp only [W_bind, W_mbind]
theorem bindT_hd {i j : Nat} {x : D} {xs : List D} (hi : i < ρ.length) (hj : j < ρ.length) : bindT (.hd i j) (.lst (x :: xs)) ρ = some ((ρ.set i (some x)).set j (some (.lst xs))) := by
  show (if i < ρ.length ∧ j < ρ.length then _ else _) = _
  rw [if_pos ⟨hi, hj⟩]
end
theorem kinds_of {w ks : Tx} (h : shapesT.lookup w = some ks) : ks ≠ [] ∧ ∀ c ∈ ks, c ∈ kindT := by
  unfold shapesT at h
  simp only [List.lookup_cons, List.lookup_nil] at h
  repeat' split at h
  all_goals (cases h; try exact ⟨by decide, by decide⟩)
theorem splC_mem {c : Nat} : ∀ (t acc : Tx), ∀ u ∈ splT [c] 0 acc t, u.length ≤ acc.length + t.length
  | [], acc, u, h => by simp [splT] at h; subst h; simp
  | x :: r, acc, u, h => by
    rw [splT] at h
    split at h
    · rcases List.mem_cons.mp h with e | e
      · subst e; omega
      · have := splC_mem (c := c) r [] u e
        simp at this ⊢; omega
    · have := splC_mem (c := c) r (acc ++ [x]) u h
      simp at this ⊢; omega
def gTh : D → D
  | .tup [.str [c], .str w] => thingD c w
  | _ => .non
def things (ks : Tx) (ws : List Tx) : List D := (zip2L (ks.map fun c => .str [c]) (ws.map .str)).map gTh
theorem zip_mem2 : ∀ {ks : Tx} {ws : List Tx} {t : D}, t ∈ zip2L (ks.map fun c => .str [c]) (ws.map .str) → ∃ c u, t = .tup [.str [c], .str u] ∧ c ∈ ks ∧ u ∈ ws
  | [], ws, t, h => by cases ws <;> cases h
  | c :: ks, [], t, h => by cases h
  | c :: ks, u :: ws, t, h => by
    rcases List.mem_cons.mp h with e | e
    · exact ⟨c, u, e, List.mem_cons_self, List.mem_cons_self⟩
    · obtain ⟨c', u', e1, e2, e3⟩ := zip_mem2 e
      exact ⟨c', u', e1, List.mem_cons_of_mem _ e2, List.mem_cons_of_mem _ e3⟩
theorem things_len (ks : Tx) (ws : List Tx) : (things ks ws).length ≤ ks.length := by
  unfold things
  rw [List.length_map]
  exact zip_len ks (ws.map .str)
theorem fracD_ok (o : Option (Int × Int)) : (fracD o).pure = true ∧ (fracD o).dep ≤ 1 := by
  cases o
  · exact ⟨rfl, Nat.zero_le _⟩
  · exact ⟨rfl, Nat.le_refl _⟩
theorem thingD_ok (c : Nat) (w : Tx) : (thingD c w).pure = true ∧ (thingD c w).dep ≤ 1 := by
  unfold thingD numD
  repeat' split
  all_goals first
    | exact fracD_ok _
    | exact ⟨rfl, Nat.zero_le _⟩
theorem things_ok : ∀ (ks : Tx) (ws : List Tx), D.pures (things ks ws) = true ∧ D.deps (things ks ws) ≤ 1
  | [], ws => by cases ws <;> exact ⟨rfl, Nat.zero_le _⟩
  | c :: ks, [] => ⟨rfl, Nat.zero_le _⟩
  | c :: ks, w :: ws => by
    obtain ⟨a, b⟩ := things_ok ks ws
    obtain ⟨p, q⟩ := thingD_ok c w
    show (_ && _) = true ∧ max _ _ ≤ 1
    refine ⟨by rw [show (gTh (.tup [.str [c], .str w])).pure = true from p]; exact a, ?_⟩
    exact Nat.max_le.mpr ⟨q, b⟩
/-- a form, as it is written -/
def formD (t : Tx) : D := match splT [32] 0 [] t with
  | w :: ws => match shapesT.lookup w with
    | some ks => if ws.length = ks.length ∧ (things ks ws).all (fun d => !eqD d .non) = true then .tup (.str w :: things ks ws) else .non
    | none => .non
  | [] => .non
section
variable {k : Nat} {s : Sto}
theorem c_form_in {t : Tx} (hl : t.length ≤ 300) : (glo Pg (k + 5)).fn i_form_in [.str t] s = .ok (formD t) s := by
  refine ok_of (W_fn (d := d_form_in) rfl rfl rfl ?_)
  have lq : line = 16000000 := rfl
  have hs := meM_splt (z := t) (c := 32) (s := s) (by decide) (by omega)
  simp only [d_form_in, b_form_in, env0]
  cases hp : splT [32] 0 [] t with
  | nil => exact absurd hp (by rw [splT_eq]; cases cutO 32 t <;> simp)
  | cons w ws =>
    rw [hp] at hs
    have hf : formD t = match shapesT.lookup w with
      | some ks => if ws.length = ks.length ∧ (things ks ws).all (fun d => !eqD d .non) = true then .tup (.str w :: things ks ws) else .non
      | none => .non := by unfold formD; rw [hp] <;> rfl
    have bh : ∀ (x : D) (xs : List D), bindT (.hd 3 4) (.lst (x :: xs)) [some (.str t), none, none, none, none, none, none] = some [some (.str t), none, none, some x, some (.lst xs), none, none] := fun _ _ => rfl
    cases hk : shapesT.lookup w with
    | none =>
      rw [hk] at hf
      simp [hs, bh, bindT_v, dct1, txD, hk, hf, -List.lookup_isSome_iff, -List.lookup_eq_none_iff]
    | some ks =>
      rw [hk] at hf
      replace hf : formD t = if ws.length = ks.length ∧ (things ks ws).all (fun d => !eqD d .non) = true then .tup (.str w :: things ks ws) else .non := hf
      obtain ⟨hk0, hkk⟩ := kinds_of hk
      have hwl : ws.length ≤ 300 := by
        have := splC_len (c := 32) t []
        rw [hp] at this
        simp at this
        omega
      have hwm : ∀ u ∈ ws, u.length ≤ 300 := fun u hu => by
        have := splC_mem t [] u (by rw [hp]; exact List.mem_cons_of_mem _ hu)
        simp at this
        omega
      have kl := kinds_len hk
      by_cases hlen : ws.length = ks.length
      · have l1 : ks.length ≤ line := by omega
        simp [hs, bh, bindT_v, dct1, txD, hk, hk0, hlen, l1, -List.lookup_isSome_iff, -List.lookup_eq_none_iff, seqsOf, seqOf, zipL]
        refine comp_all (g := gTh) rfl ?_ (fun x hx => ?_) ?_
        · have := zip_len ks (ws.map .str)
          omega
        · obtain ⟨c, u, rfl, hc, hu⟩ := zip_mem2 hx
          have e := c_thing_in (k := k) (s := s) (hkk c hc) (hwm u hu)
          rw [W_cF (ρ' := [some (.str t), some (.str ks), none, some (.str w), some (.lst (ws.map .str)), some (.str [c]), some (.str u)]) rfl]
          simp [e, gTh]
        · have hln := things_len ks ws
          obtain ⟨t1, t2⟩ := things_ok ks ws
          have hin : inD .non (.lst (things ks ws)) = some ((things ks ws).any fun z => eqD z .non) := by
            show (if shallow .non (.lst (things ks ws)) then _ else _) = _
            rw [if_pos]
            rw [shallow_iff]
            exact ⟨⟨rfl, t1⟩, by decide, by simp; omega⟩
          show (inD .non (.lst (things ks ws)) = some false ∧ 1 + (things ks ws).length ≤ line ∧ s.length = s.length ∧ D.tup (D.str w :: things ks ws) = formD t ∧ s = s) ∨ (inD .non (.lst (things ks ws)) = some true ∧ s.length = s.length ∧ .non = formD t ∧ s = s)
          rw [hin, hf]
          by_cases ha : ((things ks ws).any fun z => eqD z .non) = true
          · refine .inr ⟨by rw [ha], rfl, ?_, rfl⟩
            rw [if_neg]
            intro z
            have z2 := List.all_eq_true.mp z.2
            obtain ⟨d, h1, h2⟩ := List.any_eq_true.mp ha
            have := z2 d h1
            rw [h2] at this
            cases this
          · have hb : ((things ks ws).any fun z => eqD z .non) = false := by simpa using ha
            refine .inl ⟨by rw [hb], by omega, rfl, ?_, rfl⟩
            have hall : (things ks ws).all (fun d => !eqD d .non) = true := by
              rw [List.all_eq_true]
              intro d hd
              have := List.any_eq_false.mp hb d hd
              simpa using this
            rw [if_pos ⟨hlen, hall⟩]
      · have hne : ¬ (ws.length : Int) = (ks.length : Int) := by omega
        rw [if_neg (fun z => hlen z.1)] at hf
        have l1 : ks.length ≤ line := by omega
        simp [hs, bh, bindT_v, dct1, txD, hk, hk0, hne, hf, l1, -List.lookup_isSome_iff, -List.lookup_eq_none_iff]
end
end PZ
end
section
/-! Nh: the law's own reading of forms. -/
set_option linter.all false
set_option maxRecDepth 100000
set_option Elab.async false
namespace PZ
section
variable {k : Nat} {s : Sto}
def shpKv : List (D × D) := shapesT.map fun p => (.str p.1, .str p.2)
theorem ev_shapes {G : Glo} {ρ : Env} : ev G (.dict false (.cons (.c (.str [112, 111, 105, 110, 116])) (.cons (.c (.str [116, 105, 108, 101])) (.cons (.c (.str [115, 112, 111, 116])) (.cons (.c (.str [97, 100, 100, 114, 101, 115, 115])) (.cons (.c (.str [114, 101, 103, 105, 111, 110])) (.nil)))))) (.cons (.c (.str [119, 102, 102])) (.cons (.c (.str [99])) (.cons (.c (.str [110, 102])) (.cons (.c (.str [119, 110])) (.cons (.c (.str [119])) (.nil))))))) ρ s = .ok (.ref s.length) (s ++ [.dic false false shpKv]) := rfl
theorem kget_shapes (t : Tx) : kget shpKv (.str t) = (shapesT.lookup t).map .str := by
  have key : ∀ L : List (Tx × Tx), ((L.map fun p => (D.str p.1, D.str p.2)).find? fun kv => decide (kv.1 = .str t)).map (·.2) = (L.lookup t).map .str := by
    intro L
    induction L with
    | nil => rfl
    | cons p L ih =>
      rw [List.map_cons, List.find?_cons, List.lookup_cons]
      by_cases h : p.1 = t
      · have h1 : (t == p.1) = true := by simp [h]
        rw [h1]
        simp [h]
      · have h1 : (t == p.1) = false := by simp; exact fun z => h z.symm
        have h2 : decide (D.str p.1 = D.str t) = false := decide_eq_false fun z => h (by cases z; rfl)
        rw [h1]
        simp only [h2]
        exact ih
  exact key shapesT
mutual
theorem pure_upto {n : Nat} : ∀ d : D, d.pure = true → d.upto n = true
  | .tup l, h => pures_upto l h
  | .lst l, h => pures_upto l h
  | .kt l, h => pures_upto l h
  | .ref _, h => by cases h
  | .non, _ => rfl
  | .bl _, _ => rfl
  | .int _, _ => rfl
  | .str _, _ => rfl
  | .scr _, _ => rfl
  | .fn _, _ => rfl
  | .exv _, _ => rfl
theorem pures_upto {n : Nat} : ∀ l : List D, D.pures l = true → D.uptos n l = true
  | [], _ => rfl
  | x :: l, h => by
    have h' : x.pure = true ∧ D.pures l = true := Bool.and_eq_true_iff.mp h
    show (_ && _) = true
    rw [pure_upto x h'.1, pures_upto l h'.2]; rfl
end
theorem formD_pure (t : Tx) : (formD t).pure = true := by
  unfold formD
  repeat' split
  all_goals first
    | exact (things_ok _ _).1
    | rfl
end
end PZ
end
section
set_option linter.all false
set_option maxRecDepth 100000
set_option Elab.async false
namespace PZ
section
variable {k : Nat} {s : Sto}
theorem ty_get1d {n : Nat} {t : Bool} {kvs : List (D × D)} (h : s[n]? = some (.dic t false kvs)) : meTy .get1 (.ref n) s = .ok () s := by
  show (match s[n]? with | some (.dic _ false _) => R.ok () s | _ => R.bad) = _
  rw [h]
theorem meM_get1 {n : Nat} {kvs : List (D × D)} {w : Tx} (h : s[n]? = some (.dic false false kvs)) : meM .get1 (.ref n) [.str w] s = .ok ((kget kvs (.str w)).getD .non) s := by
  show (match s[n]? with
    | some (.dic t _ kvs) => if keyOk t (.str w) then R.ok ((kget kvs (.str w)).getD .non) s else .bad
    | _ => .bad) = _
  rw [h]
  rfl
/-- the store speaks of nothing beyond it -/
def Up (s : Sto) : Prop := s.all (MO.upto s.length) = true
theorem trunc_up {d : D} {x : MO} (h : Up s) (hd : d.upto s.length = true) : trunc s.length d (s ++ [x]) = .ok d s := by
  have e : (s ++ [x]).take s.length = s := by simp
  unfold trunc
  rw [if_neg (by simp), e, if_pos (show s.all (MO.upto s.length) = true from h), if_pos hd]
theorem c_l_form_in {t : Tx} (fl : Up s) (hl : t.length ≤ 300) : (glo Pg (k + 5)).fn i_l_form_in [.str t] s = .ok (formD t) s := by
  refine ok_of (W_fnT (d := d_l_form_in) rfl rfl rfl ?_)
  have lq : line = 16000000 := rfl
  have hs := meM_splt (z := t) (c := 32) (s := s) (by decide) (by omega)
  simp only [d_l_form_in, b_l_form_in, env0]
  cases hp : splT [32] 0 [] t with
  | nil => exact absurd hp (by rw [splT_eq]; cases cutO 32 t <;> simp)
  | cons w ws =>
    rw [hp] at hs
    have hf : formD t = match shapesT.lookup w with
      | some ks => if ws.length = ks.length ∧ (things ks ws).all (fun d => !eqD d .non) = true then .tup (.str w :: things ks ws) else .non
      | none => .non := by unfold formD; rw [hp] <;> rfl
    cases hk : shapesT.lookup w with
    | none =>
      rw [hk] at hf
      have e0 : (s ++ [MO.dic false false shpKv])[s.length]? = some (.dic false false shpKv) := by simp
      have e1 := ty_get1d e0
      have e2 := meM_get1 (w := w) e0
      rw [kget_shapes, hk] at e2
      simp [hs, bindT_v, ev_shapes, e1, e2, hf]
      rw [trunc_up fl rfl]
      exact ⟨rfl, rfl⟩
    | some ks =>
      rw [hk] at hf
      replace hf : formD t = if ws.length = ks.length ∧ (things ks ws).all (fun d => !eqD d .non) = true then .tup (.str w :: things ks ws) else .non := hf
      obtain ⟨hk0, hkk⟩ := kinds_of hk
      have hwl : ws.length ≤ 300 := by
        have := splC_len (c := 32) t []
        rw [hp] at this
        simp at this
        omega
      have hwm : ∀ u ∈ ws, u.length ≤ 300 := fun u hu => by
        have := splC_mem t [] u (by rw [hp]; exact List.mem_cons_of_mem _ hu)
        simp at this
        omega
      have kl := kinds_len hk
      have l1 : ks.length ≤ line := by omega
      have l2 : ws.length + 1 ≤ line := by omega
      have e0 : (s ++ [MO.dic false false shpKv])[s.length]? = some (.dic false false shpKv) := by simp
      have e1 := ty_get1d e0
      have e2 := meM_get1 (w := w) e0
      rw [kget_shapes, hk] at e2
      by_cases hlen : ws.length = ks.length
      · simp [hs, bindT_v, ev_shapes, e1, e2, l1, l2, hlen, intD, sliceD, cutL, sIx, seqsOf, seqOf, zipL]
        have tk : (ws.map D.str).take ks.length = ws.map D.str := List.take_of_length_le (by simp; omega)
        rw [tk]
        refine comp_all (g := gTh) rfl ?_ (fun x hx => ?_) ?_
        · have := zip_len ks (ws.map .str)
          omega
        · obtain ⟨c, u, rfl, hc, hu⟩ := zip_mem2 hx
          have e := c_l_thing_in (k := k) (s := s ++ [MO.dic false false shpKv]) (hkk c hc) (hwm u hu)
          rw [W_cF (ρ' := [some (.str t), some (.lst (.str w :: ws.map .str)), some (.str ks), none, some (.str [c]), some (.str u)]) rfl]
          simp [e, gTh]
        · have hln := things_len ks ws
          obtain ⟨t1, t2⟩ := things_ok ks ws
          have hin : inD .non (.lst (things ks ws)) = some ((things ks ws).any fun z => eqD z .non) := by
            show (if shallow .non (.lst (things ks ws)) then _ else _) = _
            rw [if_pos]
            rw [shallow_iff]
            exact ⟨⟨rfl, t1⟩, by decide, by simp; omega⟩
          show (inD .non (.lst (things ks ws)) = some false ∧ 1 + (things ks ws).length ≤ line ∧ W (trunc s.length (D.tup (D.str w :: things ks ws)) (s ++ [MO.dic false false shpKv])) (fun a s' => a = formD t ∧ s' = s) noE) ∨ (inD .non (.lst (things ks ws)) = some true ∧ W (trunc s.length D.non (s ++ [MO.dic false false shpKv])) (fun a s' => a = formD t ∧ s' = s) noE)
          rw [hin, hf, trunc_up (d := .non) fl rfl, trunc_up fl (pure_upto (.tup (.str w :: things ks ws)) t1)]
          by_cases ha : ((things ks ws).any fun z => eqD z .non) = true
          · refine .inr ⟨by rw [ha], ?_, rfl⟩
            rw [if_neg]
            intro z
            have z2 := List.all_eq_true.mp z.2
            obtain ⟨d, h1, h2⟩ := List.any_eq_true.mp ha
            have := z2 d h1
            rw [h2] at this
            cases this
          · have hb : ((things ks ws).any fun z => eqD z .non) = false := by simpa using ha
            have hall : (things ks ws).all (fun d => !eqD d .non) = true := by
              rw [List.all_eq_true]
              intro d hd
              have := List.any_eq_false.mp hb d hd
              simpa using this
            refine .inl ⟨by rw [hb], by omega, ?_, rfl⟩
            rw [if_pos ⟨hlen, hall⟩]
      · have hne : ¬ (ws.length : Int) = (ks.length : Int) := by omega
        rw [if_neg (fun z => hlen z.1)] at hf
        simp [hs, bindT_v, ev_shapes, e1, e2, l1, l2, hne, hf]
        rw [trunc_up fl rfl]
        exact ⟨rfl, rfl⟩
end
end PZ
end
section
/-! Nj: what is told of a text. -/
set_option linter.all false
set_option maxRecDepth 100000
set_option Elab.async false
namespace PZ
section
variable {k : Nat} {s s' : Sto} {ρ : Env}
theorem hot_text : (glo Pg (k + 2)).fn 242 [.exv 30] [] = .ok (.str [116, 101, 120, 116]) [] := by rfl
theorem said_ok {m : M D} {a : D} (h : m s = .ok a s') : (glo Pg (k + 1)).sd 243 m s = .ok (.lst [a]) s' := by
  rw [glo_sd (z := .lst 242 [0, 1, 2, 3, 4, 5, 6, 7, 8, 9, 10, 11, 12, 13, 14, 15, 16, 17, 18, 19, 20, 21, 22, 23, 24, 25, 26, 27, 28, 29, 30, 31]) rfl]
  show (match m s with
    | .ok a s' => R.ok (D.lst [a]) s'
    | .exc c s' => hotM (glo Pg k) 242 _ c s'
    | .bad => R.bad) = _
  rw [h]
/-- what a text, or what is none, is read as -/
def readD (f : Tx → D) : D → D
  | .str t => f t
  | _ => .non
def toldD (d : D) : D := if d = .non then .str [116, 101, 120, 116] else .lst [d]
end
end PZ
end
section
/-! Nk: what is told of texts. -/
set_option linter.all false
set_option maxRecDepth 100000
set_option Elab.async false
namespace PZ
section
variable {k : Nat} {s s' : Sto} {ρ : Env} {d : D} {E : Nat → Sto → Prop}
/-- a thing that is asked about: a short text, or none -/
def Ask (d : D) : Prop := d.pure = true ∧ ∀ t, d = .str t → t.length ≤ 300
def fracR (t : Tx) : D := fracD (fracO t)
theorem x_read_fraction (h : Ask d) : W ((glo Pg (k + 4)).fn i_read_fraction [d] s) (fun x s' => x ≠ .non ∧ x = readD fracR d ∧ s' = s) (fun c s' => readD fracR d = .non ∧ c = 30 ∧ s' = s) := by
  refine W_fn (d := d_read_fraction) rfl rfl rfl ?_
  simp only [d_read_fraction, b_read_fraction, env0]
  cases d with
  | str t =>
    have e := c_fraction_in (k := k) (s := s) (h.2 t rfl)
    simp [bindT_v, e, readD, fracR]
    cases fracO t <;> simp [fracD]
  | _ =>
    have hp := h.1
    first
      | (simp [bindT_v, readD]; done)
      | (simp at hp; simp [bindT_v, readD, hp]; done)
      | (cases hp; done)
theorem x_read_form (h : Ask d) : W ((glo Pg (k + 6)).fn i_read_form [d] s) (fun x s' => x ≠ .non ∧ x = readD formD d ∧ s' = s) (fun c s' => readD formD d = .non ∧ c = 30 ∧ s' = s) := by
  refine W_fn (d := d_read_form) rfl rfl rfl ?_
  simp only [d_read_form, b_read_form, env0]
  cases d with
  | str t =>
    have e := c_form_in (k := k) (s := s) (h.2 t rfl)
    simp [bindT_v, e, readD]
    by_cases hz : formD t = .non
    · simp [hz]
    · have hh := pure_here (formD_pure t)
      simp [hz, hh]
  | _ =>
    have hp := h.1
    first
      | (simp [bindT_v, readD]; done)
      | (simp at hp; simp [bindT_v, readD, hp]; done)
      | (cases hp; done)
theorem said_fraction (h : Ask d) {u : Nat} (hu : ρ[u]? = some (some d)) : (glo Pg (k + 4)).sd 243 (ev (glo Pg (k + 4)) (.call 257 (.cons (.v u) .nil)) ρ) s = .ok (toldD (readD fracR d)) s := by
  have e := ev_call1 (G := glo Pg (k + 4)) (s := s) (ρ := ρ) (f := 257) (u := u) hu
  have x := x_read_fraction (k := k) (s := s) h
  unfold toldD
  cases q : (glo Pg (k + 4)).fn 257 [d] s with
  | ok a s2 =>
    rw [show (glo Pg (k + 4)).fn i_read_fraction [d] s = _ from q] at x
    rw [q] at e
    obtain ⟨h1, h2, rfl⟩ := x
    rw [said_ok (k := k + 3) e, if_neg (by rw [← h2]; exact h1), h2]
  | exc c s2 =>
    rw [show (glo Pg (k + 4)).fn i_read_fraction [d] s = _ from q] at x
    rw [q] at e
    obtain ⟨h1, rfl, rfl⟩ := x
    rw [said_exc (k := k + 3) e (by decide) hot_text, if_pos h1]
  | bad =>
    rw [show (glo Pg (k + 4)).fn i_read_fraction [d] s = _ from q] at x
    exact x.elim
theorem said_form (h : Ask d) {u : Nat} (hu : ρ[u]? = some (some d)) : (glo Pg (k + 6)).sd 243 (ev (glo Pg (k + 6)) (.call 258 (.cons (.v u) .nil)) ρ) s = .ok (toldD (readD formD d)) s := by
  have e := ev_call1 (G := glo Pg (k + 6)) (s := s) (ρ := ρ) (f := 258) (u := u) hu
  have x := x_read_form (k := k) (s := s) h
  unfold toldD
  cases q : (glo Pg (k + 6)).fn 258 [d] s with
  | ok a s2 =>
    rw [show (glo Pg (k + 6)).fn i_read_form [d] s = _ from q] at x
    rw [q] at e
    obtain ⟨h1, h2, rfl⟩ := x
    rw [said_ok (k := k + 5) e, if_neg (by rw [← h2]; exact h1), h2]
  | exc c s2 =>
    rw [show (glo Pg (k + 6)).fn i_read_form [d] s = _ from q] at x
    rw [q] at e
    obtain ⟨h1, rfl, rfl⟩ := x
    rw [said_exc (k := k + 5) e (by decide) hot_text, if_pos h1]
  | bad =>
    rw [show (glo Pg (k + 6)).fn i_read_form [d] s = _ from q] at x
    exact x.elim
theorem c_l_due3 (hp : d.pure = true) : (glo Pg (k + 1)).fn i_l_due'3 [d] s = .ok (toldD d) s := by
  refine ok_of (W_fn (d := d_l_due'3) rfl rfl rfl ?_)
  have hh := pure_here hp
  by_cases h : d = .non
  · subst h
    simp [d_l_due'3, b_l_due'3, env0, toldD]
  · simp [d_l_due'3, b_l_due'3, env0, toldD, hh, h]
/-! ### what is told may be shown -/
theorem num_rok {n : Nat} (h : n < 2 ^ 1000) : (D.int (n : Int)).rok = true ∧ (D.int (n : Int)).rw ≤ 1002 := by
  have := log2_lt (b := 999) h
  refine ⟨decide_eq_true (by simp; omega), ?_⟩
  simp [D.rw]
  omega
theorem int_rok {i : Int} (h : i.natAbs < 2 ^ 1000) : (D.int i).rok = true ∧ (D.int i).rw ≤ 1002 := by
  have := log2_lt (b := 999) h
  refine ⟨decide_eq_true (by omega), ?_⟩
  simp [D.rw]
  omega
theorem fracO_lt {t : Tx} {p : Int × Int} (h : fracO t = some p) (hl : t.length ≤ 300) : p.1.natAbs < 2 ^ 1000 ∧ p.2.natAbs < 2 ^ 1000 := by
  have one : (1 : Nat) < 2 ^ 1000 := Nat.lt_of_lt_of_le (by decide : 1 < 2 ^ 40) (pow_le' (by decide))
  unfold fracO at h
  cases hc : cutO 47 t with
  | none =>
    rw [hc] at h
    cases hw : wholeO t with
    | none => rw [hw] at h; cases h
    | some i =>
      rw [hw] at h
      cases h
      exact ⟨wholeO_lt hw hl, one⟩
  | some q =>
    obtain ⟨a, b⟩ := q
    have hlen := cutO_len hc
    rw [hc] at h
    simp only at h hlen
    cases hw : wholeO a with
    | none => rw [hw] at h; cases h
    | some i =>
      cases hn : numO b with
      | none => rw [hw, hn] at h; cases h
      | some m =>
        rw [hw, hn] at h
        simp only at h
        split at h
        · cases h
          exact ⟨wholeO_lt hw (by omega), by have := numO_lt hn (by omega); simpa using this⟩
        · cases h
theorem fracR_rok {t : Tx} (hl : t.length ≤ 300) : (fracR t).rok = true ∧ (fracR t).rw ≤ 3000 := by
  unfold fracR
  cases h : fracO t with
  | none => exact ⟨rfl, by decide⟩
  | some p =>
    obtain ⟨h1, h2⟩ := fracO_lt h hl
    have a := int_rok h1
    have b := int_rok h2
    refine ⟨?_, ?_⟩
    · show ((D.int p.1).rok && ((D.int p.2).rok && true)) = true
      rw [a.1, b.1]; rfl
    · show (D.int p.1).rw + 2 + ((D.int p.2).rw + 2 + 0) + 3 ≤ 3000
      omega
theorem str_rok {t : Tx} (h : ∀ c ∈ t, c < 1000) (hl : t.length ≤ 9) : (D.str t).rok = true ∧ (D.str t).rw ≤ 3000 := by
  refine ⟨List.all_eq_true.mpr fun c hc => decide_eq_true (by have := h c hc; omega), ?_⟩
  show 10 * t.length + 2 ≤ _
  omega
theorem word_lt {w : Tx} (h : wordT w = true) : ∀ c ∈ w, c < 1000 := by
  unfold wordT at h
  simp only [Bool.and_eq_true, decide_eq_true_eq, List.all_eq_true] at h
  have : ∀ c ∈ smallT, c < 1000 := by decide
  exact fun c hc => this c (h.2.2 c hc)
theorem code_lt {w : Tx} (h : codeT w = true) : ∀ c ∈ w, c < 1000 := by
  unfold codeT at h
  simp only [Bool.and_eq_true, decide_eq_true_eq, List.all_eq_true] at h
  have : ∀ c ∈ figT, c < 1000 := by decide
  exact fun c hc => this c (h.2 c hc)
theorem thing_rok {c : Nat} {w : Tx} (hl : w.length ≤ 300) : (thingD c w).rok = true ∧ (thingD c w).rw ≤ 3000 := by
  unfold thingD numD
  split
  · exact fracR_rok hl
  split
  · split
    · rename_i h
      have ha : w.all isDig = true := by unfold canB at h; simp only [Bool.and_eq_true] at h; exact h.1.1
      have h2 : (10 : Nat) ^ 300 ≤ 2 ^ 1000 := by decide +kernel
      have := num_rok (Nat.lt_of_lt_of_le (Nat.lt_of_lt_of_le (digT_lt w ha) (Nat.pow_le_pow_right (by decide) hl)) h2)
      exact ⟨this.1, by omega⟩
    · exact ⟨rfl, by decide⟩
  split
  · split
    · exact ⟨rfl, by decide⟩
    · split
      · rename_i h
        exact str_rok (code_lt h.2) (code_len h.2)
      · exact ⟨rfl, by decide⟩
  · split
    · rename_i h
      exact str_rok (word_lt h) (Nat.le_trans (word_len h).2 (by decide))
    · exact ⟨rfl, by decide⟩
theorem things_rok : ∀ (ks : Tx) (ws : List Tx), (∀ u ∈ ws, u.length ≤ 300) → D.roks (things ks ws) = true ∧ D.rws (things ks ws) ≤ 3002 * ks.length
  | [], ws, _ => by cases ws <;> exact ⟨rfl, Nat.zero_le _⟩
  | c :: ks, [], _ => ⟨rfl, Nat.zero_le _⟩
  | c :: ks, w :: ws, h => by
    obtain ⟨a, b⟩ := things_rok ks ws fun u hu => h u (List.mem_cons_of_mem _ hu)
    obtain ⟨p, q⟩ := thing_rok (c := c) (h w List.mem_cons_self)
    refine ⟨?_, ?_⟩
    · show ((thingD c w).rok && D.roks (things ks ws)) = true
      rw [p, a]; rfl
    · show (thingD c w).rw + 2 + D.rws (things ks ws) ≤ _
      simp only [List.length_cons]
      omega
theorem shape_rok {w ks : Tx} (h : shapesT.lookup w = some ks) : (D.str w).rok = true ∧ (D.str w).rw ≤ 3000 := by
  refine ⟨kinds_rok h, ?_⟩
  unfold shapesT at h
  simp only [List.lookup_cons, List.lookup_nil] at h
  repeat' split at h
  all_goals first
    | (rename_i e; have e := eq_of_beq e; subst e; decide)
    | cases h
theorem formD_rok {t : Tx} (hl : t.length ≤ 300) : (formD t).rok = true ∧ (formD t).rw ≤ 20000 ∧ (formD t).dep ≤ 2 := by
  have nn : (D.non).rok = true ∧ (D.non).rw ≤ 20000 ∧ (D.non).dep ≤ 2 := ⟨rfl, by decide, by decide⟩
  cases hp : splT [32] 0 [] t with
  | nil => unfold formD; rw [hp]; exact nn
  | cons w ws =>
    have hf : formD t = match shapesT.lookup w with
      | some ks => if ws.length = ks.length ∧ (things ks ws).all (fun d => !eqD d .non) = true then .tup (.str w :: things ks ws) else .non
      | none => .non := by unfold formD; rw [hp] <;> rfl
    rw [hf]
    cases hk : shapesT.lookup w with
    | none => exact nn
    | some ks =>
      show (if ws.length = ks.length ∧ (things ks ws).all (fun d => !eqD d .non) = true then D.tup (.str w :: things ks ws) else .non).rok = true ∧ (if ws.length = ks.length ∧ (things ks ws).all (fun d => !eqD d .non) = true then D.tup (.str w :: things ks ws) else .non).rw ≤ 20000 ∧ (if ws.length = ks.length ∧ (things ks ws).all (fun d => !eqD d .non) = true then D.tup (.str w :: things ks ws) else .non).dep ≤ 2
      have hwm : ∀ u ∈ ws, u.length ≤ 300 := fun u hu => by
        have := splC_mem t [] u (by rw [hp]; exact List.mem_cons_of_mem _ hu)
        simp at this
        omega
      have kl := kinds_len hk
      have a := shape_rok hk
      have b := things_rok ks ws hwm
      have e := (things_ok ks ws).2
      split
      · refine ⟨?_, ?_, ?_⟩
        · show ((D.str w).rok && D.roks (things ks ws)) = true
          rw [a.1, b.1]; rfl
        · show (D.str w).rw + 2 + D.rws (things ks ws) + 3 ≤ _
          omega
        · show max 0 (D.deps (things ks ws)) + 1 ≤ 2
          omega
      · exact nn
theorem told_ok {d : D} (hp : d.pure = true) (hr : d.rok = true) (hw : d.rw ≤ 20000) (hd : d.dep ≤ 2) : (toldD d).pure = true ∧ (toldD d).rok = true ∧ (toldD d).rw ≤ 20010 ∧ (toldD d).dep ≤ 3 := by
  unfold toldD
  split
  · exact ⟨rfl, by decide, by decide, by decide⟩
  · refine ⟨?_, ?_, ?_, ?_⟩
    · show (d.pure && true) = true
      rw [hp]; rfl
    · show (d.rok && true) = true
      rw [hr]; rfl
    · show d.rw + 2 + 0 + 3 ≤ _
      omega
    · show max d.dep 0 + 1 ≤ 3
      omega
theorem read_ok {d : D} (h : Ask d) : ((readD fracR d).pure = true ∧ (readD fracR d).rok = true ∧ (readD fracR d).rw ≤ 20000 ∧ (readD fracR d).dep ≤ 2) ∧ ((readD formD d).pure = true ∧ (readD formD d).rok = true ∧ (readD formD d).rw ≤ 20000 ∧ (readD formD d).dep ≤ 2) := by
  have nn : (D.non).pure = true ∧ (D.non).rok = true ∧ (D.non).rw ≤ 20000 ∧ (D.non).dep ≤ 2 := ⟨rfl, rfl, by decide, by decide⟩
  cases d with
  | str t =>
    have hl := h.2 t rfl
    have a := fracR_rok hl
    have b := formD_rok hl
    have c := fracD_ok (fracO t)
    exact ⟨⟨c.1, a.1, Nat.le_trans a.2 (by decide), Nat.le_trans c.2 (by decide)⟩, formD_pure t, b.1, b.2.1, b.2.2⟩
  | _ => exact ⟨nn, nn⟩
end
end PZ
end
section
/-! Nl: torn texts. -/
set_option linter.all false
set_option maxRecDepth 100000
set_option Elab.async false
namespace PZ
/-- the signs of texts, each with one more -/
def sgn (us : List Tx) : Nat := (us.map List.length).sum + us.length
theorem sgn_nil : sgn [] = 0 := rfl
theorem sgn_cons (u : Tx) (us : List Tx) : sgn (u :: us) = u.length + 1 + sgn us := by simp [sgn]; omega
theorem sgn_app (us vs : List Tx) : sgn (us ++ vs) = sgn us + sgn vs := by simp [sgn]; omega
theorem sgn_rev (us : List Tx) : sgn us.reverse = sgn us := by simp [sgn, List.sum_reverse]
theorem sgn_cut (us : List Tx) (x : Nat) : sgn (us.take x) + sgn (us.drop x) = sgn us := by
  rw [← sgn_app, List.take_append_drop]
theorem sgn_drop (us : List Tx) : sgn (us.drop 1) ≤ sgn us := by
  have := sgn_cut us 1
  omega
theorem join_len : ∀ us : List Tx, (joinT [32] us).length ≤ sgn us
  | [] => Nat.zero_le _
  | [p] => by simp [joinT, sgn]
  | p :: q :: r => by
    have := join_len (q :: r)
    rw [sgn_cons]
    simp [joinT]
    omega
theorem splT_sgn : ∀ (t acc : Tx), sgn (splT [32] 0 acc t) = acc.length + t.length + 1
  | [], acc => by simp [splT, sgn]
  | x :: r, acc => by
    rw [splT]
    split
    · rw [sgn_cons, show ([32] : Tx).length - 1 = 0 from rfl, splT_sgn r []]
      simp; omega
    · rw [splT_sgn r (acc ++ [x])]
      simp; omega
theorem cut_hi {α : Type} {l : List α} {j : Int} (h : 0 ≤ j) : cutL l none (some j) = l.take j.toNat := by
  show ((l.drop 0).take ((if j < 0 then (j + (l.length : Int)).toNat else min j.toNat l.length) - 0)) = _
  rw [if_neg (by omega), List.drop_zero, Nat.sub_zero]
  by_cases hj : j.toNat ≤ l.length
  · rw [Nat.min_eq_left hj]
  · rw [Nat.min_eq_right (by omega), List.take_of_length_le (Nat.le_refl _), List.take_of_length_le (by omega)]
theorem cut_lo {α : Type} {l : List α} {j : Int} (h : 0 ≤ j) : cutL l (some j) none = l.drop j.toNat := by
  show ((l.drop (if j < 0 then (j + (l.length : Int)).toNat else min j.toNat l.length)).take (l.length - (if j < 0 then (j + (l.length : Int)).toNat else min j.toNat l.length))) = _
  rw [if_neg (by omega)]
  by_cases hj : j.toNat ≤ l.length
  · rw [Nat.min_eq_left hj]
    exact List.take_of_length_le (by simp)
  · rw [Nat.min_eq_right (by omega), List.drop_of_length_le (i := l.length) (Nat.le_refl _), List.drop_of_length_le (by omega)]
    simp
section
variable {k n : Nat} {s s' : Sto} {ρ : Env} {d : D} {E : Nat → Sto → Prop}
theorem w_torn {t : Tx} {Q : D → Sto → Prop} (h : St n s) (hl : t.length ≤ 290) (q : ∀ t' s', t'.length ≤ t.length + 8 → Stp n s s' → Q (.str t') s') : W ((glo Pg (k + 2)).fn i_l_torn [.ref n, .str t] s) Q E := by
  refine W_fn (k := k + 1) (i := i_l_torn) (d := d_l_torn) (ds := [.ref n, .str t]) rfl rfl rfl ?_
  have lq : line = 16000000 := rfl
  have hl2 : t.length ≤ line := by omega
  have hs := fun s => meM_splt (z := t) (c := 32) (s := s) (by decide) (by omega)
  simp only [d_l_torn, b_l_torn, env0]
  obtain ⟨ws, hws⟩ : ∃ ws, ws = splT [32] 0 [] t := ⟨_, rfl⟩
  have hsg : sgn ws = t.length + 1 := by rw [hws, splT_sgn]; simp
  have hne : 0 < ws.length := by
    rw [hws, splT_eq]
    cases cutO 32 t <;> simp
  have hwl : ws.length ≤ 291 := by unfold sgn at hsg; omega
  rw [← hws] at hs
  simp [hs, hl2, bindT_v]
  refine w_choice h (by omega) (Nat.lt_of_lt_of_le (show _ < 2 ^ 40 by omega) (pow_le' (by decide))) fun r7 s1 a7 b7 t1 => ?_
  refine w_choice t1.st (by decide) (by decide) fun r8 s2 a8 b8 t2 => ?_
  obtain ⟨c8, e8, m8⟩ := atI_of (l := ([48, 49, 50, 51, 52, 53, 54, 55, 56, 57, 47, 45, 32, 97, 98, 65, 66, 46, 43] : Tx)) a8 b8
  simp [e8, lq]
  refine w_choice t2.st (by decide) (by decide) fun r9 s3 a9 b9 t3 => ?_
  refine w_choice t3.st (by omega) (Nat.lt_of_lt_of_le (show _ < 2 ^ 40 by omega) (pow_le' (by decide))) fun r10 s4 a10 b10 t4 => ?_
  have t04 := ((t1.trans t2).trans t3).trans t4
  simp [intD, sliceD, lq]
  have c7 : cutL t none (some r7) = t.take r7.toNat := cut_hi a7
  have c79 : cutL t (some (r7 + r9)) none = t.drop (r7 + r9).toNat := cut_lo (by omega)
  have c71 : cutL t (some (r7 + 1)) none = t.drop (r7 + 1).toNat := cut_lo (by omega)
  by_cases h2 : r9 < 2
  · refine .inr ⟨h2, ?_⟩
    rw [c7, c79]
    have l1 : (t.take r7.toNat).length + (t.drop (r7 + r9).toNat).length ≤ t.length := by simp; omega
    have l2 : (t.take r7.toNat ++ (c8 :: t.drop (r7 + r9).toNat)).length ≤ t.length + 8 := by simp at l1 ⊢; omega
    refine ⟨by omega, by simp; omega, by omega, by simp at l1 ⊢; omega, t04.len, q _ _ l2 t04⟩
  · refine .inl ⟨by omega, ?_⟩
    by_cases h3 : r9 = 2
    · refine .inr ⟨h3, ?_⟩
      rw [c7, c71]
      have l1 : (t.take r7.toNat).length + (t.drop (r7 + 1).toNat).length ≤ t.length := by simp; omega
      have l2 : (t.take r7.toNat ++ t.drop (r7 + 1).toNat).length ≤ t.length + 8 := by simp at l1 ⊢; omega
      refine ⟨by omega, by simp at l1 ⊢; omega, t04.len, q _ _ l2 t04⟩
    · refine .inl ⟨h3, ?_⟩
      have d1 : cutL (ws.map D.str) none (some r10) = (ws.take r10.toNat).map .str := by rw [cut_hi a10, List.map_take]
      have d2 : cutL (ws.map D.str) (some (r10 + 1)) none = (ws.drop (r10 + 1).toNat).map .str := by rw [cut_lo (by omega), List.map_drop]
      have d3 : cutL (ws.map D.str) (some r10) none = (ws.drop r10.toNat).map .str := by rw [cut_lo a10, List.map_drop]
      have d4 : revD (.lst (ws.map D.str)) = some (.lst (ws.reverse.map .str)) := by show some (D.lst (ws.map D.str).reverse) = _; rw [List.map_reverse]
      rw [d1, d2, d3, d4]
      refine w_choice t4.st (by decide) (by decide) fun r11 s5 a11 b11 t5 => ?_
      refine w_pick a11 b11 fun x hx => ?_
      have hx' : ∃ w, x = .str w ∧ w.length ≤ 6 := by
        simp only [List.mem_cons, List.not_mem_nil, or_false] at hx
        rcases hx with rfl | rfl | rfl | rfl | rfl | rfl | rfl | rfl | rfl | rfl | rfl | rfl | rfl | rfl | rfl | rfl <;> exact ⟨_, rfl, by decide⟩
      obtain ⟨w, rfl, hw⟩ := hx'
      have t05 := t04.trans t5
      have fin : ∀ us : List Tx, sgn us ≤ t.length + 8 → W (meM .join (.str [32]) [.lst (us.map .str)] s5) (fun x s' => s'.length = s.length ∧ Q x s') (fun c s' => s'.length = s.length ∧ E c s') := fun us hu => by
        rw [meM_join (strsOf_strs us) (by unfold sgn at hu; simp; omega)]
        exact ⟨t05.len, q _ _ (Nat.le_trans (join_len us) hu) t05⟩
      have g1 := sgn_cut ws r10.toNat
      have g2 := sgn_cut ws (r10 + 1).toNat
      have g3 : sgn (ws.take r10.toNat) ≤ sgn (ws.take (r10 + 1).toNat) := by
        have e : ws.take r10.toNat = (ws.take (r10 + 1).toNat).take r10.toNat := by rw [List.take_take]; congr 1; omega
        have := sgn_cut (ws.take (r10 + 1).toNat) r10.toNat
        rw [e]; omega
      have rows : ∀ i : Int, 0 ≤ i → i < 4 → ∃ us : List Tx, atI [D.lst ((ws.take r10.toNat).map .str ++ .str w :: (ws.drop (r10 + 1).toNat).map .str), .lst ((ws.take r10.toNat).map .str ++ (ws.drop (r10 + 1).toNat).map .str), .lst ((ws.take r10.toNat).map .str ++ .str w :: (ws.drop r10.toNat).map .str), .lst (ws.reverse.map .str)] i = some (.lst (us.map .str)) ∧ sgn us ≤ t.length + 8 := by
        intro i i0 i4
        have : i = 0 ∨ i = 1 ∨ i = 2 ∨ i = 3 := by omega
        rcases this with rfl | rfl | rfl | rfl
        · exact ⟨ws.take r10.toNat ++ w :: ws.drop (r10 + 1).toNat, by simp, by rw [sgn_app, sgn_cons]; omega⟩
        · exact ⟨ws.take r10.toNat ++ ws.drop (r10 + 1).toNat, by simp, by rw [sgn_app]; omega⟩
        · exact ⟨ws.take r10.toNat ++ w :: ws.drop r10.toNat, by simp, by rw [sgn_app, sgn_cons]; omega⟩
        · exact ⟨ws.reverse, by simp, by rw [sgn_rev]; omega⟩
      obtain ⟨us, e1, e2⟩ := rows (r9 - 3) (by omega) (by omega)
      simp [-List.map_reverse, -List.map_take, -List.map_drop]
      rw [e1]
      refine ⟨?_, ?_, ?_, ?_, ?_, fin us e2⟩
      all_goals (first | omega | (simp; omega))
end
end PZ
end
section
/-! Nm: law k75. -/
set_option linter.all false
set_option maxRecDepth 100000
set_option Elab.async false
set_option maxHeartbeats 0
namespace PZ
section
variable {k n : Nat} {s s' s1 : Sto} {ρ : Env} {d : D} {E : Nat → Sto → Prop}
theorem Sh.len {f : D} {t : Tx} (h : Sh f t) : t.length ≤ 270 := by
  obtain @⟨w, ks, ds, ts, hk, hw, hl, hp, hd⟩ := h
  have kl := kinds_len hk
  have ln := hw.len
  have sm := hw.sum
  have wl : w.length ≤ 7 := by
    unfold shapesT at hk
    simp only [List.lookup_cons, List.lookup_nil] at hk
    repeat' split at hk
    all_goals first
      | (rename_i e; have e := eq_of_beq e; subst e; decide)
      | cases hk
  refine Nat.le_trans (join_len (w :: ts)) ?_
  unfold sgn
  simp
  omega
theorem Frt.len {i j : Int} (h : Frt i j) : (fracT i j).length ≤ 63 := frac_len h.2.1.1 h.2.1.2
def askD (d : D) : Bool := d.pure && (match d with | .str t => decide (t.length ≤ 300) | _ => true)
theorem askD_ok (h : askD d = true) : Ask d := by
  unfold askD at h
  simp only [Bool.and_eq_true] at h
  refine ⟨h.1, ?_⟩
  rintro t rfl
  exact of_decide_eq_true h.2
theorem ask_str {t : Tx} (h : t.length ≤ 300) : Ask (.str t) := ⟨rfl, fun u e => by cases e; exact h⟩
/-- lists of plain data, made on the way -/
def Pl (xs : Sto) : Prop := ∀ o ∈ xs, ∃ l, o = .lst l ∧ D.pures l = true
theorem up_app {xs : Sto} (h : Fl s1) (hx : Pl xs) : Up (s1 ++ xs) := by
  unfold Up
  rw [List.all_eq_true]
  intro o ho
  rcases List.mem_append.mp ho with ho | ho
  · obtain ⟨a, b, c, rfl⟩ := h o ho
    rfl
  · obtain ⟨l, rfl, hl⟩ := hx o ho
    exact pures_upto l hl
theorem trunc_bl {xs : Sto} (h : Fl s1) : trunc s1.length (.bl true) (s1 ++ xs) = .ok (.bl true) s1 := by
  unfold trunc
  split
  · rename_i e
    have : xs = [] := List.length_eq_zero_iff.mp (by simp at e; simp [e])
    subst this
    simp
  · have e : (s1 ++ xs).take s1.length = s1 := by simp
    rw [e, if_pos h.upto, if_pos (show D.upto s1.length (.bl true) = true from rfl)]
theorem same_told {a b : D} {m : Nat} (hm : s[m]? = some (.lst [a, b])) (ha : a.pure = true ∧ a.rok = true ∧ a.rw ≤ 20010 ∧ a.dep ≤ 3) (hb : b.pure = true ∧ b.rok = true ∧ b.rw ≤ 20010 ∧ b.dep ≤ 3) :
    (glo Pg (k + 1)).fn i_l_same [.ref m, .lst [a, b]] s = .ok (.bl true) s := by
  refine ok_of (W_fn (d := d_l_same) rfl rfl rfl ?_)
  have hr : biD .repr [.lst [a, b]] = some (.str (reprT (.lst [a, b]))) := by
    refine biD_repr_ok ?_ ?_ ?_ ?_
    · show (a.pure && (b.pure && true)) = true
      rw [ha.1, hb.1]; rfl
    · show max a.dep (max b.dep 0) + 1 ≤ 60
      omega
    · show (a.rok && (b.rok && true)) = true
      rw [ha.2.1, hb.2.1]; rfl
    · show a.rw + 2 + (b.rw + 2 + 0) + 3 ≤ line
      unfold line
      omega
  have hb2 : biM .repr [.ref m] s = M.opt (biD .repr [rd s (.ref m)]) s := rfl
  rw [rd_ref hm] at hb2
  simp [d_l_same, b_l_same, env0, hb2, hr]
def tl10 : CSs → CSs
  | .cons _ (.cons _ (.cons _ (.cons _ (.cons _ (.cons _ (.cons _ (.cons _ (.cons _ (.cons _ r))))))))) => r
  | r => r
def hd10 : CSs → CSs → CSs
  | .cons a (.cons b (.cons c (.cons d (.cons e (.cons f (.cons g (.cons h (.cons i (.cons j _))))))))), r => .cons a (.cons b (.cons c (.cons d (.cons e (.cons f (.cons g (.cons h (.cons i (.cons j r)))))))))
  | x, _ => x
theorem pl_nil : Pl [] := fun o ho => nomatch ho
theorem pl_snoc {xs : Sto} {l : List D} (h : Pl xs) (hl : D.pures l = true) : Pl (xs ++ [.lst l]) := fun o ho => by
  rcases List.mem_append.mp ho with ho | ho
  · exact h o ho
  · rw [List.mem_singleton] at ho
    exact ⟨l, ho, hl⟩
/-- each text is read as the law reads it -/
theorem w_loop {z : Nat} {L : List D} {a2 a3' a4 a5 : Option D} {Q : D → Sto → Prop} (hL : ∀ d ∈ L, Ask d) (hf : Fl s1) (hn : s1.length = n) (q : Q (.bl true) s1) :
    WS (evSs (glo Pg (k + 8)) (match tl10 b_l_right'2 with | .cons _ r => r | r => r) [some (.ref z), some (.lst L), a2, a3', a4, a5, none, none, none, none] s1)
      ⟨fun _ s' => W (trunc n .non s') Q E, fun x s' => W (trunc n x s') Q E, fun c s' => W (truncE n c s') Q E, fun _ _ => False⟩ := by
  have s2' : small62 2 = true := by decide
  subst hn
  simp only [b_l_right'2, tl10]
  simp [seqOf]
  refine forL_inv (fun i ρ s' => ∃ xs a3 a6 a7 a8 a9, Pl xs ∧ s' = s1 ++ xs ∧ ρ = [some (.ref z), some (.lst L), a2, a3, a4, a5, a6, a7, a8, a9]) _ 0 _ _ ⟨[], _, _, _, _, _, pl_nil, by simp, rfl⟩ (fun _ _ _ _ => rfl) (fun j x ρ s' hx hI => ?_) fun ρ s' hI => ?_
  · obtain ⟨xs, a3, a6, a7, a8, a9, hp, rfl, rfl⟩ := hI
    have hb : ∀ x, bindT (.v 3) x [some (.ref z), some (.lst L), a2, a3, a4, a5, a6, a7, a8, a9] = some [some (.ref z), some (.lst L), a2, some x, a4, a5, a6, a7, a8, a9] := fun _ => rfl
    rw [W_lF (hb _)]
    have hA := hL x (List.mem_of_getElem? hx)
    have hup := up_app hf hp
    have hpx := hA.1
    have rd2 := read_ok hA
    obtain ⟨A, hAe⟩ : ∃ A, A = toldD (readD fracR x) := ⟨_, rfl⟩
    obtain ⟨B, hBe⟩ : ∃ B, B = toldD (readD formD x) := ⟨_, rfl⟩
    have eA := c_l_due3 (k := k + 7) (s := s1 ++ xs) rd2.1.1
    have eB := c_l_due3 (k := k + 7) (s := s1 ++ xs) rd2.2.1
    have oA := told_ok rd2.1.1 rd2.1.2.1 rd2.1.2.2.1 rd2.1.2.2.2
    have oB := told_ok rd2.2.1 rd2.2.2.1 rd2.2.2.2.1 rd2.2.2.2.2
    rw [← hAe] at eA oA
    rw [← hBe] at eB oB
    have due : ∀ {P : Ps}, WS (evS (glo Pg (k + 8)) (.asg (.v 7) (.lst (.cons (.call 265 (.cons (.ite (.v 6) (.call 260 (.cons (.v 3) (.nil))) (.c .non)) (.nil))) (.cons (.call 265 (.cons (.ite (.v 6) (.call 263 (.cons (.v 3) (.nil))) (.c .non)) (.nil))) (.nil))))) [some (.ref z), some (.lst L), a2, some x, a4, a5, some (.bl (isStrD x)), a7, a8, a9] (s1 ++ xs)) P ↔ P.nx [some (.ref z), some (.lst L), a2, some x, a4, a5, some (.bl (isStrD x)), some (.lst [A, B]), a8, a9] (s1 ++ xs) := by
      intro P
      cases x with
      | str t =>
        have e1 := c_l_fraction_in (k := k + 5) (s := s1 ++ xs) (hA.2 t rfl)
        have e2 := c_l_form_in (k := k + 3) hup (hA.2 t rfl)
        simp only [readD, fracR] at eA eB
        simp [bindT_v, e1, e2, eA, eB]
      | _ =>
        have hAB : B = A := hBe.trans hAe.symm
        simp only [readD] at eA
        simp [bindT_v, eA, hAB]
    have fst : ∀ {P : Ps}, WS (evS (glo Pg (k + 8)) (.asg (.v 6) (.bi .isS (.cons (.v 3) .nil))) [some (.ref z), some (.lst L), a2, some x, a4, a5, a6, a7, a8, a9] (s1 ++ xs)) P ↔ P.nx [some (.ref z), some (.lst L), a2, some x, a4, a5, some (.bl (isStrD x)), a7, a8, a9] (s1 ++ xs) := by
      intro P
      simp [hpx, bindT_v]
    rw [WS_cons, fst]
    show WS (evSs _ _ _ _) _
    rw [WS_cons, due]
    simp [s2']
    refine forL_inv (fun i ρ s' => ∃ xs a8 a9, Pl xs ∧ s' = s1 ++ xs ∧ ρ = [some (.ref z), some (.lst L), a2, some x, a4, a5, some (.bl (isStrD x)), some (.lst [A, B]), a8, a9]) _ 0 _ _ ⟨xs, _, _, hp, rfl, rfl⟩ (fun _ _ _ _ => rfl) (fun j x2 ρ s' hx2 hI => ?_) fun ρ s' hI => ?_
    · obtain ⟨xs, a8, a9, hp, rfl, rfl⟩ := hI
      have hb2 : ∀ y, bindT (.v 8) y [some (.ref z), some (.lst L), a2, some x, a4, a5, some (.bl (isStrD x)), some (.lst [A, B]), a8, a9] = some [some (.ref z), some (.lst L), a2, some x, a4, a5, some (.bl (isStrD x)), some (.lst [A, B]), some y, a9] := fun _ => rfl
      rw [W_lF (hb2 _)]
      have g1 := fun ρ h => said_fraction (k := k + 4) (s := s1 ++ xs) (ρ := ρ) hA (u := 3) h
      have g2 := fun ρ h => said_form (k := k + 2) (s := s1 ++ xs ++ [.lst [A]]) (ρ := ρ) hA (u := 3) h
      have m1 : (s1 ++ xs ++ [MO.lst [A]])[(s1 ++ xs).length]? = some (.lst [A]) := by simp
      have m2 : (s1 ++ xs ++ [MO.lst [A, B]])[(s1 ++ xs).length]? = some (.lst [A, B]) := by simp
      have m3 : (s1 ++ xs ++ [MO.lst [A]]).set (s1 ++ xs).length (.lst ([A] ++ [B])) = s1 ++ xs ++ [.lst [A, B]] := by simp
      have ap1 := meTy_app m1
      have ap2 := meM_app (x := B) m1 (show 1 < line by decide)
      rw [m3] at ap2
      have sm := same_told (k := k + 7) m2 oA oB
      obtain ⟨N, hN⟩ : ∃ N, N = (s1 ++ xs).length := ⟨_, rfl⟩
      obtain ⟨T, hT⟩ : ∃ T, T = s1 ++ xs := ⟨_, rfl⟩
      rw [← hN, ← hT] at ap1 ap2 sm
      rw [← hT]
      rw [← hT] at hN
      rw [← hT, ← hAe] at g1
      rw [← hT, ← hBe] at g2
      have g1' := g1 [some (.ref z), some (.lst L), a2, some x, a4, a5, some (.bl (isStrD x)), some (.lst [A, B]), some x2, a9] rfl
      have g2' := g2 [some (.ref z), some (.lst L), a2, some x, a4, a5, some (.bl (isStrD x)), some (.lst [A, B]), some x2, some (.ref N)] rfl
      simp [g1', g2', bindT_v, ← hN, ap1, ap2, sm]
      subst hT
      exact ⟨xs ++ [.lst [A, B]], pl_snoc hp (by show (A.pure && (B.pure && true)) = true; rw [oA.1, oB.1]; rfl), by simp⟩
    · obtain ⟨xs, a8, a9, hp, rfl, rfl⟩ := hI
      exact ⟨xs, hp, rfl, _, _, _, _, _, rfl⟩
  · obtain ⟨xs, a3, a6, a7, a8, a9, hp, rfl, rfl⟩ := hI
    simp [trunc_bl hf]
    exact q
theorem ask_app {L M : List D} (h : ∀ d ∈ L, Ask d) (g : ∀ d ∈ M, Ask d) : ∀ d ∈ L ++ M, Ask d := fun d hd => by
  rcases List.mem_append.mp hd with hd | hd
  · exact h d hd
  · exact g d hd
theorem w_right2 {Q : D → Sto → Prop} (h : St n s) (hf : Fl s) (q : ∀ s', Stp n s s' → Q (.bl true) s') : W ((glo Pg (k + 9)).fn i_l_right'2 [.ref n] s) Q E := by
  refine W_fnT (d := d_l_right'2) rfl rfl rfl ?_
  have s8 : small62 8 = true := by decide
  obtain ⟨R, hR⟩ : ∃ R, R = tl10 b_l_right'2 := ⟨_, rfl⟩
  obtain ⟨R2, hR2⟩ : ∃ R2, R2 = (match tl10 b_l_right'2 with | .cons _ r => r | r => r) := ⟨_, rfl⟩
  have hbody : d_l_right'2.body = hd10 b_l_right'2 R := by rw [hR]; rfl
  have lq : line = 16000000 := rfl
  rw [hbody]
  simp only [hd10, b_l_right'2, env0, d_l_right'2]
  simp [bindT_v, lq]
  have go : ∀ L0 : List D, (∀ d ∈ L0, Ask d) → L0.length ≤ 60 → WS (evSs (glo Pg (k + 8)) R [some (.ref n), some (.lst L0), none, none, none, none, none, none, none, none] s) ⟨fun _ s' => W (trunc s.length .non s') Q E, fun x s' => W (trunc s.length x s') Q E, fun c s' => W (truncE s.length c s') Q E, fun _ _ => False⟩ := by
    intro L0 hL0 hl0
    rw [hR]
    show WS (evSs _ (.cons _ (match tl10 b_l_right'2 with | .cons _ r => r | r => r)) _ _) _
    rw [← hR2, WS_cons]
    simp [s8]
    refine forL_inv (fun i ρ s' => i ≤ 8 ∧ Stp n s s' ∧ ∃ L a2 a3 a4 a5, (∀ d ∈ L, Ask d) ∧ L.length ≤ 60 + 5 * i ∧ ρ = [some (.ref n), some (.lst L), a2, a3, a4, a5, none, none, none, none]) _ 0 _ _ ⟨by omega, .refl h, L0, none, none, none, none, hL0, hl0, rfl⟩ (fun _ _ _ _ => rfl) (fun j x ρ s1 hx hI => ?_) fun ρ s1 hI => ?_
    · obtain ⟨hi, t1, L, a2, a3, a4, a5, hL, hl, rfl⟩ := hI
      have hj : j < 8 := by
        have := (List.getElem?_eq_some_iff.mp hx).1
        simpa [rng_get] using this
      have hb : ∀ y, bindT (.v 2) y [some (.ref n), some (.lst L), a2, a3, a4, a5, none, none, none, none] = some [some (.ref n), some (.lst L), some y, a3, a4, a5, none, none, none, none] := fun _ => rfl
      rw [W_lF (hb _)]
      simp
      refine w_shape t1.st fun f tx s2 h2 t2 => ?_
      have e2 := c_l_form_text (k := k + 6) (hf.stp (t1.trans t2)) h2
      have l2 := h2.len
      simp [e2, bindT_v]
      refine w_torn t2.st (by omega) fun t3 s3 l3 t3' => ?_
      refine w_torn t3'.st (by omega) fun t4 s4 l4 t4' => ?_
      refine ⟨by omega, ?_⟩
      refine w_any t4'.st fun p r s5 h5 t5 => ?_
      have e5 := c_l_fraction_text (k := k + 7) (s := s5) h5
      have l5 := h5.len
      simp [e5]
      refine w_torn t5.st (by omega) fun t6 s6 l6 t6' => ?_
      refine ⟨by omega, by omega, (((((t1.trans t2).trans t3').trans t4').trans t5).trans t6'), ?_, by omega⟩
      intro d hd
      rcases hd with hd | rfl | rfl | rfl | rfl | rfl
      · exact hL d hd
      · exact ask_str (by omega)
      · exact ask_str (by omega)
      · exact ask_str (by omega)
      · exact ask_str (by omega)
      · exact ask_str (by omega)
    · obtain ⟨hi, t1, L, a2, a3, a4, a5, hL, hl, rfl⟩ := hI
      have w := w_loop (k := k) (z := n) (a2 := a2) (a3' := a3) (a4 := a4) (a5 := a5) (E := E) (Q := Q) hL (hf.stp t1) t1.len (q s1 t1)
      rw [← hR2] at w
      exact w.mono (fun _ _ z => z) (fun _ _ z => z) (fun _ _ z => z) (fun _ _ z => z)
  refine (go _ ?_ ?_).mono (fun _ _ z => z) (fun _ _ z => z) (fun _ _ z => z) (fun _ _ z => z)
  · exact fun d hd => askD_ok (List.all_eq_true.mp (by decide) d hd)
  · exact Nat.le_of_ble_eq_true rfl
theorem w_law9 {ns : List Int} (hl : ns.length ≤ 63) : W ((glo Pg (k + 10)).fn i_law'9 [.scr ns] []) (fun d _ => d = .bl true) E := by
  refine W_fnT (d := d_law'9) rfl rfl rfl ?_
  have s1 : small62 1 = true := by decide
  have tr : ∀ s : Sto, trunc 0 (.bl true) s = .ok (.bl true) (s.take 0) := fun s => by
    unfold trunc
    by_cases h : s.length = 0
    · rw [if_pos h, List.take_of_length_le (Nat.le_of_eq h)]
    · rw [if_neg h, if_pos (show (s.take 0).all (MO.upto 0) = true from rfl), if_pos (show D.upto 0 (.bl true) = true from rfl)]
  simp only [d_law'9, b_law'9, env0]
  simp [s1]
  generalize hm : (if (1 : Int) < if 4 < (ns.length : Int) then 4 else (ns.length : Int) then if 4 < (ns.length : Int) then 4 else (ns.length : Int) else 1) = m
  have hm1 : 1 ≤ m ∧ m ≤ 4 := by
    subst hm
    repeat' split
    all_goals omega
  refine ⟨by unfold small62; simp only [Bool.and_eq_true, decide_eq_true_eq]; constructor <;> omega, ?_⟩
  refine forL_inv (fun i ρ s' => Fl s' ∧ ∃ a1 a2 a3, ρ = [some (.scr ns), a1, a2, a3]) _ 0 _ _ ⟨fl_nil, _, _, _, rfl⟩ (fun _ _ _ _ => rfl) (fun j x ρ s2 hx hI => ?_) fun ρ s2 hI => ?_
  · obtain ⟨hf, a1, a2, a3, rfl⟩ := hI
    have b1 : ∀ x, bindT (.v 1) x [some (.scr ns), a1, a2, a3] = some [some (.scr ns), some x, a2, a3] := fun _ => rfl
    rw [W_lF (b1 _), rngL_at hx]
    simp
    refine w_state (k := k + 7) fun s3 h1 h2 h3 => ?_
    have b2 : ∀ x y, bindT (.v 2) x [some (.scr ns), y, a2, a3] = some [some (.scr ns), y, some x, a3] := fun _ _ => rfl
    simp [b2, s1]
    have hf3 := hf.state h1 h2 h3
    refine forL_inv (fun i ρ s' => Fl s' ∧ St s2.length s' ∧ ∃ a1 a3, ρ = [some (.scr ns), a1, some (.ref s2.length), a3]) _ 0 _ _ ⟨hf3, h1, _, _, rfl⟩ (fun _ _ _ _ => rfl) (fun j4 x4 ρ s4 hx4 hI => ?_) fun ρ s4 hI => ?_
    · obtain ⟨hf4, h4, a1', a3', rfl⟩ := hI
      have b3 : ∀ x y z, bindT (.v 3) x [some (.scr ns), y, z, a3'] = some [some (.scr ns), y, z, some x] := fun _ _ _ => rfl
      rw [W_lF (b3 _ _ _)]
      simp
      refine w_right2 h4 hf4 fun s5 t5 => ?_
      simp
      exact ⟨hf4.stp t5, t5.st⟩
    · obtain ⟨hf4, h4, a1', a3', rfl⟩ := hI
      simp
      exact hf4
  · obtain ⟨hf, a1, a2, a3, rfl⟩ := hI
    simp [tr]
theorem hsay75 : ∀ ns : List Int, ns.length ≤ 63 → (∀ z ∈ ns, PySem.Builtin.Int.intBits z ≤ 1048576) → ∃ S', (glo Pg 40).fn i_law'9 [.scr ns] [] = .ok (.bl true) S' := fun ns h _ => by
  obtain ⟨a, s, e, rfl⟩ := (w_law9 (k := 30) (E := noE) h).eq
  exact ⟨s, e⟩
end
end PZ
end
open PySem PySem.W PyProof.Rows
set_option Elab.async false
set_option maxRecDepth 100000 in
set_option maxHeartbeats 8000000 in
theorem PySem.Challenge.cw_onewhere_k75_texts_read_holds : PySem.Challenge.rw_onewhere_k75_texts_read.Holds := by
  exact PZ.law_holds PZ.hsay75
